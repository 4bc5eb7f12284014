import PyProof.Rows.All
import Wide.All
import OpenK.AllK
import Wide.FinOn
import HandS.ForMost
import HandS.ForExc
import HandS.Walk
import HandS.Wide
import KE.SortData
import HandS.ExcIs
import HandS.ExcField
import HandS.ExcInit
import HandS.TryOnly
import KE.DataEq
import HandS.Zip
import PyProof.Draws
import HandS.Rev
import HandS.Defaults
import HandS.WordsExc
import HandS.Comp
import HandS.Small
import HandS.Text
import HandS.IsInst
import HandS.SortInts
import HandS.Head0
import HandS.Head1
import HandS.Head2
import HandS.HeadEnd
import HandS.HeadHook1
import HandS.HeadHook2
import HandS.Replace
import KE.KExcIs
import HandS.Style
import HandS.More
import HandS.Deep
import PyProof.Rows.StrMeet
import KE.KEqDict
import HandS.Set
import HandS.SetFor
import HandS.DeepEq
import HandS.TupSets
import KE.KSortTupAny
import HandS.TupAny
import HandS.ReplaceList
import HandS.SuiteRaise
import HandS.HotCalls
import HandS.StrMore
import HandS.RaiseMore
import HandS.SortKw
import KE.DataMinMax
import KE.GoesRaise
import PySem.Challenge.RW_findcourt_k06_pieces
set_option Elab.async false
set_option linter.all false
set_option maxRecDepth 100000
set_option maxHeartbeats 4100000
namespace Vw
open PySem L2
inductive K0 where
 | i (n:Int)
 | s (t:List Nat)
 deriving DecidableEq
inductive D where
 | non
 | bl (b:Bool)
 | int (i:Int)
 | str (s:List Nat)
 | tup (l:List D)
 | lst (l:List D)
 | dic (l:List (K0×D))
 | dit (l:List (List K0×D))
 | ins (c:String) (fs:List (String×D))
 | exc (c:String) (p:List D)
inductive Val where
 | d (x:D)
 | r (n:Nat)
 | tp (l:List Val)
inductive Ob where
 | lst (l:List Val)
 | dic (k:Bool) (l:List (K0×Val))
 | dit (k:Bool) (l:List (List K0×Val))
 | ins (c:String) (fs:List (String×Val))
 | gone
inductive Sl where
 | v (x:Val)
 | own (o:Ob)
abbrev Slots:=List (Option Sl)
structure State where
 sg:Slots
 st:List Ob
inductive RV where
 | val (x:Val)
 | new (o:Ob)
 | own (i:Nat)
structure Exn where
 c:String
 p:Option D
inductive Res (α:Type) where
 | ok (a:α) (s:State)
 | exc (x:Exn) (s:State)
 | stuck
def Res.bind{α β:Type}:Res α→(α→State→Res β)→Res β
 | .ok a s,k=>k a s
 | .exc x s,_=>.exc x s
 | .stuck,_=>.stuck
@[simp] theorem Res.ae{α β:Type}(a:α)(s:State)(k:α→State→Res β):(Res.ok a s).bind k=k a s:=id rfl
@[simp] theorem Res.FI{α β:Type}(x:Exn)(s:State)(k:α→State→Res β):(Res.exc x s).bind k=.exc x s:=id rfl
@[simp] theorem Res.M0{α β:Type}(k:α→State→Res β):(Res.stuck:Res α).bind k=.stuck:=id rfl
def kz:K0→Key
 | .i n=>.inl n
 | .s t=>.inr ⟨t.toArray⟩
theorem uQ{a b:K0}(h:kz a=kz b):a=b:=by
 cases a<;> cases b<;> simp[kz]at h<;> first | (subst h;rfl) | skip
 all_goals (rw[h])
def NW(cls:Value)(a:Addr)(d:Option Addr):HO:=.ext fun h=>∃ oe:Obj,h.get? a=some oe∧Zc cls d oe∧∃ vs,oe.data=.fields vs
def Hb(Z:Hp)(d:Option Addr)(ws:List V):Prop:=(d=none∧ws=[])∨∃ dd w,d=some dd∧ws=[w]∧Z dd=some (.xd [(Str.ofString "place",w)])
theorem Hb.mono{Z Z':Hp}(h:Same Z Z'){d:Option Addr}{ws:List V}(x:Hb Z d ws):Hb Z' d ws:=x.elim .inl fun⟨dd,w,e1,e2,z⟩=>.inr ⟨dd,w,e1,e2,h _ _ z⟩
section
variable(cA:String→Addr)(Z:Hp)
mutual
def aN:D→V→Prop
 | .non,v=>v=.non
 | .bl b,v=>v=.bl b
 | .int i,v=>v=.int i
 | .str s,v=>v=.str ⟨s.toArray⟩
 | .tup ds,v=>∃ a vs,v=.ref a∧Z a=some (.tup vs)∧bq ds vs
 | .lst ds,v=>∃ a vs,v=.ref a∧(Z a=some (.lst vs)∨∃ o,Z a=some (.frz o (.lst vs)))∧bq ds vs
 | .dic l,v=>∃ a ws,v=.ref a∧Z a=some (.dK ws)∧fG l ws
 | .dit l,v=>∃ a ws,v=.ref a∧Z a=some (.dT ws)∧iU l ws
 | .ins c fs,v=>∃ a dx ws,v=.ref a∧Z a=some (.ins (cA c) dx ws)∧fU fs ws
 | .exc c ps,v=>∃ a d ws,v=.ref a∧Z a=some (NW (.ref (cA c)) a d)∧Hb Z d ws∧bq ps ws
def bq:List D→List V→Prop
 | [],vs=>vs=[]
 | d::ds,vs=>∃ v r,vs=v::r∧aN d v∧bq ds r
def fG:List (K0×D)→List (Key×V)→Prop
 | [],ws=>ws=[]
 | (k,d)::ds,ws=>∃ v r,ws=(kz k,v)::r∧aN d v∧fG ds r
def iU:List (List K0×D)→List (List Key×V)→Prop
 | [],ws=>ws=[]
 | (k,d)::ds,ws=>∃ v r,ws=(k.map kz,v)::r∧aN d v∧iU ds r
def fU:List (String×D)→List (Str×V)→Prop
 | [],ws=>ws=[]
 | (f,d)::ds,ws=>∃ v r,ws=(Str.ofString f,v)::r∧aN d v∧fU ds r
end
end
section
variable{cA:String→Addr}{Z Z':Hp}
mutual
theorem aN.mono(h:Same Z Z'):∀ (d:D) {v:V},aN cA Z d v→aN cA Z' d v
 | .non,v,q=>q
 | .bl _,v,q=>q
 | .int _,v,q=>q
 | .str _,v,q=>q
 | .tup ds,v,⟨a,vs,e,z,q⟩=>⟨a,vs,e,h _ _ z,bq.mono h ds q⟩
 | .lst ds,v,⟨a,vs,e,z,q⟩=>⟨a,vs,e,z.elim (fun z=>.inl (h _ _ z)) (fun⟨o,z⟩=>.inr ⟨o,h _ _ z⟩),bq.mono h ds q⟩
 | .dic l,v,⟨a,vs,e,z,q⟩=>⟨a,vs,e,h _ _ z,fG.mono h l q⟩
 | .dit l,v,⟨a,vs,e,z,q⟩=>⟨a,vs,e,h _ _ z,iU.mono h l q⟩
 | .ins c fs,v,⟨a,dx,ws,e,z,q⟩=>⟨a,dx,ws,e,h _ _ z,fU.mono h fs q⟩
 | .exc c ps,v,⟨a,d,ws,e,z,x,q⟩=>⟨a,d,ws,e,h _ _ z,x.mono h,bq.mono h ps q⟩
theorem bq.mono(h:Same Z Z'):∀ (ds:List D) {vs:List V},bq cA Z ds vs→bq cA Z' ds vs
 | [],vs,q=>q
 | d::ds,vs,⟨v,r,e,q,t⟩=>⟨v,r,e,aN.mono h d q,bq.mono h ds t⟩
theorem fG.mono(h:Same Z Z'):∀ (ds:List (K0×D)) {vs:List (Key×V)},fG cA Z ds vs→fG cA Z' ds vs
 | [],vs,q=>q
 | (k,d)::ds,vs,⟨v,r,e,q,t⟩=>⟨v,r,e,aN.mono h d q,fG.mono h ds t⟩
theorem iU.mono(h:Same Z Z'):∀ (ds:List (List K0×D)) {vs:List (List Key×V)},iU cA Z ds vs→iU cA Z' ds vs
 | [],vs,q=>q
 | (k,d)::ds,vs,⟨v,r,e,q,t⟩=>⟨v,r,e,aN.mono h d q,iU.mono h ds t⟩
theorem fU.mono(h:Same Z Z'):∀ (ds:List (String×D)) {vs:List (Str×V)},fU cA Z ds vs→fU cA Z' ds vs
 | [],vs,q=>q
 | (k,d)::ds,vs,⟨v,r,e,q,t⟩=>⟨v,r,e,aN.mono h d q,fU.mono h ds t⟩
end
end
end Vw
namespace Vw
open PySem L2
section
variable(cA:String→Addr)(Z:Hp)(loc:List Addr)
mutual
def bo:Val→V→Prop
 | .d x,v=>aN cA Z x v
 | .r n,v=>∃ a,loc[n]? =some a∧v=.ref a
 | .tp l,v=>∃ a vs,v=.ref a∧Z a=some (.tup vs)∧aE l vs
def aE:List Val→List V→Prop
 | [],vs=>vs=[]
 | x::l,vs=>∃ v r,vs=v::r∧bo x v∧aE l r
end
def bS:List (K0×Val)→List (Key×V)→Prop
 | [],ws=>ws=[]
 | (k,x)::l,ws=>∃ v r,ws=(kz k,v)::r∧bo cA Z loc x v∧bS l r
def cR:List (List K0×Val)→List (List Key×V)→Prop
 | [],ws=>ws=[]
 | (k,x)::l,ws=>∃ v r,ws=(k.map kz,v)::r∧bo cA Z loc x v∧cR l r
def eu:List (String×Val)→List (Str×V)→Prop
 | [],ws=>ws=[]
 | (f,x)::l,ws=>∃ v r,ws=(Str.ofString f,v)::r∧bo cA Z loc x v∧eu l r
def u6(H:Hp)(a:Addr)(u:HO):Bool→Prop
 | false=>H a=some u
 | true=>∃ o,H a=some (.frz o u)
def Cell(H:Hp)(a:Addr):Ob→Prop
 | .lst l=>∃ xs,H a=some (.lst xs)∧aE cA Z loc l xs
 | .dic k l=>∃ ws,u6 H a (.dK ws) k∧bS cA Z loc l ws
 | .dit k l=>∃ ws,u6 H a (.dT ws) k∧cR cA Z loc l ws
 | .ins c fs=>∃ dx ws,H a=some (.ins (cA c) dx ws)∧eu cA Z loc fs ws
 | .gone=>True
end
def Ext(Z:Hp)(loc:List Addr)(Z':Hp)(loc':List Addr):Prop:=Same Z Z'∧∃ m,loc'=loc++m
theorem Ext.refl(Z:Hp)(loc:List Addr):Ext Z loc Z loc:=⟨Same.refl _,[],by simp⟩
theorem Ext.trans{Z Z1 Z2:Hp}{l l1 l2:List Addr}(a:Ext Z l Z1 l1)(b:Ext Z1 l1 Z2 l2):Ext Z l Z2 l2:=by
 obtain⟨a1,m,rfl⟩:=a
 obtain⟨b1,n,rfl⟩:=b
 exact⟨a1.trans b1,m++n,by simp⟩
theorem Ext.z{Z Z':Hp}{l:List Addr}(h:Same Z Z'):Ext Z l Z' l:=⟨h,[],by simp⟩
section
variable{cA:String→Addr}{Z Z':Hp}{loc loc':List Addr}
mutual
theorem bo.mono(h:Ext Z loc Z' loc'):∀ (x:Val) {v:V},bo cA Z loc x v→bo cA Z' loc' x v
 | .d x,v,q=>aN.mono h.1 x q
 | .r n,v,⟨a,e,q⟩=>⟨a,by
  obtain⟨_,m,rfl⟩:=h
  rw[List.getElem?_append_left (List.getElem?_eq_some_iff.mp e).1]
  exact e,q⟩
 | .tp l,v,⟨a,vs,e,z,q⟩=>⟨a,vs,e,h.1 _ _ z,aE.mono h l q⟩
theorem aE.mono(h:Ext Z loc Z' loc'):∀ (l:List Val) {vs:List V},aE cA Z loc l vs→aE cA Z' loc' l vs
 | [],vs,q=>q
 | x::l,vs,⟨v,r,e,q,t⟩=>⟨v,r,e,bo.mono h x q,aE.mono h l t⟩
end
theorem bS.mono(h:Ext Z loc Z' loc'):∀ (l:List (K0×Val)) {vs:List (Key×V)},bS cA Z loc l vs→bS cA Z' loc' l vs
 | [],vs,q=>q
 | (k,x)::l,vs,⟨v,r,e,q,t⟩=>⟨v,r,e,bo.mono h x q,bS.mono h l t⟩
theorem cR.mono(h:Ext Z loc Z' loc'):∀ (l:List (List K0×Val)) {vs:List (List Key×V)},cR cA Z loc l vs→cR cA Z' loc' l vs
 | [],vs,q=>q
 | (k,x)::l,vs,⟨v,r,e,q,t⟩=>⟨v,r,e,bo.mono h x q,cR.mono h l t⟩
theorem eu.mono(h:Ext Z loc Z' loc'):∀ (l:List (String×Val)) {vs:List (Str×V)},eu cA Z loc l vs→eu cA Z' loc' l vs
 | [],vs,q=>q
 | (k,x)::l,vs,⟨v,r,e,q,t⟩=>⟨v,r,e,bo.mono h x q,eu.mono h l t⟩
theorem u6.grow{H H':Hp}(h:Same H H'){a:Addr}{u:HO}:∀ {k:Bool},u6 H a u k→u6 H' a u k
 | false,q=>h _ _ q
 | true,⟨o,q⟩=>⟨o,h _ _ q⟩
theorem ET{H:Hp}{a:Addr}{u:HO}:∀ {k:Bool},u6 H a u k→H a≠none
 | false,q=>by rw[show H a=_ from q];simp
 | true,⟨o,q⟩=>by rw[q];simp
theorem Cell.mono{H H':Hp}{a:Addr}(h:Ext Z loc Z' loc')(g:Same H H'):∀ {o:Ob},Cell cA Z loc H a o→Cell cA Z' loc' H' a o
 | .lst l,⟨xs,e,q⟩=>⟨xs,g _ _ e,aE.mono h l q⟩
 | .dic k l,⟨xs,e,q⟩=>⟨xs,e.grow g,bS.mono h l q⟩
 | .dit k l,⟨xs,e,q⟩=>⟨xs,e.grow g,cR.mono h l q⟩
 | .ins c l,⟨dx,xs,e,q⟩=>⟨dx,xs,g _ _ e,eu.mono h l q⟩
 | .gone,_=>trivial
theorem Cell.at{H H':Hp}{a:Addr}(g:H' a=H a):∀ {o:Ob},Cell cA Z loc H a o→Cell cA Z loc H' a o
 | .lst l,⟨xs,e,q⟩=>⟨xs,g.trans e,q⟩
 | .dic false l,⟨xs,e,q⟩=>⟨xs,g.trans e,q⟩
 | .dic true l,⟨xs,⟨o,e⟩,q⟩=>⟨xs,⟨o,g.trans e⟩,q⟩
 | .dit false l,⟨xs,e,q⟩=>⟨xs,g.trans e,q⟩
 | .dit true l,⟨xs,⟨o,e⟩,q⟩=>⟨xs,⟨o,g.trans e⟩,q⟩
 | .ins c l,⟨dx,xs,e,q⟩=>⟨dx,xs,g.trans e,q⟩
 | .gone,_=>trivial
theorem dP{H:Hp}{a:Addr}{o:Ob}(ne:o≠ .gone)(h:Cell cA Z loc H a o):H a≠none:=by
 cases o with
 | lst l=>obtain⟨xs,e,q⟩:=h;rw[e];simp
 | dic k l=>obtain⟨xs,e,q⟩:=h;exact ET e
 | dit k l=>obtain⟨xs,e,q⟩:=h;exact ET e
 | ins c l=>obtain⟨dx,xs,e,q⟩:=h;rw[e];simp
 | gone=>exact absurd rfl ne
end
def m9:HO→Bool
 | .dK _=>true
 | .dT _=>true
 | _=>false
def Rz(H:Hp)(a:Addr)(u:HO):Prop:=H a=some u∨(m9 u=true∧∃ o,H a=some (.frz o u))
theorem rH{H:Hp}{a:Addr}{u:HO}(h:Rz H a u):H a≠none:=by
 rcases h with h | ⟨_,o,h⟩<;> rw[h]<;> simp
theorem Ip{H H':Hp}(g:Same H H'){a:Addr}{u:HO}(h:Rz H a u):Rz H' a u:=h.elim (fun h=>.inl (g _ _ h)) fun⟨d,o,h⟩=>.inr ⟨d,o,g _ _ h⟩
theorem Rz.rd{H:Hp}{a:Addr}{u:HO}(h:Rz H a u):Rd H a u:=h.elim .inl fun⟨_,o,h⟩=>.inr ⟨o,h⟩
theorem Rz.at{H:Hp}{a:Addr}{u:HO}(h:Rz H a u)(d:m9 u=false):H a=some u:=h.elim id fun⟨e,_⟩=>by rw[d]at e;cases e
structure Cst where
 cA:String→Addr
 Fr:Hp
 H0:Hp
 W:WX
structure SR (C:Cst) (Z:Hp) (loc:List Addr) (s:State) (sv:L2.St) (H:Hp):Prop where
 fr:Same C.Fr H
 zh:∀ (a:Addr) (o:HO),Z a=some o→Rz H a o
 zf:∀ (a:Addr) (o:HO),Z a=some o→C.Fr a=none
 lk:∀ (a:Addr) (o:Obj) (u:HO),C.H0 a=some (.frz o u)→H a=some (.frz o u)
 ln:loc.length=s.st.length
 nd:loc.Nodup
 lh:∀ a∈loc,H a≠none∧C.Fr a=none
 cl:∀ (n:Nat) (a:Addr) (o:Ob),loc[n]? =some a→s.st[n]? =some o→o≠ .gone→Cell C.cA Z loc H a o∧Z a=none
 vl:∀ (i:Nat) (x:Val),s.sg[i]? =some (some (.v x))→∃ v,sv[i]? =some (some v)∧bo C.cA Z loc x v
 ow:∀ (i:Nat) (o:Ob),s.sg[i]? =some (some (.own o))→∃ a,sv[i]? =some (some (.ref a))∧o≠ .gone∧Cell C.cA Z loc H a o∧Z a=none∧C.Fr a=none∧a∉loc
 oi:∀ (i j:Nat) (o o':Ob) (a:Addr),s.sg[i]? =some (some (.own o))→s.sg[j]? =some (some (.own o'))→sv[i]? =some (some (.ref a))→sv[j]? =some (some (.ref a))→i=j
 ls:s.sg.length=sv.length
structure Free (C:Cst) (Z:Hp) (loc:List Addr) (s:State) (sv:L2.St) (a:Addr):Prop where
 z:Z a=none
 f:C.Fr a=none
 l:a∉loc
 o:∀ (i:Nat) (o:Ob),s.sg[i]? =some (some (.own o))→sv[i]? ≠some (some (.ref a))
def bH(C:Cst)(Z:Hp)(loc:List Addr)(s:State)(sv:L2.St)(H:Hp):RV→V→Prop
 | .val x,v=>bo C.cA Z loc x v
 | .new o,v=>∃ a,v=.ref a∧o≠ .gone∧Cell C.cA Z loc H a o∧Free C Z loc s sv a
 | .own i,v=>sv[i]? =some (some v)
section
variable{C:Cst}{Z Z':Hp}{loc loc':List Addr}{s s':State}{sv:L2.St}{H H':Hp}
theorem SR.grow(r:SR C Z loc s sv H)(g:Same H H'):SR C Z loc s sv H' where
 fr:=r.fr.trans g
 zh a o h:=Ip g (r.zh a o h)
 zf:=r.zf
 lk a o u h:=g _ _ (r.lk a o u h)
 ln:=r.ln
 nd:=r.nd
 lh a h:=⟨fun e=>(r.lh a h).1 (g.free e),(r.lh a h).2⟩
 cl n a o h1 h2 h3:=⟨(r.cl n a o h1 h2 h3).1.mono (Ext.refl _ _) g,(r.cl n a o h1 h2 h3).2⟩
 vl:=r.vl
 ow i o h:=let ⟨a,h1,h2,h3,h4⟩:=r.ow i o h;⟨a,h1,h2,h3.mono (Ext.refl _ _) g,h4⟩
 oi:=r.oi
 ls:=r.ls
theorem bC{p:Addr}{o:HO}(h:H p=none):Same H (upd H p o):=fun b x e=>by rw[upd_ne (ne_of_none e h)];exact e
theorem SR.free(r:SR C Z loc s sv H){p:Addr}(h:H p=none):Free C Z loc s sv p where
 z:=by
  cases e:Z p with
  | none=>rfl
  | some o=>exact absurd h (rH (r.zh p o e))
 f:=r.fr.free h
 l hm:=(r.lh p hm).1 h
 o i ob e q:=by
  obtain⟨a,h1,h2,h3,_⟩:=r.ow i ob e
  rw[h1]at q
  cases q
  exact dP h2 h3 h
theorem SR.uS(r:SR C Z loc s sv H){a:Addr}{o:HO}(e:H a=some o)(f:Free C Z loc s sv a):SR C (upd Z a o) loc s sv H:=by
 have g:Ext Z loc (upd Z a o) loc:=Ext.z (bC f.z)
 refine⟨r.fr,fun b u h=>?_,fun b u h=>?_,r.lk,r.ln,r.nd,r.lh,fun n b ob h1 h2 h3=>?_,fun i x h=>?_,fun i ob h=>?_,r.oi,r.ls⟩
 ·by_cases hb:b=a
  ·subst hb
   rw[upd_same]at h
   cases h
   exact .inl e
  ·rw[upd_ne hb]at h
   exact r.zh b u h
 ·by_cases hb:b=a
  ·subst hb
   exact f.f
  ·rw[upd_ne hb]at h
   exact r.zf b u h
 ·obtain⟨q1,q2⟩:=r.cl n b ob h1 h2 h3
  have hb:b≠a:=fun z=>f.l (z▸List.mem_of_getElem? h1)
  exact⟨q1.mono g (Same.refl _),by rw[upd_ne hb];exact q2⟩
 ·obtain⟨v,h1,h2⟩:=r.vl i x h
  exact⟨v,h1,bo.mono g x h2⟩
 ·obtain⟨b,h1,h2,h3,h4,h5⟩:=r.ow i ob h
  have hb:b≠a:=fun z=>f.o i ob h (z▸h1)
  exact⟨b,h1,h2,h3.mono g (Same.refl _),by rw[upd_ne hb];exact h4,h5⟩
end
end Vw
namespace Vw
open PySem L2
def toDs:List Val→Option (List D)
 | []=>some []
 | .d x::r=>(toDs r).map (x:: ·)
 | _::_=>none
def toDK{κ:Type}:List (κ×Val)→Option (List (κ×D))
 | []=>some []
 | (k,.d x)::r=>(toDK r).map ((k,x):: ·)
 | _::_=>none
def Ob.toD:Ob→Option D
 | .lst l=>(toDs l).map .lst
 | .dic false l=>(toDK l).map .dic
 | .dit false l=>(toDK l).map .dit
 | .ins c fs=>(toDK fs).map (.ins c)
 | _=>none
@[simp] theorem toDs_map(xs:List D):toDs (xs.map .d)=some xs:=by
 induction xs with
 | nil=>rfl
 | cons x r ih=>simp[toDs,ih]
@[simp] theorem toDK_map{κ:Type}(xs:List (κ×D)):toDK (xs.map fun p=>(p.1,Val.d p.2))=some xs:=by
 induction xs with
 | nil=>rfl
 | cons x r ih=>obtain⟨k,x⟩:=x;simp[toDK,ih]
theorem toDs_inv:∀ {l:List Val} {ds:List D},toDs l=some ds→l=ds.map .d
 | [],ds,h=>by cases h;rfl
 | .d x::r,ds,h=>by
  obtain⟨t,e,rfl⟩:=Option.map_eq_some_iff.mp h
  rw[toDs_inv e];rfl
 | .r _::_,ds,h=>by cases h
 | .tp _::_,ds,h=>by cases h
theorem toDK_inv{κ:Type}:∀ {l:List (κ×Val)} {ds:List (κ×D)},toDK l=some ds→l=ds.map fun p=>(p.1,Val.d p.2)
 | [],ds,h=>by cases h;rfl
 | (k,.d x)::r,ds,h=>by
  obtain⟨t,e,rfl⟩:=Option.map_eq_some_iff.mp h
  rw[toDK_inv e];rfl
 | (_,.r _)::_,ds,h=>by cases h
 | (_,.tp _)::_,ds,h=>by cases h
section
variable{cA:String→Addr}{Z:Hp}{loc:List Addr}
theorem eK:∀ {ds:List D} {vs:List V},aE cA Z loc (ds.map .d) vs↔bq cA Z ds vs
 | [],vs=>Iff.rfl
 | d::ds,vs=>⟨fun⟨v,r,e,q,t⟩=>⟨v,r,e,q,eK.mp t⟩,fun⟨v,r,e,q,t⟩=>⟨v,r,e,q,eK.mpr t⟩⟩
theorem oM:∀ {ds:List (K0×D)} {vs:List (Key×V)},bS cA Z loc (ds.map fun p=>(p.1,Val.d p.2)) vs↔fG cA Z ds vs
 | [],vs=>Iff.rfl
 | (k,d)::ds,vs=>⟨fun⟨v,r,e,q,t⟩=>⟨v,r,e,q,oM.mp t⟩,fun⟨v,r,e,q,t⟩=>⟨v,r,e,q,oM.mpr t⟩⟩
theorem oJ:∀ {ds:List (List K0×D)} {vs:List (List Key×V)},cR cA Z loc (ds.map fun p=>(p.1,Val.d p.2)) vs↔iU cA Z ds vs
 | [],vs=>Iff.rfl
 | (k,d)::ds,vs=>⟨fun⟨v,r,e,q,t⟩=>⟨v,r,e,q,oJ.mp t⟩,fun⟨v,r,e,q,t⟩=>⟨v,r,e,q,oJ.mpr t⟩⟩
theorem sP:∀ {ds:List (String×D)} {vs:List (Str×V)},eu cA Z loc (ds.map fun p=>(p.1,Val.d p.2)) vs↔fU cA Z ds vs
 | [],vs=>Iff.rfl
 | (k,d)::ds,vs=>⟨fun⟨v,r,e,q,t⟩=>⟨v,r,e,q,sP.mp t⟩,fun⟨v,r,e,q,t⟩=>⟨v,r,e,q,sP.mpr t⟩⟩
theorem F1{H:Hp}{a:Addr}{o:Ob}{d:D}(h:Cell cA Z loc H a o)(e:o.toD=some d)(z:Z a=none):
  ∃ u,H a=some u∧aN cA (upd Z a u) d (.ref a):=by
 cases o with
 | lst l=>
  obtain⟨ds,e1,rfl⟩:=Option.map_eq_some_iff.mp e
  obtain⟨xs,h1,h2⟩:=h
  rw[toDs_inv e1]at h2
  exact⟨_,h1,a,xs,rfl,.inl upd_same,bq.mono (bC z) ds (eK.mp h2)⟩
 | dic k l=>
  cases k with
  | true=>cases e
  | false=>
   obtain⟨ds,e1,rfl⟩:=Option.map_eq_some_iff.mp e
   obtain⟨xs,h1,h2⟩:=h
   rw[toDK_inv e1]at h2
   exact⟨_,h1,a,xs,rfl,upd_same,fG.mono (bC z) ds (oM.mp h2)⟩
 | dit k l=>
  cases k with
  | true=>cases e
  | false=>
   obtain⟨ds,e1,rfl⟩:=Option.map_eq_some_iff.mp e
   obtain⟨xs,h1,h2⟩:=h
   rw[toDK_inv e1]at h2
   exact⟨_,h1,a,xs,rfl,upd_same,iU.mono (bC z) ds (oJ.mp h2)⟩
 | ins c l=>
  obtain⟨ds,e1,rfl⟩:=Option.map_eq_some_iff.mp e
  obtain⟨dx,xs,h1,h2⟩:=h
  rw[toDK_inv e1]at h2
  exact⟨_,h1,a,dx,xs,rfl,upd_same,fU.mono (bC z) ds (sP.mp h2)⟩
 | gone=>cases e
end
def settle:RV→State→Res RV
 | .new o,s=>match o.toD with
  | some d=>.ok (.val (.d d)) s
  | none=>.stuck
 | r,s=>.ok r s
def jK(i:Nat)(s:State):Res Val:=
 match s.sg[i]? with
 | some (some (.own o))=>match o.toD with
  | some d=>.ok (.d d) { s with sg:=s.sg.set i (some (.v (.d d))) }
  | none=>.stuck
 | some (some (.v x))=>.ok x s
 | _=>.stuck
def bL:RV→State→Res Val
 | .val x,s=>.ok x s
 | .new o,s=>match o.toD with
  | some d=>.ok (.d d) s
  | none=>.stuck
 | .own i,s=>jK i s
section
variable{C:Cst}{Z Z':Hp}{loc loc':List Addr}{s s':State}{sv:L2.St}{H H':Hp}
theorem SR.settled(r:SR C Z loc s sv H){o:Ob}{v:V}{d:D}(h:bH C Z loc s sv H (.new o) v)(e:o.toD=some d):∃ Z',Ext Z loc Z' loc∧SR C Z' loc s sv H∧bo C.cA Z' loc (.d d) v:=by
 obtain⟨a,rfl,ne,h1,h2⟩:=h
 obtain⟨u,h3,h4⟩:=F1 h1 e h2.z
 exact⟨_,Ext.z (bC h2.z),r.uS h3 h2,h4⟩
theorem ck{α:Type}{l:List α}{i j:Nat}{x y:α}(h:(l.set i x)[j]? =some y):(i=j∧y=x)∨(i≠j∧l[j]? =some y):=by
 by_cases e:i=j
 ·subst e
  rw[List.getElem?_set]at h
  simp at h
  exact .inl ⟨rfl,h.2.symm⟩
 ·rw[List.getElem?_set_ne e]at h
  exact .inr ⟨e,h⟩
theorem SR.drop(r:SR C Z loc s sv H)(i:Nat):SR C Z loc { s with sg:=s.sg.set i none } sv H:=by
 refine⟨r.fr,r.zh,r.zf,r.lk,r.ln,r.nd,r.lh,r.cl,fun j x h=>?_,fun j o h=>?_,fun j k o o' a h1 h2=>?_,by simpa using r.ls⟩
 ·rcases ck h with⟨_,q⟩ | ⟨_,q⟩
  ·cases q
  ·exact r.vl j x q
 ·rcases ck h with⟨_,q⟩ | ⟨_,q⟩
  ·cases q
  ·exact r.ow j o q
 ·rcases ck h1 with⟨_,q⟩ | ⟨_,q⟩
  ·cases q
  ·rcases ck h2 with⟨_,q'⟩ | ⟨_,q'⟩
   ·cases q'
   ·exact r.oi j k o o' a q q'
theorem SR.EX(r:SR C Z loc s sv H){i:Nat}{o:Ob}{a:Addr}(h:s.sg[i]? =some (some (.own o)))(ha:sv[i]? =some (some (.ref a))):Free C Z loc { s with sg:=s.sg.set i none } sv a:=by
 obtain⟨b,h1,h2,h3,h4,h5,h6⟩:=r.ow i o h
 rw[ha]at h1
 cases h1
 refine⟨h4,h5,h6,fun j o' q e=>?_⟩
 rcases ck q with⟨_,q⟩ | ⟨ne,q⟩
 ·cases q
 ·exact ne (r.oi i j o o' a h q ha e)
theorem SR.J9(r:SR C Z loc s sv H){i:Nat}{x:Val}{v:V}(h:sv[i]? =some (some v))(q:bo C.cA Z loc x v):SR C Z loc { s with sg:=s.sg.set i (some (.v x)) } sv H:=by
 refine⟨r.fr,r.zh,r.zf,r.lk,r.ln,r.nd,r.lh,r.cl,fun j y h1=>?_,fun j o h1=>?_,fun j k o o' a h1 h2=>?_,by simpa using r.ls⟩
 ·rcases ck h1 with⟨rfl,e⟩ | ⟨_,e⟩
  ·cases e
   exact⟨v,h,q⟩
  ·exact r.vl j y e
 ·rcases ck h1 with⟨rfl,e⟩ | ⟨_,e⟩
  ·cases e
  ·exact r.ow j o e
 ·rcases ck h1 with⟨_,q⟩ | ⟨_,q⟩
  ·cases q
  ·rcases ck h2 with⟨_,q'⟩ | ⟨_,q'⟩
   ·cases q'
   ·exact r.oi j k o o' a q q'
theorem SR.N3(r:SR C Z loc s sv H){i:Nat}{o:Ob}{a:Addr}(h:sv[i]? =some (some (.ref a)))(ne:o≠ .gone)(q:Cell C.cA Z loc H a o)(f:Free C Z loc s sv a):SR C Z loc { s with sg:=s.sg.set i (some (.own o)) } sv H:=by
 refine⟨r.fr,r.zh,r.zf,r.lk,r.ln,r.nd,r.lh,r.cl,fun j y h1=>?_,fun j ob h1=>?_,fun j k ob ob' b h1 h2 h3 h4=>?_,by simpa using r.ls⟩
 ·rcases ck h1 with⟨rfl,e⟩ | ⟨_,e⟩
  ·cases e
  ·exact r.vl j y e
 ·rcases ck h1 with⟨rfl,e⟩ | ⟨_,e⟩
  ·cases e
   exact⟨a,h,ne,q,f.z,f.f,f.l⟩
  ·exact r.ow j ob e
 ·rcases ck h1 with⟨rfl,e⟩ | ⟨n1,e⟩
  ·rcases ck h2 with⟨rfl,e'⟩ | ⟨n2,e'⟩
   ·rfl
   ·rw[h]at h3
    cases h3
    exact absurd h4 (f.o k ob' e')
  ·rcases ck h2 with⟨rfl,e'⟩ | ⟨n2,e'⟩
   ·rw[h]at h4
    cases h4
    exact absurd h3 (f.o j ob e)
   ·exact r.oi j k ob ob' b e e' h3 h4
theorem tQ{α:Type}(l:List α)(i:Nat)(x y:α):(l.set i x).set i y=l.set i y:=List.set_set ..
theorem SR.jK(r:SR C Z loc s sv H){i:Nat}{v:V}{x:Val}(h:sv[i]? =some (some v))(e:jK i s=.ok x s'):∃ Z',Ext Z loc Z' loc∧SR C Z' loc s' sv H∧bo C.cA Z' loc x v:=by
 unfold Vw.jK at e
 split at e
 ·rename_i o ho
  split at e
  ·rename_i d hd
   cases e
   obtain⟨a,h1,h2,h3,h4⟩:=r.ow i o ho
   rw[h]at h1
   cases h1
   obtain⟨Z',g,r',q⟩:=(r.drop i).settled (v:=.ref a) ⟨a,rfl,h2,h3,r.EX ho h⟩ hd
   refine⟨Z',g,?_,q⟩
   have:=r'.J9 h q
   simpa [tQ]using this
  ·cases e
 ·rename_i x' hx
  cases e
  obtain⟨v',h1,h2⟩:=r.vl i x hx
  rw[h]at h1
  cases h1
  exact⟨Z,Ext.refl _ _,r,h2⟩
 ·cases e
theorem SR.bL(r:SR C Z loc s sv H){rv:RV}{v:V}{x:Val}(h:bH C Z loc s sv H rv v)(e:bL rv s=.ok x s'):∃ Z',Ext Z loc Z' loc∧SR C Z' loc s' sv H∧bo C.cA Z' loc x v:=by
 cases rv with
 | val y=>cases e;exact⟨Z,Ext.refl _ _,r,h⟩
 | new o=>
  cases hd:o.toD with
  | none=>simp[Vw.bL,hd]at e
  | some d=>
   simp[Vw.bL,hd]at e
   obtain⟨rfl,rfl⟩:=e
   exact r.settled h hd
 | own i=>exact r.jK h e
theorem zT{rv:RV}{x:Exn}:bL rv s≠ .exc x s':=by
 unfold bL jK
 repeat' split
 all_goals simp
theorem xE{rv:RV}{x:Exn}:settle rv s≠ .exc x s':=by
 unfold settle
 repeat' split
 all_goals simp
def t5:RV→Prop
 | .new _=>False
 | _=>True
theorem bH.mono(h:Ext Z loc Z' loc'):∀ {rv:RV} {v:V},t5 rv→bH C Z loc s sv H rv v→bH C Z' loc' s' sv H' rv v
 | .val x,v,_,q=>bo.mono h x q
 | .own i,v,_,q=>q
 | .new o,v,z,_=>z.elim
theorem SR.settle(r:SR C Z loc s sv H){rv rv':RV}{v:V}(h:bH C Z loc s sv H rv v)(e:settle rv s=.ok rv' s'):s'=s∧t5 rv'∧∃ Z',Ext Z loc Z' loc∧SR C Z' loc s sv H∧bH C Z' loc s sv H rv' v:=by
 cases rv with
 | val y=>cases e;exact⟨rfl,trivial,Z,Ext.refl _ _,r,h⟩
 | own i=>cases e;exact⟨rfl,trivial,Z,Ext.refl _ _,r,h⟩
 | new o=>
  cases hd:o.toD with
  | none=>simp[Vw.settle,hd]at e
  | some d=>
   simp[Vw.settle,hd]at e
   obtain⟨rfl,rfl⟩:=e
   obtain⟨Z',g,r',q⟩:=r.settled h hd
   exact⟨rfl,trivial,Z',g,r',q⟩
end
def lq(C:Cst)(Z:Hp)(H:Hp)(x:Exn)(c:Value)(d:Option Addr):Prop:=
 c=.ref (C.cA x.c)∧match x.p with
  | none=>d=none
  | some p=>∃ dd v,d=some dd∧Z dd=some (.xd [(Str.ofString "place",v)])∧aN C.cA Z p v
inductive Fl where
 | nx
 | ret (r:RV)
 | brk
 | cnt
def EPost(C:Cst)(Z:Hp)(loc:List Addr)(sv:L2.St)(r:Res RV)(Q:VK):Prop:=
 match r with
 | .ok rv s'=>∀ Z' loc' H' v,Ext Z loc Z' loc'→SR C Z' loc' s' sv H'→bH C Z' loc' s' sv H' rv v→Q v H'
 | .exc x s'=>∀ Z' loc' H' c d,Ext Z loc Z' loc'→SR C Z' loc' s' sv H'→lq C Z' H' x c d→C.W c d sv H'
 | .stuck=>False
def i3(C:Cst)(Z:Hp)(loc:List Addr)(s:State)(sv:L2.St)(H:Hp):List RV→List V→Prop
 | [],vs=>vs=[]
 | x::l,vs=>∃ v r,vs=v::r∧t5 x∧bH C Z loc s sv H x v∧i3 C Z loc s sv H l r
def oO(C:Cst)(Z:Hp)(loc:List Addr)(sv:L2.St)(r:Res (List RV))(Q:List V→Hp→Prop):Prop:=
 match r with
 | .ok rv s'=>∀ Z' loc' H' v,Ext Z loc Z' loc'→SR C Z' loc' s' sv H'→i3 C Z' loc' s' sv H' rv v→Q v H'
 | .exc x s'=>∀ Z' loc' H' c d,Ext Z loc Z' loc'→SR C Z' loc' s' sv H'→lq C Z' H' x c d→C.W c d sv H'
 | .stuck=>False
def fN(C:Cst)(Z:Hp)(loc:List Addr)(sv:L2.St)(r:Res Bool)(Q:Bool→Hp→Prop):Prop:=
 match r with
 | .ok b s'=>∀ Z' loc' H',Ext Z loc Z' loc'→SR C Z' loc' s' sv H'→Q b H'
 | .exc x s'=>∀ Z' loc' H' c d,Ext Z loc Z' loc'→SR C Z' loc' s' sv H'→lq C Z' H' x c d→C.W c d sv H'
 | .stuck=>False
def a0(C:Cst)(Z:Hp)(loc:List Addr)(r:Res Fl)(D:Ends):Prop:=
 match r with
 | .ok .nx s'=>∀ Z' loc' sv' H',Ext Z loc Z' loc'→SR C Z' loc' s' sv' H'→D.nx sv' H'
 | .ok .brk s'=>∀ Z' loc' sv' H',Ext Z loc Z' loc'→SR C Z' loc' s' sv' H'→D.bk sv' H'
 | .ok .cnt s'=>∀ Z' loc' sv' H',Ext Z loc Z' loc'→SR C Z' loc' s' sv' H'→D.ct sv' H'
 | .ok (.ret rv) s'=>∀ Z' loc' sv' H' v,Ext Z loc Z' loc'→SR C Z' loc' s' sv' H'→bH C Z' loc' s' sv' H' rv v→D.rt v H'
 | .exc x s'=>∀ Z' loc' sv' H' c d,Ext Z loc Z' loc'→SR C Z' loc' s' sv' H'→lq C Z' H' x c d→C.W c d sv' H'
 | .stuck=>False
def ai(C:Cst)(f:State→Res RV):TE:=fun sv H Q=>∃ Z loc s,SR C Z loc s sv H∧EPost C Z loc sv (f s) Q
def cZ(C:Cst)(f:State→Res (List RV)):TA:=fun sv H Q=>∃ Z loc s,SR C Z loc s sv H∧oO C Z loc sv (f s) Q
def dV(C:Cst)(f:State→Res Bool):TT:=fun sv H Q=>∃ Z loc s,SR C Z loc s sv H∧fN C Z loc sv (f s) Q
def dh(C:Cst)(f:State→Res Fl):TS:=fun D sv H=>∃ Z loc s,SR C Z loc s sv H∧a0 C Z loc (f s) D
section
variable{C:Cst}{Z Z':Hp}{loc loc':List Addr}{s:State}{sv:L2.St}{H:Hp}
theorem EPost.ext{r:Res RV}{Q:VK}(h:EPost C Z loc sv r Q)(g:Ext Z loc Z' loc'):EPost C Z' loc' sv r Q:=by
 cases r with
 | ok rv s'=>exact fun Z2 l2 H2 v g2=>h Z2 l2 H2 v (g.trans g2)
 | exc x s'=>exact fun Z2 l2 H2 c d g2=>h Z2 l2 H2 c d (g.trans g2)
 | stuck=>exact h
theorem EPost.imp{r:Res RV}{Q Q':VK}(h:EPost C Z loc sv r Q)(q:∀ v H,Q v H→Q' v H):EPost C Z loc sv r Q':=by
 cases r with
 | ok rv s'=>exact fun Z2 l2 H2 v g2 a b=>q _ _ (h Z2 l2 H2 v g2 a b)
 | exc x s'=>exact h
 | stuck=>exact h
theorem oO.ext{r:Res (List RV)}{Q:List V→Hp→Prop}(h:oO C Z loc sv r Q)(g:Ext Z loc Z' loc'):oO C Z' loc' sv r Q:=by
 cases r with
 | ok rv s'=>exact fun Z2 l2 H2 v g2=>h Z2 l2 H2 v (g.trans g2)
 | exc x s'=>exact fun Z2 l2 H2 c d g2=>h Z2 l2 H2 c d (g.trans g2)
 | stuck=>exact h
theorem fN.ext{r:Res Bool}{Q:Bool→Hp→Prop}(h:fN C Z loc sv r Q)(g:Ext Z loc Z' loc'):fN C Z' loc' sv r Q:=by
 cases r with
 | ok rv s'=>exact fun Z2 l2 H2 g2=>h Z2 l2 H2 (g.trans g2)
 | exc x s'=>exact fun Z2 l2 H2 c d g2=>h Z2 l2 H2 c d (g.trans g2)
 | stuck=>exact h
theorem a0.ext{r:Res Fl}{D:Ends}(h:a0 C Z loc r D)(g:Ext Z loc Z' loc'):a0 C Z' loc' r D:=by
 cases r with
 | ok f s'=>
  cases f with
  | nx=>exact fun Z2 l2 v2 H2 g2=>h Z2 l2 v2 H2 (g.trans g2)
  | brk=>exact fun Z2 l2 v2 H2 g2=>h Z2 l2 v2 H2 (g.trans g2)
  | cnt=>exact fun Z2 l2 v2 H2 g2=>h Z2 l2 v2 H2 (g.trans g2)
  | ret rv=>exact fun Z2 l2 v2 H2 v g2=>h Z2 l2 v2 H2 v (g.trans g2)
 | exc x s'=>exact fun Z2 l2 v2 H2 c d g2=>h Z2 l2 v2 H2 c d (g.trans g2)
 | stuck=>exact h
theorem ai.oV{f:State→Res RV}{k:RV→State→Res RV}{Q:VK}(r:SR C Z loc s sv H)(h:EPost C Z loc sv ((f s).bind k) Q):
  ai C f sv H (fun v H'=>∃ Z' loc' s' rv,Ext Z loc Z' loc'∧SR C Z' loc' s' sv H'∧bH C Z' loc' s' sv H' rv v∧EPost C Z' loc' sv (k rv s') Q):=by
 refine⟨Z,loc,s,r,?_⟩
 cases e:f s with
 | ok rv s'=>rw[e]at h;exact fun Z' loc' H' v g r' q=>⟨Z',loc',s',rv,g,r',q,EPost.ext h g⟩
 | exc x s'=>rw[e]at h;exact h
 | stuck=>rw[e]at h;exact h
theorem ai.rq{f:State→Res RV}{k:RV→State→Res Fl}{D:Ends}(r:SR C Z loc s sv H)(h:a0 C Z loc ((f s).bind k) D):
  ai C f sv H (fun v H'=>∃ Z' loc' s' rv,Ext Z loc Z' loc'∧SR C Z' loc' s' sv H'∧bH C Z' loc' s' sv H' rv v∧a0 C Z' loc' (k rv s') D):=by
 refine⟨Z,loc,s,r,?_⟩
 cases e:f s with
 | ok rv s'=>rw[e]at h;exact fun Z' loc' H' v g r' q=>⟨Z',loc',s',rv,g,r',q,a0.ext h g⟩
 | exc x s'=>rw[e]at h;exact fun Z' loc' H' c d=>h Z' loc' sv H' c d
 | stuck=>rw[e]at h;exact h
theorem cZ.oV{f:State→Res (List RV)}{k:List RV→State→Res RV}{Q:VK}(r:SR C Z loc s sv H)(h:EPost C Z loc sv ((f s).bind k) Q):
  cZ C f sv H (fun v H'=>∃ Z' loc' s' rv,Ext Z loc Z' loc'∧SR C Z' loc' s' sv H'∧i3 C Z' loc' s' sv H' rv v∧EPost C Z' loc' sv (k rv s') Q):=by
 refine⟨Z,loc,s,r,?_⟩
 cases e:f s with
 | ok rv s'=>rw[e]at h;exact fun Z' loc' H' v g r' q=>⟨Z',loc',s',rv,g,r',q,EPost.ext h g⟩
 | exc x s'=>rw[e]at h;exact h
 | stuck=>rw[e]at h;exact h
theorem dV.rq{f:State→Res Bool}{k:Bool→State→Res Fl}{D:Ends}(r:SR C Z loc s sv H)(h:a0 C Z loc ((f s).bind k) D):
  dV C f sv H (fun b H'=>∃ Z' loc' s',Ext Z loc Z' loc'∧SR C Z' loc' s' sv H'∧a0 C Z' loc' (k b s') D):=by
 refine⟨Z,loc,s,r,?_⟩
 cases e:f s with
 | ok rv s'=>rw[e]at h;exact fun Z' loc' H' g r'=>⟨Z',loc',s',g,r',a0.ext h g⟩
 | exc x s'=>rw[e]at h;exact fun Z' loc' H' c d=>h Z' loc' sv H' c d
 | stuck=>rw[e]at h;exact h
theorem ai.imp{f:State→Res RV}{Q Q':VK}(h:ai C f sv H Q)(q:∀ v H,Q v H→Q' v H):ai C f sv H Q':=by
 obtain⟨Z,loc,s,r,h⟩:=h
 exact⟨Z,loc,s,r,h.imp q⟩
theorem cZ.imp{f:State→Res (List RV)}{Q Q':List V→Hp→Prop}(h:cZ C f sv H Q)(q:∀ v H,Q v H→Q' v H):cZ C f sv H Q':=by
 obtain⟨Z,loc,s,r,h⟩:=h
 refine⟨Z,loc,s,r,?_⟩
 cases e:f s with
 | ok rv s'=>rw[e]at h;exact fun Z2 l2 H2 v g2 a b=>q _ _ (h Z2 l2 H2 v g2 a b)
 | exc x s'=>rw[e]at h;exact h
 | stuck=>rw[e]at h;exact h
theorem dV.imp{f:State→Res Bool}{Q Q':Bool→Hp→Prop}(h:dV C f sv H Q)(q:∀ v H,Q v H→Q' v H):dV C f sv H Q':=by
 obtain⟨Z,loc,s,r,h⟩:=h
 refine⟨Z,loc,s,r,?_⟩
 cases e:f s with
 | ok rv s'=>rw[e]at h;exact fun Z2 l2 H2 g2 a=>q _ _ (h Z2 l2 H2 g2 a)
 | exc x s'=>rw[e]at h;exact h
 | stuck=>rw[e]at h;exact h
end
theorem aV{X:Cx}{e:Expr}{t t':TE}(h:PE X e t)(m:∀ sv H Q,t' sv H Q→t sv H Q):PE X e t':=⟨fun pins s sv H Q I q=>h.run pins s sv H Q I (m sv H Q q)⟩
theorem Bm{X:Cx}{e:List Expr}{t t':TA}(h:PA X e t)(m:∀ sv H Q,t' sv H Q→t sv H Q):PA X e t':=⟨fun pos pins s sv H Q I q=>h.run pos pins s sv H Q I (m sv H Q q)⟩
theorem rB{X:Cx}{e:Expr}{t t':TT}(h:PT X e t)(m:∀ sv H Q,t' sv H Q→t sv H Q):PT X e t':=⟨fun pins s sv H Q I q=>h.run pins s sv H Q I (m sv H Q q)⟩
theorem jr{X:Cx}{e:Stmt}{t t':TS}(h:PS X e t)(m:∀ D sv H,t' D sv H→t D sv H):PS X e t':=⟨fun pins s sv H D I q=>h.run pins s sv H D I (m D sv H q)⟩
theorem yw{X:Cx}{e:List Stmt}{t t':TS}(h:PSs X e t)(m:∀ D sv H,t' D sv H→t D sv H):PSs X e t':=⟨fun pins s sv H D I q=>h.run pins s sv H D I (m D sv H q)⟩
end Vw
namespace Vw
open PySem L2 PyProof.Rows
section
variable{X:Cx}
theorem MO:OpR X (binaryOp .Add) (fun x y H Q=>∃ l b xs zs,x=.ref l∧y=.ref b∧Rd H l (.lst xs)∧Rd H b (.lst zs)∧xs.length+zs.length≤sizeLine∧∀ p,H p=none→Q (.ref p) (upd H p (.lst (xs++zs)))):=by
 intro pins s σ H x y v u Q I rx ry h
 obtain⟨l,b,xs,zs,rfl,rfl,hH,hB,hz,q⟩:=h
 cases rx
 cases ry
 obtain⟨z,its,n,r,e⟩:=hH.ok I.hok
 obtain⟨z2,its2,n2,r2,e2⟩:=hB.ok I.hok
 have hl:=r.length
 have hl2:=r2.length
 refine PySem.P.add_list e e2 ?_ (by rw[List.size_toArray,List.size_toArray];omega)
 have ea:its.toArray++its2.toArray=(its++its2).toArray:=by simp
 rw[ea]
 exact⟨.ref _,_,I.lnew (t':=s.toks) (r.append r2) (by rw[List.length_append];omega),rfl,q _ I.fresh⟩
def Hg(K:PySem.W.Frag)(n:Bool):R2:=fun x y H Q=>∃ d e,Dp K H x d∧Dp K H y e∧d.plain=true∧e.plain=true∧min d.depth e.depth≤60∧Q (.bl (xor n (PyData.eqv d e))) H
theorem OF(hu:X.A.units+64<cLine):OpR X (compareOp .Eq) (Hg X.K false):=by
 intro pins s σ H x y v u Q I rx ry h
 obtain⟨d,e,hd,he,sd,se,dp,q⟩:=h
 obtain⟨as,r1⟩:=Dp.reads I d x v hd rx
 obtain⟨bs,r2⟩:=Dp.reads I e y u he ry
 exact SeqAt.eq_plain r1 r2 sd se (by omega) ⟨.bl _,H,I,by simp[L2.RelV],q⟩
theorem L3(hu:X.A.units+64<cLine):OpR X (compareOp .NotEq) (Hg X.K true):=by
 intro pins s σ H x y v u Q I rx ry h
 obtain⟨d,e,hd,he,sd,se,dp,q⟩:=h
 obtain⟨as,r1⟩:=Dp.reads I d x v hd rx
 obtain⟨bs,r2⟩:=Dp.reads I e y u he ry
 exact SeqAt.ne_plain r1 r2 sd se (by omega) ⟨.bl _,H,I,by simp[L2.RelV],q⟩
def rIn(K:PySem.W.Frag)(n:Bool):R2:=fun x y H Q=>∃ d l,Dp K H x d∧(Dp K H y (.list l)∨Dp K H y (.tuple l))∧d.plain=true∧PyData.plainAll l=true∧min (PyData.depthAll l) d.depth≤60∧Q (.bl (xor n (l.any fun y=>PyData.eqv y d))) H
theorem N5(hu:X.A.units+64<cLine):OpR X (compareOp .In) (rIn X.K false):=by
 intro pins s σ H x y v u Q I rx ry h
 obtain⟨d,l,hd,he,sd,se,dp,q⟩:=h
 obtain⟨as,r1⟩:=Dp.reads I d x v hd rx
 rcases he with he | he
 ·obtain⟨bs,r2⟩:=Dp.reads I _ y u he ry
  exact SeqAt.in_list_data r2 r1 se sd (by omega) ⟨.bl _,H,I,by simp[L2.RelV],q⟩
 ·obtain⟨bs,r2⟩:=Dp.reads I _ y u he ry
  exact SeqAt.in_tuple_data r2 r1 se sd (by omega) ⟨.bl _,H,I,by simp[L2.RelV],q⟩
theorem M5(hu:X.A.units+64<cLine):OpR X (compareOp .NotIn) (rIn X.K true):=by
 intro pins s σ H x y v u Q I rx ry h
 obtain⟨d,l,hd,he,sd,se,dp,q⟩:=h
 obtain⟨as,r1⟩:=Dp.reads I d x v hd rx
 rcases he with he | he
 ·obtain⟨bs,r2⟩:=Dp.reads I _ y u he ry
  exact SeqAt.notIn_list_data r2 r1 se sd (by omega) ⟨.bl _,H,I,by simp[L2.RelV],q⟩
 ·obtain⟨bs,r2⟩:=Dp.reads I _ y u he ry
  exact SeqAt.notIn_tuple_data r2 r1 se sd (by omega) ⟨.bl _,H,I,by simp[L2.RelV],q⟩
def Gb(n:Bool):R2:=fun y x H Q=>∃ a o,x=.ref a∧DGet H a y o∧Q (.bl (xor n o.isSome)) H
theorem Ms(hu:X.A.units+64<cLine):OpR X (compareOp .In) (Gb false):=by
 intro pins s σ H x y v u Q I rx ry h
 obtain⟨a,o,rfl,g,q⟩:=h
 cases ry
 exact d_in (by omega) I g rx fun s' I'=>⟨.bl _,H,I',by simp[L2.RelV],q⟩
theorem Kr(hu:X.A.units+64<cLine):OpR X (compareOp .NotIn) (Gb true):=by
 intro pins s σ H x y v u Q I rx ry h
 obtain⟨a,o,rfl,g,q⟩:=h
 cases ry
 exact d_notIn (by omega) I g rx fun s' I'=>⟨.bl _,H,I',by simp[L2.RelV],q⟩
def rIxD:R2:=fun x y H Q=>∃ a v,x=.ref a∧DGet H a y (some v)∧Q v H
theorem MS(hu:X.A.units+64<cLine):IxR X rIxD:=by
 intro value slice pins s σ H x y v u Q I rx ry h hs
 obtain⟨a,z,rfl,g,q⟩:=h
 cases rx
 have hT:=dict_typeIs I g
 unfold subscriptTail
 refine wpAny_bind ?_
 rw[getitemInPython_of_ne hT.not_modules]
 refine wpAny_bind (wpAny_specialOf hT PySem.F.slot_dict_getitem.lookup ?_)
 have fin:wpAny (model X.prog X.w) X.A (subscripted slice false (.ref a) u) (fun r s₃=>wpAny (model X.prog X.w) X.A (letTemporaryGo value (.ref a) r >>= fun _=>pure r) (EP X pins σ Q) X.xe s₃) X.xe s:=by
  rw[hs]
  exact wpAny_operating (d_getItem (by omega) I g ry fun w' s3 I3 rw'=>wpAny_bind (wpAny_letTemporaryGo (wpAny_pure ⟨z,H,I3,rw',q⟩)))
 first
  | exact wpAny_pure (wpAny_bind fin)
  | exact wpAny_bind (wpAny_pure (wpAny_bind fin))
  | exact wpAny_bind fin
end
def st(l:List Nat):Str:=⟨l.toArray⟩
mutual
def pd:D→PyData
 | .non=>.none
 | .bl b=>.bool b
 | .int i=>.int i
 | .str s=>.str (st s)
 | .tup l=>.tuple (dR l)
 | .lst l=>.list (dR l)
 | _=>.dict []
def dR:List D→List PyData
 | []=>[]
 | x::r=>pd x::dR r
end
mutual
theorem x4{C:Cst}{K:PySem.W.Frag}{Z:Hp}{loc:List Addr}{s:State}{sv:L2.St}{H:Hp}(r:SR C Z loc s sv H):∀ (d:D) {v:V},aN C.cA Z d v→(pd d).plain=true→Dp K H v (pd d)
 | .non,v,q,_=>by rw[show v=_ from q];exact .non
 | .bl _,v,q,_=>by rw[show v=_ from q];exact .bl _
 | .int _,v,q,_=>by rw[show v=_ from q];exact .int _
 | .str _,v,q,_=>by rw[show v=_ from q];exact .str _
 | .tup l,v,⟨a,vs,e,z,q⟩,p=>by
  rw[e]
  exact .tup (.inl (r.zh a _ z).rd) (vf r l q p)
 | .lst l,v,⟨a,vs,e,z,q⟩,p=>by
  rw[e]
  refine .lst (.inl ?_) (vf r l q p)
  rcases z with z | ⟨o,z⟩
  ·exact(r.zh a _ z).rd
  ·exact .inr ⟨o,(r.zh a _ z).at rfl⟩
 | .dic _,v,_,p=>by cases p
 | .dit _,v,_,p=>by cases p
 | .ins _ _,v,_,p=>by cases p
 | .exc _ _,v,_,p=>by cases p
theorem vf{C:Cst}{K:PySem.W.Frag}{Z:Hp}{loc:List Addr}{s:State}{sv:L2.St}{H:Hp}(r:SR C Z loc s sv H):∀ (l:List D) {vs:List V},bq C.cA Z l vs→PyData.plainAll (dR l)=true→DpAll K H vs (dR l)
 | [],vs,q,_=>by rw[show vs=_ from q];exact .nil
 | d::l,vs,⟨v,t,e,q1,q2⟩,p=>by
  rw[e]
  have p':(pd d).plain=true∧PyData.plainAll (dR l)=true:=by simpa [dR,PyData.plainAll]using p
  exact .cons (x4 r d q1 p'.1) (vf r l q2 p'.2)
end
def jN(x y:D):Bool:=PyData.eqv (pd x) (pd y)
def dB(x y:D):Bool:=(pd x).plain&&(pd y).plain&&decide (min (pd x).depth (pd y).depth≤60)
def fj(s:State):RV→RV
 | .own i=>match s.sg[i]? with
  | some (some (.v x))=>.val x
  | _=>.own i
 | r=>r
def dv(s:State)(r:RV):Option D:=
 match fj s r with
 | .val (.d x)=>some x
 | _=>none
def ob(s:State)(r:RV):Option Ob:=
 match fj s r with
 | .own i=>match s.sg[i]? with
  | some (some (.own o))=>some o
  | _=>none
 | .val (.r n)=>match s.st[n]? with
  | some .gone=>none
  | some o=>some o
  | none=>none
 | _=>none
def lv(s:State)(r:RV):Option (List Val):=
 match dv s r with
 | some (.lst l)=>some (l.map .d)
 | some _=>none
 | none=>match ob s r with
  | some (.lst l)=>some l
  | _=>none
def tv(s:State)(r:RV):Option (List Val):=
 match fj s r with
 | .val (.d (.tup l))=>some (l.map .d)
 | .val (.tp l)=>some l
 | _=>none
def j3(s:State)(r:RV):Option D:=
 match dv s r with
 | some d=>some d
 | none=>match ob s r with
  | some (.lst l)=>(toDs l).map .lst
  | _=>none
section
variable{C:Cst}{Z:Hp}{loc:List Addr}{s:State}{sv:L2.St}{H:Hp}
theorem SR.fj(r:SR C Z loc s sv H){rv:RV}{v:V}(h:bH C Z loc s sv H rv v):bH C Z loc s sv H (fj s rv) v:=by
 cases rv with
 | val x=>exact h
 | new o=>exact h
 | own i=>
  unfold Vw.fj
  dsimp only
  split
  ·rename_i x e
   obtain⟨v',h1,h2⟩:=r.vl i x e
   rw[show sv[i]? =some (some v)from h]at h1
   cases h1
   exact h2
  ·exact h
theorem SR.dv(r:SR C Z loc s sv H){rv:RV}{v:V}{x:D}(h:bH C Z loc s sv H rv v)(e:dv s rv=some x):aN C.cA Z x v:=by
 have q:=r.fj h
 unfold Vw.dv at e
 split at e
 ·rename_i y e1
  cases e
  rw[e1]at q
  exact q
 ·cases e
theorem SR.ob(r:SR C Z loc s sv H){rv:RV}{v:V}{o:Ob}(h:bH C Z loc s sv H rv v)(e:ob s rv=some o):∃ a,v=.ref a∧o≠ .gone∧Cell C.cA Z loc H a o:=by
 have q:=r.fj h
 unfold Vw.ob at e
 split at e
 ·rename_i i e1
  rw[e1]at q
  split at e
  ·rename_i o' e2
   cases e
   obtain⟨a,h1,h2,h3,_⟩:=r.ow i _ e2
   rw[show sv[i]? =some (some v)from q]at h1
   cases h1
   exact⟨a,rfl,h2,h3⟩
  ·cases e
 ·rename_i n e1
  rw[e1]at q
  obtain⟨a,h1,h2⟩:=q
  split at e
  ·cases e
  ·rename_i o' ne e2
   cases e
   exact⟨a,h2,ne,(r.cl n a _ h1 e2 ne).1⟩
  ·cases e
 ·cases e
theorem SR.lv(r:SR C Z loc s sv H){rv:RV}{v:V}{l:List Val}(h:bH C Z loc s sv H rv v)(e:lv s rv=some l):∃ a xs,v=.ref a∧Rd H a (.lst xs)∧aE C.cA Z loc l xs:=by
 unfold Vw.lv at e
 split at e
 ·rename_i l' e1
  cases e
  obtain⟨a,vs,h1,h2,h3⟩:=r.dv h e1
  refine⟨a,vs,h1,?_,eK.mpr h3⟩
  rcases h2 with z | ⟨o,z⟩
  ·exact(r.zh a _ z).rd
  ·exact .inr ⟨o,(r.zh a _ z).at rfl⟩
 ·cases e
 ·split at e
  ·rename_i l' e1
   cases e
   obtain⟨a,h1,_,xs,h2,h3⟩:=r.ob h e1
   exact⟨a,xs,h1,.inl h2,h3⟩
  ·cases e
theorem SR.tv(r:SR C Z loc s sv H){rv:RV}{v:V}{l:List Val}(h:bH C Z loc s sv H rv v)(e:tv s rv=some l):∃ a xs,v=.ref a∧H a=some (.tup xs)∧aE C.cA Z loc l xs:=by
 have q:=r.fj h
 unfold Vw.tv at e
 split at e
 ·rename_i l' e1
  cases e
  rw[e1]at q
  obtain⟨a,vs,h1,h2,h3⟩:=q
  exact⟨a,vs,h1,(r.zh a _ h2).at rfl,eK.mpr h3⟩
 ·rename_i l' e1
  cases e
  rw[e1]at q
  obtain⟨a,vs,h1,h2,h3⟩:=q
  exact⟨a,vs,h1,(r.zh a _ h2).at rfl,h3⟩
 ·cases e
theorem SR.j3(r:SR C Z loc s sv H){K:PySem.W.Frag}{rv:RV}{v:V}{d:D}(h:bH C Z loc s sv H rv v)(e:j3 s rv=some d)(p:(pd d).plain=true):Dp K H v (pd d):=by
 unfold Vw.j3 at e
 split at e
 ·rename_i d' e1
  cases e
  exact x4 r _ (r.dv h e1) p
 ·split at e
  ·rename_i l e1
   obtain⟨ds,e2,rfl⟩:=Option.map_eq_some_iff.mp e
   obtain⟨a,h1,_,xs,h2,h3⟩:=r.ob h e1
   rw[h1]
   rw[toDs_inv e2]at h3
   exact .lst (.inl (.inl h2)) (vf r ds (eK.mp h3) p)
  ·cases e
end
end Vw
namespace Vw
open PySem L2 PyProof.Rows
def aF(x:D)(s:State):Res RV:=.ok (.val (.d x)) s
inductive Bop where
 | add | sub | mul | fdiv | mod | pow
 deriving DecidableEq
def Bop.py:Bop→Operator
 | .add=>.Add
 | .sub=>.Sub
 | .mul=>.Mult
 | .fdiv=>.FloorDiv
 | .mod=>.Mod
 | .pow=>.Pow
def oC(x y:RV)(s:State):Res RV:=
 match dv s x,dv s y with
 | some (.int i),some (.int j)=>aF (.int (i+j)) s
 | some (.str a),some (.str b)=>if a.length+b.length≤sizeLine then aF (.str (a++b)) s else .stuck
 | _,_=>match lv s x,lv s y with
  | some l,some m=>if l.length+m.length≤sizeLine then .ok (.new (.lst (l++m))) s else .stuck
  | _,_=>.stuck
def Ao(x y:RV)(s:State):Res RV:=
 match dv s x,dv s y with
 | some (.int i),some (.int j)=>if i.natAbs.log2+j.natAbs.log2<1000000 then aF (.int (i*j)) s else .stuck
 | some (.str a),some (.int j)=>if 0≤j∧j<1000000∧a.length*j.toNat≤1000000 then aF (.str (List.replicate j.toNat a).flatten) s else .stuck
 | _,_=>.stuck
def binop:Bop→RV→RV→State→Res RV
 | .add,x,y,s=>oC x y s
 | .mul,x,y,s=>Ao x y s
 | .sub,x,y,s=>match dv s x,dv s y with
  | some (.int i),some (.int j)=>aF (.int (i-j)) s
  | _,_=>.stuck
 | .fdiv,x,y,s=>match dv s x,dv s y with
  | some (.int i),some (.int j)=>if 0<j∧j.natAbs.log2<9000 then aF (.int (i/j)) s else .stuck
  | _,_=>.stuck
 | .mod,x,y,s=>match dv s x,dv s y with
  | some (.int i),some (.int j)=>if 0<j then aF (.int (i%j)) s else .stuck
  | _,_=>.stuck
 | .pow,x,y,s=>match dv s x,dv s y with
  | some (.int i),some (.int j)=>if 0≤j∧j≤1000000∧i.natAbs<2^64 then aF (.int (i^j.toNat)) s else .stuck
  | _,_=>.stuck
inductive Cop where
 | eq | ne | lt | le | gt | ge | is | isn | isin | notin
 deriving DecidableEq
def Cop.py:Cop→CmpOp
 | .eq=>.Eq
 | .ne=>.NotEq
 | .lt=>.Lt
 | .le=>.LtE
 | .gt=>.Gt
 | .ge=>.GtE
 | .is=>.Is
 | .isn=>.IsNot
 | .isin=>.In
 | .notin=>.NotIn
def subIn(a b:List Nat):Bool:= !(Builtin.Str.occurrences (st b) (st a) 0 b.length 1).isEmpty
def hZ(a b:List Nat):Bool:=decide (a<b)
def wc(s:State)(x y:RV)(f:Int→Int→Bool)(g:List Nat→List Nat→Bool):Option Bool:=
 match dv s x,dv s y with
 | some (.int i),some (.int j)=>some (f i j)
 | some (.str a),some (.str b)=>some (g a b)
 | _,_=>none
def tK:D→Option K0
 | .int i=>some (.i i)
 | .str t=>some (.s t)
 | _=>none
def yB:List D→Option (List K0)
 | []=>some []
 | d::r=>match tK d,yB r with
  | some k,some t=>some (k::t)
  | _,_=>none
def aA{κ α:Type}[DecidableEq κ](l:List (κ×α))(k:κ):Option α:=(l.find? fun p=>decide (p.1=k)).map (·.2)
def aO{κ α:Type}[DecidableEq κ](l:List (κ×α))(k:κ)(v:α):List (κ×α):=
 if l.any fun p=>decide (p.1=k)then l.map (fun p=>if p.1=k then(p.1,v)else p)else l++[(k,v)]
def gF(s:State)(r:RV):Option (List (K0×Val)):=
 match dv s r with
 | some (.dic l)=>some (l.map fun p=>(p.1,.d p.2))
 | some _=>none
 | none=>match ob s r with
  | some (.dic _ l)=>some l
  | _=>none
def qg(s:State)(r:RV):Option (List (List K0×Val)):=
 match dv s r with
 | some (.dit l)=>some (l.map fun p=>(p.1,.d p.2))
 | some _=>none
 | none=>match ob s r with
  | some (.dit _ l)=>some l
  | _=>none
def d4(s:State)(x k:RV):Option (Option Val):=
 match gF s x,dv s k with
 | some l,some d=>(tK d).map (aA l)
 | _,_=>match qg s x,dv s k with
  | some l,some (.tup ks)=>(yB ks).map (aA l)
  | _,_=>none
def inD(s:State)(x y:RV):Option Bool:=
 match d4 s y x with
 | some o=>some o.isSome
 | none=>match dv s x,dv s y with
  | some (.str a),some (.str b)=>some (subIn a b)
  | _,_=>match j3 s x,j3 s y with
   | some d,some (.lst l)=>if(pd d).plain&&PyData.plainAll (dR l)&&decide (min (PyData.depthAll (dR l)) (pd d).depth≤60)then some (l.any fun y=>jN y d)else none
   | some d,some (.tup l)=>if(pd d).plain&&PyData.plainAll (dR l)&&decide (min (PyData.depthAll (dR l)) (pd d).depth≤60)then some (l.any fun y=>jN y d)else none
   | _,_=>none
def Hx(s:State)(x y:RV):Option Bool:=
 match dv s y with
 | some .non=>match dv s x with
  | some .non=>some true
  | some _=>some false
  | none=>match ob s x with
   | some _=>some false
   | none=>(tv s x).map fun _=>false
 | _=>none
def uh(s:State)(x y:RV):Option Bool:=
 match j3 s x,j3 s y with
 | some a,some b=>if dB a b then some (jN a b)else none
 | _,_=>none
def gT:Cop→State→RV→RV→Option Bool
 | .eq,s,x,y=>uh s x y
 | .ne,s,x,y=>(uh s x y).map not
 | .lt,s,x,y=>wc s x y (fun i j=>decide (i<j)) hZ
 | .le,s,x,y=>wc s x y (fun i j=>decide (i≤j)) fun a b=> !hZ b a
 | .gt,s,x,y=>wc s x y (fun i j=>decide (j<i)) fun a b=>hZ b a
 | .ge,s,x,y=>wc s x y (fun i j=>decide (j≤i)) fun a b=> !hZ a b
 | .is,s,x,y=>Hx s x y
 | .isn,s,x,y=>(Hx s x y).map not
 | .isin,s,x,y=>inD s x y
 | .notin,s,x,y=>(inD s x y).map not
def t7(C:Cst)(f:RV→RV→State→Res RV)(r:R2):Prop:=
 ∀ Z loc s sv H x y u v Q,SR C Z loc s sv H→bH C Z loc s sv H x u→bH C Z loc s sv H y v→EPost C Z loc sv (f x y s) Q→r u v H Q
def KA(C:Cst)(f:State→RV→RV→Option Bool)(r:R2):Prop:=
 ∀ Z loc s sv H x y u v b Q,SR C Z loc s sv H→bH C Z loc s sv H x u→bH C Z loc s sv H y v→f s x y=some b→Q (.bl b) H→r u v H Q
section
variable{C:Cst}{Z:Hp}{loc:List Addr}{s:State}{sv:L2.St}{H:Hp}{Q:VK}
theorem EPost.val{x:Val}{v:V}(h:EPost C Z loc sv (.ok (.val x) s) Q)(r:SR C Z loc s sv H)(q:bo C.cA Z loc x v):Q v H:=h Z loc H v (Ext.refl _ _) r q
theorem EPost.aF{x:D}{v:V}(h:EPost C Z loc sv (aF x s) Q)(r:SR C Z loc s sv H)(q:aN C.cA Z x v):Q v H:=EPost.val h r q
theorem EPost.new{o:Ob}{u:HO}{p:Addr}(h:EPost C Z loc sv (.ok (.new o) s) Q)(r:SR C Z loc s sv H)(np:H p=none)(ne:o≠ .gone)(q:Cell C.cA Z loc (upd H p u) p o):Q (.ref p) (upd H p u):=
 h Z loc _ _ (Ext.refl _ _) (r.grow (bC np)) ⟨p,rfl,ne,q,r.free np⟩
theorem bD:∀ {l:List Val} {xs:List V},aE C.cA Z loc l xs→l.length=xs.length
 | [],xs,h=>by rw[show xs=_ from h];rfl
 | x::l,xs,⟨v,r,e,q,t⟩=>by rw[e,List.length_cons,List.length_cons,bD t]
theorem kO:∀ {l m:List Val} {xs ys:List V},aE C.cA Z loc l xs→aE C.cA Z loc m ys→aE C.cA Z loc (l++m) (xs++ys)
 | [],m,xs,ys,h,g=>by rw[show xs=_ from h];exact g
 | x::l,m,xs,ys,⟨v,r,e,q,t⟩,g=>by rw[e];exact⟨v,r++ys,rfl,q,kO t g⟩
theorem HR:t7 C oC (fun x y H Q=>rI0 (fun i j=>.int (i+j)) x y H Q∨((∃ i j,x=.str i∧y=.str j∧i.length+j.length≤sizeLine∧Q (.str (i++j)) H)∨
  ∃ l b xs zs,x=.ref l∧y=.ref b∧Rd H l (.lst xs)∧Rd H b (.lst zs)∧xs.length+zs.length≤sizeLine∧∀ p,H p=none→Q (.ref p) (upd H p (.lst (xs++zs))))):=by
 intro Z loc s sv H x y u v Q r hx hy h
 unfold oC at h
 split at h
 ·rename_i i j e1 e2
  exact .inl ⟨i,j,r.dv hx e1,r.dv hy e2,h.aF r rfl⟩
 ·rename_i a b e1 e2
  split at h
  ·rename_i hl
   refine .inr (.inl ⟨⟨a.toArray⟩,⟨b.toArray⟩,r.dv hx e1,r.dv hy e2,by simpa [Str.length]using hl,h.aF r ?_⟩)
   show V.str _=V.str _
   congr 1
   show Str.mk (a.toArray++b.toArray)=_
   simp
  ·exact h.elim
 ·split at h
  ·rename_i l m e1 e2
   split at h
   ·rename_i hl
    obtain⟨a,xs,h1,h2,h3⟩:=r.lv hx e1
    obtain⟨b,ys,h4,h5,h6⟩:=r.lv hy e2
    refine .inr (.inr ⟨a,b,xs,ys,h1,h4,h2,h5,by rw[←bD h3,←bD h6];exact hl,fun p np=>h.new r np (by simp) ⟨_,upd_same,kO h3 h6⟩⟩)
   ·exact h.elim
  ·exact h.elim
end
section
variable{X:Cx}
theorem Mr:OpR X (binaryOp .Add) (fun x y H Q=>rI0 (fun i j=>.int (i+j)) x y H Q∨((∃ i j,x=.str i∧y=.str j∧i.length+j.length≤sizeLine∧Q (.str (i++j)) H)∨
  ∃ l b xs zs,x=.ref l∧y=.ref b∧Rd H l (.lst xs)∧Rd H b (.lst zs)∧xs.length+zs.length≤sizeLine∧∀ p,H p=none→Q (.ref p) (upd H p (.lst (xs++zs))))):=
 op_add.or (op_add_str.or MO)
def Pn:R2:=fun x y H Q=>∃ (a:Str) (j:Int),x=.str a∧y=.int j∧0≤j∧j<1000000∧a.length*j.toNat≤1000000∧Q (.str ⟨(List.replicate j.toNat a.cps.toList).flatten.toArray⟩) H
theorem xp(a:Array Nat):∀ (n:Nat) (b:Array Nat),(List.replicate n a).foldl (· ++ ·) b=(b.toList++(List.replicate n a.toList).flatten).toArray
 | 0,b=>by simp
 | n+1,b=>by
  rw[List.replicate_succ,List.foldl_cons,xp a n]
  simp[List.replicate_succ]
theorem Lz:OpR X (binaryOp .Mult) Pn:=by
 intro pins s σ H x y v u Q I rx ry h
 obtain⟨a,j,rfl,rfl,h0,h1,h2,q⟩:=h
 obtain⟨t,rfl⟩:=rx
 obtain⟨t',rfl⟩:=ry
 have b63:(2:Int)^63=9223372036854775808:=by decide
 refine PySem.P.mul_str (by simp;omega) (fun g1 g2 g=>?_) (fun g1 g2=>?_) ?_
 ·have hj:(1:Int)≤j:=by omega
  have e1:(a.length:Int)*j≤1000000:=by
   have:((a.length*j.toNat:Nat):Int)≤1000000:=by omega
   rw[Int.natCast_mul,Int.toNat_of_nonneg h0]at this
   exact this
  have e2:(a.length:Int)≤1000000:=by
   have:a.length≤a.length*j.toNat:=Nat.le_mul_of_pos_right _ (by omega)
   omega
  have e3:(9223372036853:Int)≤(2^63- 1)/j:=by
   refine Int.le_ediv_of_mul_le (by omega) ?_
   rw[b63]
   omega
  omega
 ·have h3:a.length*j.toNat≤1000000:=h2
  unfold Builtin.Str.tooLong
  rw[sizeLine_eq]
  simp
  omega
 ·by_cases c1:j<1
  ·rw[if_pos c1]
   have e0:j=0:=by omega
   subst e0
   exact⟨by decide,.str _,H,I.tok _,⟨_,rfl⟩,q⟩
  ·rw[if_neg c1]
   by_cases c2:(j==1||a.length==0)=true
   ·rw[if_pos c2]
    refine⟨.str a,H,I,⟨_,rfl⟩,?_⟩
    have ea:(⟨(List.replicate j.toNat a.cps.toList).flatten.toArray⟩:Str)=a:=by
     refine Str.ext' (Array.toList_inj.mp ?_)
     simp at c2
     rcases c2 with c2 | c2
     ·subst c2;simp
     ·have:a.cps.toList=[]:=List.length_eq_zero_iff.mp (by simpa [Str.length]using c2)
      simp[this]
    rw[ea]at q
    exact q
   ·rw[if_neg c2]
    have ea:(List.replicate j.toNat a.cps).foldl (· ++ ·) #[]=(List.replicate j.toNat a.cps.toList).flatten.toArray:=by
     rw[xp];simp
    rw[ea]
    refine⟨?_,.str _,H,I.tok _,⟨_,rfl⟩,q⟩
    show(List.replicate j.toNat a.cps.toList).flatten.toArray.size≤_
    rw[List.size_toArray,List.length_flatten,List.map_replicate,List.sum_replicate_nat,sizeLine_eq]
    have h3:a.cps.toList.length=a.length:=rfl
    rw[h3,Nat.mul_comm]
    omega
end
end Vw
namespace Vw
open PySem L2 PyProof.Rows
section
variable{C:Cst}{X:Cx}
theorem rL{f:RV→RV→State→Res RV}{c:Int→Int→Prop}{g:Int→Int→Int}
  (h:∀ x y s,(∃ i j,dv s x=some (.int i)∧dv s y=some (.int j)∧c i j∧f x y s=aF (.int (g i j)) s)∨f x y s=.stuck):t7 C f (rI c fun i j=>.int (g i j)):=by
 intro Z loc s sv H x y u v Q r hx hy q
 rcases h x y s with⟨i,j,e1,e2,hc,e⟩ | e
 ·rw[e]at q
  exact⟨i,j,r.dv hx e1,r.dv hy e2,hc,q.aF r rfl⟩
 ·rw[e]at q
  exact q.elim
theorem Jv(op:Bop):∃ r,OpR X (binaryOp op.py) r∧t7 C (binop op) r:=by
 cases op with
 | add=>exact⟨_,Mr,HR⟩
 | sub=>exact⟨_,opI (C:=fun _ _=>True) fun _ _ _ _ _ _ _ _ q=>sub_int q,rL fun x y s=>by
   show(_∨(match dv s x,dv s y with | some (.int i),some (.int j)=>_ | _,_=>_)=Res.stuck)
   split
   ·rename_i i j e1 e2;exact .inl ⟨i,j,e1,e2,trivial,by unfold binop;simp only[e1,e2]⟩
   ·exact .inr rfl⟩
 | mul=>
  refine⟨_,op_mulW.or Lz,?_⟩
  intro Z loc s sv H x y u v Q r hx hy q
  unfold binop Ao at q
  dsimp only at q
  split at q
  ·rename_i i j e1 e2
   split at q
   ·rename_i hc
    exact .inl ⟨i,j,r.dv hx e1,r.dv hy e2,hc,q.aF r rfl⟩
   ·exact q.elim
  ·rename_i a j e1 e2
   split at q
   ·rename_i hc
    refine .inr ⟨⟨a.toArray⟩,j,r.dv hx e1,r.dv hy e2,hc.1,hc.2.1,by simpa [Str.length]using hc.2.2,q.aF r ?_⟩
    show V.str _=V.str _
    simp
   ·exact q.elim
  ·exact q.elim
 | fdiv=>exact⟨_,op_fdivW,rL fun x y s=>by
   show(_∨(match dv s x,dv s y with | some (.int i),some (.int j)=>_ | _,_=>_)=Res.stuck)
   split
   ·rename_i i j e1 e2
    by_cases hc:0<j∧j.natAbs.log2<9000
    ·exact .inl ⟨i,j,e1,e2,hc,by unfold binop;simp only[e1,e2,if_pos hc]⟩
    ·exact .inr (if_neg hc)
   ·exact .inr rfl⟩
 | mod=>exact⟨_,op_mod,rL fun x y s=>by
   show(_∨(match dv s x,dv s y with | some (.int i),some (.int j)=>_ | _,_=>_)=Res.stuck)
   split
   ·rename_i i j e1 e2
    by_cases hc:0<j
    ·exact .inl ⟨i,j,e1,e2,hc,by unfold binop;simp only[e1,e2,if_pos hc]⟩
    ·exact .inr (if_neg hc)
   ·exact .inr rfl⟩
 | pow=>exact⟨_,op_pow,rL fun x y s=>by
   show(_∨(match dv s x,dv s y with | some (.int i),some (.int j)=>_ | _,_=>_)=Res.stuck)
   split
   ·rename_i i j e1 e2
    by_cases hc:0≤j∧j≤1000000∧i.natAbs<2^64
    ·exact .inl ⟨i,j,e1,e2,hc,by unfold binop;simp only[e1,e2,if_pos hc]⟩
    ·exact .inr (if_neg hc)
   ·exact .inr rfl⟩
end
section
variable{C:Cst}{Z:Hp}{loc:List Addr}{s:State}{sv:L2.St}{H:Hp}
theorem uc{d:D}{k:K0}{v:V}(e:tK d=some k)(h:aN C.cA Z d v):v=kV (kz k):=by
 cases d<;> simp[tK]at e
 ·subst e;exact h
 ·subst e;exact h
theorem zQ:∀ {l:List D} {ks:List K0} {vs:List V},yB l=some ks→bq C.cA Z l vs→vs=(ks.map kz).map kV
 | [],ks,vs,e,h=>by cases e;rw[show vs=_ from h];rfl
 | d::l,ks,vs,e,⟨v,r,e1,q,t⟩=>by
  unfold yB at e
  split at e
  ·rename_i k ks' e2 e3
   cases e
   rw[e1,uc e2 q,zQ e3 t]
   rfl
  ·cases e
def yA(C:Cst)(Z:Hp)(loc:List Addr):Option Val→Option V→Prop
 | some x,some v=>bo C.cA Z loc x v
 | none,none=>True
 | _,_=>False
theorem nk{κ α:Type}[DecidableEq κ](k':κ)(x:α)(l:List (κ×α))(k:κ):aA ((k',x)::l) k=if k'=k then some x else aA l k:=by
 unfold aA
 by_cases e:k'=k<;> simp[List.find?_cons,e]
theorem xv:∀ {l:List (K0×Val)} {ws:List (Key×V)} (k:K0),bS C.cA Z loc l ws→yA C Z loc (aA l k) (valV ws (kz k))
 | [],ws,k,h=>by rw[show ws=_ from h];exact trivial
 | (k',x)::l,ws,k,⟨v,r,e,q,t⟩=>by
  rw[e,nk]
  by_cases hk:k'=k
  ·rw[if_pos hk,valV_pos (by rw[hk])];exact q
  ·rw[if_neg hk,valV_neg (fun z=>hk (uQ z))];exact xv k t
theorem lK:∀ {a b:List K0},a.map kz=b.map kz→a=b
 | [],[],_=>rfl
 | [],_::_,h=>by simp at h
 | _::_,[],h=>by simp at h
 | x::a,y::b,h=>by
  simp only[List.map_cons,List.cons.injEq]at h
  rw[uQ h.1,lK h.2]
theorem xn:∀ {l:List (List K0×Val)} {ws:List (List Key×V)} (k:List K0),cR C.cA Z loc l ws→yA C Z loc (aA l k) (valV ws (k.map kz))
 | [],ws,k,h=>by rw[show ws=_ from h];exact trivial
 | (k',x)::l,ws,k,⟨v,r,e,q,t⟩=>by
  rw[e,nk]
  by_cases hk:k'=k
  ·rw[if_pos hk,valV_pos (by rw[hk])];exact q
  ·rw[if_neg hk,valV_neg (fun z=>hk (lK z))];exact xn k t
theorem u6.rd{H:Hp}{a:Addr}{u:HO}:∀ {k:Bool},u6 H a u k→Rd H a u
 | false,q=>.inl q
 | true,q=>.inr q
theorem SR.gF(r:SR C Z loc s sv H){rv:RV}{v:V}{l:List (K0×Val)}(h:bH C Z loc s sv H rv v)(e:gF s rv=some l):∃ a ws,v=.ref a∧Rd H a (.dK ws)∧bS C.cA Z loc l ws:=by
 unfold Vw.gF at e
 split at e
 ·rename_i l' e1
  cases e
  obtain⟨a,ws,h1,h2,h3⟩:=r.dv h e1
  exact⟨a,ws,h1,(r.zh a _ h2).rd,oM.mpr h3⟩
 ·cases e
 ·split at e
  ·rename_i k l' e1
   cases e
   obtain⟨a,h1,_,ws,h2,h3⟩:=r.ob h e1
   exact⟨a,ws,h1,h2.rd,h3⟩
  ·cases e
theorem SR.qg(r:SR C Z loc s sv H){rv:RV}{v:V}{l:List (List K0×Val)}(h:bH C Z loc s sv H rv v)(e:qg s rv=some l):∃ a ws,v=.ref a∧Rd H a (.dT ws)∧cR C.cA Z loc l ws:=by
 unfold Vw.qg at e
 split at e
 ·rename_i l' e1
  cases e
  obtain⟨a,ws,h1,h2,h3⟩:=r.dv h e1
  exact⟨a,ws,h1,(r.zh a _ h2).rd,oJ.mpr h3⟩
 ·cases e
 ·split at e
  ·rename_i k l' e1
   cases e
   obtain⟨a,h1,_,ws,h2,h3⟩:=r.ob h e1
   exact⟨a,ws,h1,h2.rd,h3⟩
  ·cases e
theorem SR.d4(r:SR C Z loc s sv H){x k:RV}{u v:V}{o:Option Val}(hx:bH C Z loc s sv H x u)(hk:bH C Z loc s sv H k v)(e:d4 s x k=some o):
  ∃ a w,u=.ref a∧DGet H a v w∧yA C Z loc o w:=by
 unfold Vw.d4 at e
 split at e
 ·rename_i l d e1 e2
  obtain⟨k0,e3,rfl⟩:=Option.map_eq_some_iff.mp e
  obtain⟨a,ws,h1,h2,h3⟩:=r.gF hx e1
  exact⟨a,_,h1,.inl ⟨ws,kz k0,h2,uc e3 (r.dv hk e2),rfl⟩,xv k0 h3⟩
 ·split at e
  ·rename_i l ks e1 e2
   obtain⟨k0,e3,rfl⟩:=Option.map_eq_some_iff.mp e
   obtain⟨a,ws,h1,h2,h3⟩:=r.qg hx e1
   obtain⟨b,vs,h4,h5,h6⟩:=r.dv hk e2
   refine⟨a,_,h1,.inr ⟨ws,k0.map kz,b,h2,h4,?_,rfl⟩,xn k0 h3⟩
   rw[←zQ e3 h6]
   exact(r.zh b _ h5).at rfl
  ·cases e
theorem yA.isSome{o:Option Val}{w:Option V}(h:yA C Z loc o w):o.isSome=w.isSome:=by
 cases o<;> cases w<;> first | rfl | exact h.elim
end
section
variable{C:Cst}{X:Cx}
theorem B7{op:CmpOp}{f:Int→Int→Bool}{g:List Nat→List Nat→Bool}
  (h1:OpR X (compareOp op) (rI0 fun i j=>.bl (f i j))) (h2:OpR X (compareOp op) (fun x y H Q=>∃ i j:Str,x=.str i∧y=.str j∧Q (.bl (g i.cps.toList j.cps.toList)) H)):
  ∃ r,OpR X (compareOp op) r∧KA C (fun s x y=>wc s x y f g) r:=by
 refine⟨_,h1.or h2,?_⟩
 intro Z loc s sv H x y u v b Q r hx hy e q
 unfold wc at e
 dsimp only at e
 split at e
 ·rename_i i j e1 e2
  cases e
  exact .inl ⟨i,j,r.dv hx e1,r.dv hy e2,q⟩
 ·rename_i i j e1 e2
  cases e
  exact .inr ⟨⟨i.toArray⟩,⟨j.toArray⟩,r.dv hx e1,r.dv hy e2,by simpa using q⟩
 ·cases e
theorem NS(n:Bool){Z:Hp}{loc:List Addr}{s:State}{sv:L2.St}{H:Hp}{x y:RV}{u v:V}{b:Bool}{Q:VK}(r:SR C Z loc s sv H)(hx:bH C Z loc s sv H x u)(hy:bH C Z loc s sv H y v)(e:uh s x y=some b)
  (q:Q (.bl (xor n b)) H):Hg X.K n u v H Q:=by
 unfold uh at e
 split at e
 ·rename_i d d' e1 e2
  split at e
  ·rename_i hc
   cases e
   simp only[dB,Bool.and_eq_true,decide_eq_true_eq]at hc
   exact⟨pd d,pd d',r.j3 hx e1 hc.1.1,r.j3 hy e2 hc.1.2,hc.1.1,hc.1.2,hc.2,q⟩
  ·cases e
 ·cases e
theorem vp(d:D):∀ l:List D,(dR l).any (fun y=>PyData.eqv y (pd d))=l.any fun y=>jN y d
 | []=>rfl
 | x::l=>by
  show(_||_)=(_||_)
  rw[vp d l]
  rfl
theorem NP(n:Bool){Z:Hp}{loc:List Addr}{s:State}{sv:L2.St}{H:Hp}{x y:RV}{u v:V}{b:Bool}(r:SR C Z loc s sv H)(hx:bH C Z loc s sv H x u)(hy:bH C Z loc s sv H y v)(e:Hx s x y=some b):
  v=.non∧decide (u=.non)=b:=by
 unfold Hx at e
 split at e
 ·rename_i e1
  refine⟨r.dv hy e1,?_⟩
  split at e
  ·rename_i e2
   cases e
   exact decide_eq_true (r.dv hx e2)
  ·rename_i d ne e2
   cases e
   refine decide_eq_false fun z=>?_
   have q:=r.dv hx e2
   subst z
   cases d with
   | non=>exact ne rfl
   | bl _=>cases q
   | int _=>cases q
   | str _=>cases q
   | tup l=>obtain⟨_,_,h,_⟩:=q;cases h
   | lst l=>obtain⟨_,_,h,_⟩:=q;cases h
   | dic l=>obtain⟨_,_,h,_⟩:=q;cases h
   | dit l=>obtain⟨_,_,h,_⟩:=q;cases h
   | ins c l=>obtain⟨_,_,_,h,_⟩:=q;cases h
   | exc c l=>obtain⟨_,_,_,h,_⟩:=q;cases h
  ·split at e
   ·rename_i o e2
    cases e
    obtain⟨a,h,_⟩:=r.ob hx e2
    rw[h];rfl
   ·obtain⟨l,e2,e3⟩:=Option.map_eq_some_iff.mp e
    obtain⟨a,xs,h,_⟩:=r.tv hx e2
    rw[h,←e3];rfl
 ·cases e
theorem NQ(n:Bool){Z:Hp}{loc:List Addr}{s:State}{sv:L2.St}{H:Hp}{x y:RV}{u v:V}{b:Bool}{Q:VK}(r:SR C Z loc s sv H)(hx:bH C Z loc s sv H x u)(hy:bH C Z loc s sv H y v)(e:inD s x y=some b)
  (q:Q (.bl (xor n b)) H):Gb n u v H Q∨((∃ i j,u=.str i∧v=.str j∧Q (.bl (xor n (!(Builtin.Str.occurrences j i 0 j.length 1).isEmpty))) H)∨rIn X.K n u v H Q):=by
 unfold inD at e
 split at e
 ·rename_i o e1
  cases e
  obtain⟨a,w,h1,h2,h3⟩:=r.d4 hy hx e1
  exact .inl ⟨a,w,h1,h2,by rw[←h3.isSome];exact q⟩
 ·split at e
  ·rename_i i j e1 e2
   cases e
   exact .inr (.inl ⟨⟨i.toArray⟩,⟨j.toArray⟩,r.dv hx e1,r.dv hy e2,by simpa [subIn,st,Str.length]using q⟩)
  ·split at e
   ·rename_i d l e1 e2
    split at e
    ·rename_i hc
     cases e
     simp only[Bool.and_eq_true,decide_eq_true_eq]at hc
     refine .inr (.inr ⟨pd d,dR l,r.j3 hx e1 hc.1.1,.inl (r.j3 hy e2 hc.1.2),hc.1.1,hc.1.2,hc.2,?_⟩)
     rw[vp];exact q
    ·cases e
   ·rename_i d l e1 e2
    split at e
    ·rename_i hc
     cases e
     simp only[Bool.and_eq_true,decide_eq_true_eq]at hc
     refine .inr (.inr ⟨pd d,dR l,r.j3 hx e1 hc.1.1,.inr (r.j3 hy e2 hc.1.2),hc.1.1,hc.1.2,hc.2,?_⟩)
     rw[vp];exact q
    ·cases e
   ·cases e
theorem uH(hu:X.A.units+64<cLine)(op:Cop):∃ r,OpR X (compareOp op.py) r∧KA C (gT op) r:=by
 cases op with
 | eq=>exact⟨_,OF hu,fun Z loc s sv H x y u v b Q r hx hy e q=>NS false r hx hy e (by simpa using q)⟩
 | ne=>exact⟨_,L3 hu,fun Z loc s sv H x y u v b Q r hx hy e q=>by
   obtain⟨b',e1,rfl⟩:=Option.map_eq_some_iff.mp e
   exact NS true r hx hy e1 (by simpa using q)⟩
 | lt=>exact B7 op_lt op_lt_str
 | le=>exact B7 op_le op_le_str
 | gt=>exact B7 op_gt op_gt_str
 | ge=>exact B7 op_ge op_ge_str
 | is=>exact⟨_,op_isN,fun Z loc s sv H x y u v b Q r hx hy e q=>by
   obtain⟨h1,h2⟩:=NP false r hx hy e
   exact⟨h1,by rw[h2];exact q⟩⟩
 | isn=>exact⟨_,op_notN,fun Z loc s sv H x y u v b Q r hx hy e q=>by
   obtain⟨b',e1,rfl⟩:=Option.map_eq_some_iff.mp e
   obtain⟨h1,h2⟩:=NP false r hx hy e1
   exact⟨h1,by rw[h2];exact q⟩⟩
 | isin=>exact⟨_,(Ms hu).or (op_in_str.or (N5 hu)),fun Z loc s sv H x y u v b Q r hx hy e q=>by
   rcases NQ (X:=X) false r hx hy e (by simpa using q)with h | ⟨i,j,h1,h2,h3⟩ | h
   ·exact .inl h
   ·exact .inr (.inl ⟨i,j,h1,h2,by simpa using h3⟩)
   ·exact .inr (.inr h)⟩
 | notin=>exact⟨_,(Kr hu).or (L2.op_notin_str.or (M5 hu)),fun Z loc s sv H x y u v b Q r hx hy e q=>by
   obtain⟨b',e1,rfl⟩:=Option.map_eq_some_iff.mp e
   rcases NQ (X:=X) true r hx hy e1 (by simpa using q)with h | ⟨i,j,h1,h2,h3⟩ | h
   ·exact .inl h
   ·exact .inr (.inl ⟨i,j,h1,h2,by simpa using h3⟩)
   ·exact .inr (.inr h)⟩
end
end Vw
namespace Vw
open PySem L2 PyProof.Rows
def notStar:Expr→Bool
 | .Starred .. =>false
 | _=>true
def Cg:Expr→Bool
 | .Call (.Name x _) [] [] _=>x != "super"
 | _=>true
theorem bt{e:Expr}{es:List Expr}{env:Env}(h:notStar e=true):starEach (e::es) env=(false,eval e env)::starEach es env:=by
 cases e<;> first | rfl | cases h
theorem fx{pos:Pos}{env:Env}:∀ {es:List Expr},es.all notStar=true→(backTo pos (starEach es env)).any (·.1)=false
 | [],_=>rfl
 | e::es,h=>by
  simp only[List.all_cons,Bool.and_eq_true]at h
  rw[bt h.1]
  show(false||_)=false
  rw[Bool.false_or]
  exact fx h.2
theorem zK{pos:Pos}{env:Env}:∀ {es:List Expr},es.all notStar=true→(backTo pos (starEach es env)).all (fun x=> !x.1)=true
 | [],_=>rfl
 | e::es,h=>by
  simp only[List.all_cons,Bool.and_eq_true]at h
  rw[bt h.1]
  show(true&&_)=true
  rw[Bool.true_and]
  exact zK h.2
theorem gb{pos:Pos}{env:Env}{es:List Expr}(h:es.all notStar=true)(hl:es.length<20):
  ((backTo pos (starEach es env)).all (fun x=> !x.1)&&(backToKw pos (keywordEach [] env)).all (fun x=>x.1.isSome)
   &&decide (es.length+([]:List Keyword).length+(if([]:List Keyword).isEmpty then 0 else 1)<30))=true:=by
 rw[zK h]
 show(true&&true&&decide (es.length+0+0<30))=true
 simp
 omega
theorem df{o:Expr}{a:Str}{env:Env}{w:Sem Value}(h:Cg o=true):attributeBase o a env w=w:=by
 unfold attributeBase
 split
 ·rename_i x p q
  have hx:(x != "super")=true:=by
   unfold Cg at h
   exact h
  simp[hx]
 ·rfl
def xg:Expr→Bool
 | .UnaryOp .Not _ _=>false
 | .BoolOp .. =>false
 | .IfExp .. =>false
 | .Compare .. =>false
 | _=>true
theorem L4{e:Expr}{env:Env}(h:xg e=true):∀ whole,isTrue e env whole=(do let v ←whole;standAt e.pos;holding [v] (truthy v)):=by
 intro w
 cases e<;> first | rfl | cases h | skip
 rename_i op x p
 cases op<;> first | rfl | cases h
def cb:Expr→Bool
 | .Set .. =>false
 | _=>true
theorem oK{op:CmpOp}{e:Expr}(h:cb e=true):behindInMarks op e=false:=by
 cases e<;> first | rfl | cases h
theorem fold_ok{e:Expr}{env:Env}(h:cb e=true):∀ x,foldedSetIterable e env x=pure x:=by
 intro x
 cases e<;> first | rfl | cases h
def jw:Expr→Bool
 | .ListComp .. =>false
 | .SetComp .. =>false
 | .DictComp .. =>false
 | _=>true
theorem vz{e:Expr}{t:Option Expr}{n:Nat}{env:Env}(h:jw e=true):swapsWith e t n env=pure false:=by
 cases e<;> first | rfl | cases h
def mH:Expr→Bool
 | .Slice .. =>false
 | _=>true
theorem CI{e:Expr}(h:mH e=true):PlainIx e:=by
 intro o i
 cases e<;> first | rfl | cases h
def aa(i:Nat)(s:State):Res RV:=
 match s.sg[i]? with
 | some (some (.v x))=>.ok (.val x) s
 | some (some (.own _))=>.ok (.own i) s
 | _=>.stuck
def fD(d:D)(s:State):Res RV:=aF d s
def ev(f:State→Res RV)(s:State):Res RV:=(f s).bind settle
def aw(fa fb:State→Res RV)(k:RV→RV→State→Res RV)(s:State):Res RV:=(ev fa s).bind fun x s=>(ev fb s).bind fun y s=>k x y s
def aS(op:Cop)(x y:RV)(s:State):Res RV:=
 match gT op s x y with
 | some b=>aF (.bl b) s
 | none=>.stuck
def xA(r:RV)(s:State):Res Bool:=
 match dv s r with
 | some (.bl b)=>.ok b s
 | _=>.stuck
def b9(f:State→Res RV)(s:State):Res Bool:=(ev f s).bind xA
def aq:List (State→Res RV)→State→Res (List RV)
 | [],s=>.ok [] s
 | f::r,s=>(ev f s).bind fun x s=>(aq r s).bind fun xs s=>.ok (x::xs) s
def aI:List RV→State→Res (List Val)
 | [],s=>.ok [] s
 | r::rs,s=>(bL r s).bind fun x s=>(aI rs s).bind fun xs s=>.ok (x::xs) s
def lL(l:List Val):Val:=
 match toDs l with
 | some ds=>.d (.tup ds)
 | none=>.tp l
def qW(rs:List RV)(s:State):Res RV:=(aI rs s).bind fun l s=>if l.length≤sizeLine then .ok (.val (lL l)) s else .stuck
def Ai(rs:List RV)(s:State):Res RV:=(aI rs s).bind fun l s=>if l.length≤sizeLine then .ok (.new (.lst l)) s else .stuck
def Ax(x:RV)(s:State):Res RV:=
 match dv s x with
 | some (.int i)=>aF (.int (-i)) s
 | _=>.stuck
def jd:List (State→Res Bool)→State→Res Bool
 | [],s=>.ok true s
 | [f],s=>f s
 | f::r,s=>(f s).bind fun b s=>if b=true then jd r s else .ok false s
def kT:List (State→Res Bool)→State→Res Bool
 | [],s=>.ok false s
 | [f],s=>f s
 | f::r,s=>(f s).bind fun b s=>if b=true then .ok true s else kT r s
def rg(f:State→Res Bool)(s:State):Res Bool:=(f s).bind fun b s=>.ok (!b) s
def ie:List (State→Res RV)→State→Res RV
 | [],s=>.stuck
 | [f],s=>ev f s
 | f::r,s=>(b9 f s).bind fun b s=>if b=true then ie r s else aF (.bl false) s
def Df:List (State→Res RV)→State→Res RV
 | [],s=>.stuck
 | [f],s=>ev f s
 | f::r,s=>(b9 f s).bind fun b s=>if b=true then aF (.bl true) s else Df r s
theorem Res.bind_assoc{α β γ:Type}(r:Res α)(f:α→State→Res β)(g:β→State→Res γ):(r.bind f).bind g=r.bind fun a s=>(f a s).bind g:=by
 cases r<;> rfl
section
variable{C:Cst}{Z Z':Hp}{loc loc':List Addr}{s s':State}{sv:L2.St}{H:Hp}
theorem ai.A0{f:State→Res RV}{α:Type}{k:RV→State→Res α}{PO:Hp→List Addr→Res α→Prop}{Q:VK}
  (r:SR C Z loc s sv H) (h:PO Z loc ((ev f s).bind k)) (ext:∀ Z' loc' t,Ext Z loc Z' loc'→PO Z loc t→PO Z' loc' t)
  (hx:∀ x s',PO Z loc (.exc x s')→∀ Z' loc' H' c d,Ext Z loc Z' loc'→SR C Z' loc' s' sv H'→lq C Z' H' x c d→C.W c d sv H') (hs:¬ PO Z loc .stuck)
  (hq:∀ v H',(∃ Z' loc' s' rv,Ext Z loc Z' loc'∧SR C Z' loc' s' sv H'∧t5 rv∧bH C Z' loc' s' sv H' rv v∧PO Z' loc' (k rv s'))→Q v H'):ai C f sv H Q:=by
 refine⟨Z,loc,s,r,?_⟩
 unfold ev at h
 cases e:f s with
 | stuck=>rw[e]at h;exact(hs h).elim
 | exc x s'=>rw[e]at h;exact hx x s' h
 | ok rv s'=>
  rw[e]at h
  intro Z1 l1 H1 v g r1 q
  simp only[Res.ae]at h
  cases e2:settle rv s' with
  | stuck=>rw[e2]at h;exact(hs h).elim
  | exc x s2=>exact absurd e2 xE
  | ok rv' s2=>
   rw[e2]at h
   obtain⟨rfl,st,Z2,g2,r2,q2⟩:=r1.settle q e2
   exact hq v H1 ⟨Z2,l1,s2,rv',g.trans g2,r2,st,q2,ext _ _ _ (g.trans g2) h⟩
theorem ai.iZ{f:State→Res RV}{k:RV→State→Res RV}{Q:VK}(r:SR C Z loc s sv H)(h:EPost C Z loc sv ((ev f s).bind k) Q):
  ai C f sv H (fun v H'=>∃ Z' loc' s' rv,Ext Z loc Z' loc'∧SR C Z' loc' s' sv H'∧t5 rv∧bH C Z' loc' s' sv H' rv v∧EPost C Z' loc' sv (k rv s') Q):=
 ai.A0 (PO:=fun Z loc t=>EPost C Z loc sv t Q) r h (fun _ _ _ g q=>q.ext g) (fun _ _ q=>q) (fun q=>q) fun _ _ q=>q
theorem ai.Oe{f:State→Res RV}{k:RV→State→Res (List RV)}{Q:List V→Hp→Prop}(r:SR C Z loc s sv H)(h:oO C Z loc sv ((ev f s).bind k) Q):
  ai C f sv H (fun v H'=>∃ Z' loc' s' rv,Ext Z loc Z' loc'∧SR C Z' loc' s' sv H'∧t5 rv∧bH C Z' loc' s' sv H' rv v∧oO C Z' loc' sv (k rv s') Q):=
 ai.A0 (PO:=fun Z loc t=>oO C Z loc sv t Q) r h (fun _ _ _ g q=>q.ext g) (fun _ _ q=>q) (fun q=>q) fun _ _ q=>q
theorem ai.OG{f:State→Res RV}{k:RV→State→Res Bool}{Q:Bool→Hp→Prop}(r:SR C Z loc s sv H)(h:fN C Z loc sv ((ev f s).bind k) Q):
  ai C f sv H (fun v H'=>∃ Z' loc' s' rv,Ext Z loc Z' loc'∧SR C Z' loc' s' sv H'∧t5 rv∧bH C Z' loc' s' sv H' rv v∧fN C Z' loc' sv (k rv s') Q):=
 ai.A0 (PO:=fun Z loc t=>fN C Z loc sv t Q) r h (fun _ _ _ g q=>q.ext g) (fun _ _ q=>q) (fun q=>q) fun _ _ q=>q
theorem ai.wX{f:State→Res RV}{k:RV→State→Res Fl}{D:Ends}(r:SR C Z loc s sv H)(h:a0 C Z loc ((ev f s).bind k) D):
  ai C f sv H (fun v H'=>∃ Z' loc' s' rv,Ext Z loc Z' loc'∧SR C Z' loc' s' sv H'∧t5 rv∧bH C Z' loc' s' sv H' rv v∧a0 C Z' loc' (k rv s') D):=
 ai.A0 (PO:=fun Z loc t=>a0 C Z loc t D) r h (fun _ _ _ g q=>q.ext g) (fun _ _ q Z' loc' H' c d=>q Z' loc' sv H' c d) (fun q=>q) fun _ _ q=>q
variable{X:Cx}{e a b c:Expr}{es:List Expr}{pos:Pos}{f fa fb fc:State→Res RV}{ft:State→Res Bool}
theorem v_var{i:Nat}{x:Str}(hN:X.N[i]? =some x)(hv:Vis X.env.scope x)(hd:(x==("__debug__":Str))=false)(hcd:(x==("__classdict__":Str))=false):PE X (.Name x pos) (ai C (aa i)):=by
 refine aV (pe_var hN hv hd hcd) fun sv H Q ⟨Z,loc,s,r,h⟩=>?_
 unfold aa at h
 split at h
 ·rename_i y e
  obtain⟨v,h1,h2⟩:=r.vl i y e
  exact⟨v,h1,h.val r h2⟩
 ·rename_i o e
  obtain⟨a,h1,_⟩:=r.ow i o e
  exact⟨_,h1,h Z loc H _ (Ext.refl _ _) r h1⟩
 ·exact h.elim
theorem rG{d:D}{v:V}(he:PE X e (tC v))(hd:∀ Z,aN C.cA Z d v):PE X e (ai C (fD d)):=
 aV he fun sv H Q ⟨Z,loc,s,r,h⟩=>EPost.aF h r (hd Z)
theorem uC{r:R2}{g:RV→RV→State→Res RV}(hs:t7 C g r){Q:VK}(h:ai C (aw fa fb g) sv H Q):tOp r (ai C fa) (ai C fb) sv H Q:=by
 obtain⟨Z,loc,s,r0,h⟩:=h
 refine(ai.iZ r0 h).imp fun u H1 ⟨Z1,l1,s1,x,g1,r1,st1,q1,h1⟩=>?_
 refine(ai.iZ r1 h1).imp fun v H2 ⟨Z2,l2,s2,y,g2,r2,st2,q2,h2⟩=>?_
 exact hs Z2 l2 s2 sv H2 x y u v Q r2 (q1.mono g2 st1) q2 h2
theorem rN(op:Bop)(ha:PE X a (ai C fa))(hb:PE X b (ai C fb)):PE X (.BinOp a op.py b pos) (ai C (aw fa fb (binop op))):=by
 obtain⟨r,ho,hs⟩:=Jv (C:=C) (X:=X) op
 exact aV (pe_op ho ha hb) fun sv H Q h=>uC hs h
theorem Ca{op:Cop}{r:R2}(hs:KA C (gT op) r):t7 C (aS op) r:=by
 intro Z loc s sv H x y u v Q r0 hx hy h
 unfold aS at h
 split at h
 ·rename_i b e
  exact hs Z loc s sv H x y u v b Q r0 hx hy e (h.aF r0 rfl)
 ·exact h.elim
theorem GZ(hu:X.A.units+64<cLine)(op:Cop)(ha:PE X a (ai C fa))(hb:PE X b (ai C fb))(hm:cb b=true):PE X (.Compare a [op.py] [b] pos) (ai C (aw fa fb (aS op))):=by
 obtain⟨r,ho,hs⟩:=uH (C:=C) hu op
 exact aV (pe_cmpR ho ha hb (oK hm)) fun sv H Q h=>uC (Ca hs) h
theorem toB{f:State→Res RV}{Q:Bool→Hp→Prop}(h:dV C (b9 f) sv H Q):ai C f sv H (fun x H'=>∃ k,x=.bl k∧Q k H'):=by
 obtain⟨Z,loc,s,r0,h⟩:=h
 refine(ai.OG r0 h).imp fun u H1 ⟨Z1,l1,s1,x,g1,r1,st1,q1,h1⟩=>?_
 unfold xA at h1
 split at h1
 ·rename_i b e
  exact⟨b,r1.dv q1 e,h1 Z1 l1 H1 (Ext.refl _ _) r1⟩
 ·exact h1.elim
theorem x9(h:PE X e (ai C f))(he:xg e=true):PT X e (dV C (b9 f)):=
 rB (pt_val h (L4 he)) fun sv H Q q=>toB q
theorem n0(hu:X.A.units+64<cLine)(op:Cop)(ha:PE X a (ai C fa))(hb:PE X b (ai C fb))(hm:cb b=true):PT X (.Compare a [op.py] [b] pos) (dV C (b9 (aw fa fb (aS op)))):=by
 obtain⟨r,ho,hs⟩:=uH (C:=C) hu op
 exact rB (pt_cmpR ho ha hb (oK hm)) fun sv H Q q=>uC (Ca hs) (toB q)
def Et(fa fb fc:State→Res RV)(g g':RV→RV→State→Res RV)(s:State):Res RV:=
 (ev fa s).bind fun x s=>(ev fb s).bind fun y s=>(g x y s).bind fun z s=>(xA z s).bind fun k s=>if k=true then(ev fc s).bind fun w s=>g' y w s else aF (.bl false) s
def Hq(C:Cst)(f:RV→RV→State→Res RV):Prop:=∀ x y s,(∃ b,f x y s=aF (.bl b) s)∨f x y s=.stuck
theorem OA{op:Cop}:Hq C (aS op):=by
 intro x y s
 unfold aS
 split
 ·exact .inl ⟨_,rfl⟩
 ·exact .inr rfl
theorem Nf{r r':R2}{g g':RV→RV→State→Res RV}(hs:t7 C g r)(hs':t7 C g' r')(hb:Hq C g){Q:VK}(h:ai C (Et fa fb fc g g') sv H Q):tChain r r' (ai C fa) (ai C fb) (ai C fc) sv H Q:=by
 obtain⟨Z,loc,s,r0,h⟩:=h
 refine(ai.iZ r0 h).imp fun u H1 ⟨Z1,l1,s1,x,g1,r1,st1,q1,h1⟩=>?_
 refine(ai.iZ r1 h1).imp fun v H2 ⟨Z2,l2,s2,y,g2,r2,st2,q2,h2⟩=>?_
 have q1':=q1.mono (s':=s2) (H':=H2) g2 st1
 rcases hb x y s2 with⟨k,e⟩ | e
 ·rw[e]at h2
  refine hs Z2 l2 s2 sv H2 x y u v _ r2 q1' q2 ?_
  rw[e]
  intro Z3 l3 H3 z g3 r3 q3
  refine⟨k,q3,?_⟩
  simp only[aF,Res.ae,xA,dv,fj]at h2
  cases k with
  | true=>
   rw[if_pos rfl]at h2 ⊢
   refine(ai.iZ r3 (h2.ext g3)).imp fun w H4 ⟨Z4,l4,s4,z',g4,r4,st4,q4,h4⟩=>?_
   exact hs' Z4 l4 s4 sv H4 y z' v w Q r4 (q2.mono (g3.trans g4) st2) q4 h4
  | false=>
   rw[if_neg Bool.false_ne_true]at h2 ⊢
   exact EPost.aF (h2.ext g3) r3 rfl
 ·rw[e]at h2
  exact h2.elim
theorem Jm{op op':Cop}(hm:cb c=true):lastMarks [op.py,op'.py] [b,c]=false:=oK hm
theorem HW(hu:X.A.units+64<cLine)(op op':Cop)(ha:PE X a (ai C fa))(hb:PE X b (ai C fb))(hc:PE X c (ai C fc))(hm:cb c=true):PE X (.Compare a [op.py,op'.py] [b,c] pos) (ai C (Et fa fb fc (aS op) (aS op'))):=by
 obtain⟨r,ho,hs⟩:=uH (C:=C) hu op
 obtain⟨r',ho',hs'⟩:=uH (C:=C) hu op'
 exact aV (pe_chain ho ho' ha hb hc (Jm hm)) fun sv H Q h=>Nf (Ca hs) (Ca hs') (OA (C:=C)) h
theorem Dq(h:PT X e (dV C ft)):PW X (.BoolOp .And [e] pos) (dV C (jd [ft])):=pw_and1 h
theorem yh(h:PT X e (dV C ft)):PW X (.BoolOp .Or [e] pos) (dV C (kT [ft])):=pw_or1 h
theorem v_and{ft2:State→Res Bool}{fr:List (State→Res Bool)}(h:PT X e (dV C ft))(h2:PW X (.BoolOp .And (a::es) pos) (dV C (jd (ft2::fr)))):PW X (.BoolOp .And (e::a::es) pos) (dV C (jd (ft::ft2::fr))):=by
 refine⟨fun wh pins t sv H Q I q=>(pw_and h h2).run wh pins t sv H Q I ?_⟩
 obtain⟨Z,loc,s,r0,q⟩:=q
 refine⟨Z,loc,s,r0,?_⟩
 show fN C Z loc sv (ft s) _
 have q:fN C Z loc sv ((ft s).bind fun b s=>if b=true then jd (ft2::fr) s else .ok false s) Q:=q
 cases e:ft s with
 | stuck=>rw[e]at q;exact q
 | exc x s'=>rw[e]at q;exact q
 | ok b s'=>
  rw[e]at q
  intro Z1 l1 H1 g1 r1
  cases b with
  | true=>exact⟨Z1,l1,s',r1,fN.ext q g1⟩
  | false=>exact fN.ext (show fN C Z loc sv (.ok false s') Q from q) g1 Z1 l1 H1 (Ext.refl _ _) r1
theorem v_or{ft2:State→Res Bool}{fr:List (State→Res Bool)}(h:PT X e (dV C ft))(h2:PW X (.BoolOp .Or (a::es) pos) (dV C (kT (ft2::fr)))):PW X (.BoolOp .Or (e::a::es) pos) (dV C (kT (ft::ft2::fr))):=by
 refine⟨fun wh pins t sv H Q I q=>(pw_or h h2).run wh pins t sv H Q I ?_⟩
 obtain⟨Z,loc,s,r0,q⟩:=q
 refine⟨Z,loc,s,r0,?_⟩
 show fN C Z loc sv (ft s) _
 have q:fN C Z loc sv ((ft s).bind fun b s=>if b=true then .ok true s else kT (ft2::fr) s) Q:=q
 cases e:ft s with
 | stuck=>rw[e]at q;exact q
 | exc x s'=>rw[e]at q;exact q
 | ok b s'=>
  rw[e]at q
  intro Z1 l1 H1 g1 r1
  cases b with
  | false=>exact⟨Z1,l1,s',r1,fN.ext q g1⟩
  | true=>exact fN.ext (show fN C Z loc sv (.ok true s') Q from q) g1 Z1 l1 H1 (Ext.refl _ _) r1
theorem v_not(h:PT X e (dV C ft)):PT X (.UnaryOp .Not e pos) (dV C (rg ft)):=by
 refine rB (pt_not h) fun sv H Q q=>?_
 obtain⟨Z,loc,s,r0,q⟩:=q
 unfold rg at q
 refine⟨Z,loc,s,r0,?_⟩
 cases e:ft s with
 | stuck=>rw[e]at q;exact q
 | exc x s'=>rw[e]at q;exact q
 | ok b s'=>rw[e]at q;exact q
end
end Vw
namespace Vw
open PySem L2 PyProof.Rows
def Qt(t:State→Res Bool)(a b:State→Res RV)(s:State):Res RV:=(t s).bind fun k s=>if k=true then a s else b s
def eQ(x y:RV)(s:State):Res RV:=
 match d4 s x y with
 | some (some v)=>.ok (.val v) s
 | some none=>.stuck
 | none=>match dv s x,dv s y with
  | some (.str t),some (.int i)=>if t.length≤sizeLine then match atI t i with
   | some c=>aF (.str [c]) s
   | none=>.stuck else .stuck
  | _,some (.int i)=>match lv s x,tv s x with
   | some l,_=>match atI l i with
    | some v=>.ok (.val v) s
    | none=>.stuck
   | none,some l=>match atI l i with
    | some v=>.ok (.val v) s
    | none=>.stuck
   | none,none=>.stuck
  | _,_=>.stuck
inductive Par where
 | no
 | ex (f:State→Res RV)
def BK(r:RV)(s:State):Res (Option Int):=
 match dv s r with
 | some (.int i)=>.ok (some i) s
 | _=>.stuck
def mZ:Par→State→Res (Option Int)
 | .no,s=>.ok none s
 | .ex f,s=>(ev f s).bind BK
def dF{α:Type}(l:List α)(lo hi:Option Int):List α:=(l.drop (HT.sIx l.length 0 lo)).take (HT.sIx l.length l.length hi-HT.sIx l.length 0 lo)
def Br(x:RV)(lo hi:Option Int)(s:State):Res RV:=
 match dv s x with
 | some (.str t)=>if t.length≤sizeLine then aF (.str (dF t lo hi)) s else .stuck
 | _=>match lv s x with
  | some l=>.ok (.new (.lst (dF l lo hi))) s
  | none=>match tv s x with
   | some l=>if(dF l lo hi).length=l.length then .stuck else .ok (.val (lL (dF l lo hi))) s
   | none=>.stuck
def yq(f:State→Res RV)(lo hi:Par)(s:State):Res RV:=
 (ev f s).bind fun x s=>(mZ lo s).bind fun l s=>(mZ hi s).bind fun h s=>Br x l h s
section
variable{C:Cst}{Z Z':Hp}{loc loc':List Addr}{s s':State}{sv:L2.St}{H:Hp}
variable{X:Cx}{e a b c:Expr}{es:List Expr}{pos:Pos}{f fa fb fc:State→Res RV}{ft:State→Res Bool}
theorem By(h:PE X e (ai C f)):PE X (.BoolOp .And [e] pos) (ai C (ie [f])):=aV (pe_one h) fun sv H Q ⟨Z,loc,s,r,q⟩=>by
 have q:EPost C Z loc sv ((ev f s).bind fun x s=>.ok x s) Q:=by
  have e1:((ev f s).bind fun x s=>.ok x s)=ie [f] s:=by
   show _=ev f s
   cases ev f s<;> rfl
  rw[e1];exact q
 exact(ai.iZ r q).imp fun v H1 ⟨Z1,l1,s1,x,g1,r1,st1,q1,h1⟩=>h1 Z1 l1 H1 v (Ext.refl _ _) r1 q1
theorem ai.OK{f:State→Res RV}{k:Bool→State→Res RV}{Q:VK}(r:SR C Z loc s sv H)(h:EPost C Z loc sv ((b9 f s).bind k) Q):
  ai C f sv H (fun x H'=>∃ c,x=.bl c∧∃ Z' loc' s',Ext Z loc Z' loc'∧SR C Z' loc' s' sv H'∧EPost C Z' loc' sv (k c s') Q):=by
 unfold b9 at h
 rw[Res.bind_assoc]at h
 refine(ai.iZ r h).imp fun v H1 ⟨Z1,l1,s1,x,g1,r1,st1,q1,h1⟩=>?_
 unfold xA at h1
 split at h1
 ·rename_i b e
  exact⟨b,r1.dv q1 e,Z1,l1,s1,g1,r1,h1⟩
 ·exact h1.elim
theorem Ep{f2:State→Res RV}{fr:List (State→Res RV)}(h:PE X e (ai C f))(h2:PE X (.BoolOp .And (a::es) pos) (ai C (ie (f2::fr)))):PE X (.BoolOp .And (e::a::es) pos) (ai C (ie (f::f2::fr))):=by
 refine aV (pe_and h h2) fun sv H Q ⟨Z,loc,s,r,q⟩=>?_
 have q:EPost C Z loc sv ((b9 f s).bind fun b s=>if b=true then ie (f2::fr) s else aF (.bl false) s) Q:=q
 refine(ai.OK r q).imp fun v H1 ⟨c,e1,Z1,l1,s1,g1,r1,h1⟩=>⟨c,e1,?_⟩
 cases c with
 | true=>exact⟨Z1,l1,s1,r1,h1⟩
 | false=>exact EPost.aF h1 r1 rfl
theorem M6(h:PE X e (ai C f)):PE X (.UnaryOp .USub e pos) (ai C (fun s=>(ev f s).bind Ax)):=by
 refine aV (pe_un un_neg h) fun sv H Q ⟨Z,loc,s,r,q⟩=>?_
 refine(ai.iZ r q).imp fun v H1 ⟨Z1,l1,s1,x,g1,r1,st1,q1,h1⟩=>?_
 unfold Ax at h1
 split at h1
 ·rename_i i e
  exact⟨i,r1.dv q1 e,h1.aF r1 rfl⟩
 ·exact h1.elim
theorem i3.mono(h:Ext Z loc Z' loc'){H':Hp}:∀ {rs:List RV} {vs:List V},i3 C Z loc s sv H rs vs→i3 C Z' loc' s' sv H' rs vs
 | [],vs,q=>q
 | x::rs,vs,⟨v,r,e,st,q,t⟩=>⟨v,r,e,st,q.mono h st,i3.mono h t⟩
theorem av:PA X [] (cZ C (aq [])):=Bm pa_nil fun sv H Q ⟨Z,loc,s,r,q⟩=>q Z loc H [] (Ext.refl _ _) r rfl
theorem JY{fr:List (State→Res RV)}(h:PE X e (ai C f))(hr:PA X es (cZ C (aq fr)))(hs:notStar e=true):PA X (e::es) (cZ C (aq (f::fr))):=by
 refine Bm (pa_cons h hr (bt hs)) fun sv H Q ⟨Z,loc,s,r,q⟩=>?_
 refine(ai.Oe r q).imp fun v H1 ⟨Z1,l1,s1,x,g1,r1,st1,q1,h1⟩=>?_
 refine⟨Z1,l1,s1,r1,?_⟩
 cases e1:aq fr s1 with
 | stuck=>rw[e1]at h1;exact h1
 | exc y s2=>rw[e1]at h1;exact h1
 | ok xs s2=>
  rw[e1]at h1
  intro Z2 l2 H2 vs g2 r2 q2
  exact h1 Z2 l2 H2 (v::vs) g2 r2 ⟨v,vs,rfl,st1,q1.mono g2 st1,q2⟩
theorem SR.aI(r:SR C Z loc s sv H):∀ {rs:List RV} {vs:List V} {l:List Val},i3 C Z loc s sv H rs vs→aI rs s=.ok l s'→∃ Z',Ext Z loc Z' loc∧SR C Z' loc s' sv H∧aE C.cA Z' loc l vs:=by
 intro rs
 induction rs generalizing Z s with
 | nil=>intro vs l h e;cases e;exact⟨Z,Ext.refl _ _,r,h⟩
 | cons x rs ih=>
  intro vs l h e
  obtain⟨v,t,rfl,st,q,h⟩:=h
  unfold Vw.aI at e
  cases e1:Vw.bL x s with
  | stuck=>rw[e1]at e;cases e
  | exc y s2=>exact absurd e1 zT
  | ok y s1=>
   rw[e1]at e
   simp only[Res.ae]at e
   obtain⟨Z1,g1,r1,q1⟩:=r.bL q e1
   cases e2:Vw.aI rs s1 with
   | stuck=>rw[e2]at e;cases e
   | exc y s2=>rw[e2]at e;cases e
   | ok ys s2=>
    rw[e2]at e
    cases e
    obtain⟨Z2,g2,r2,q2⟩:=ih r1 (h.mono g1) e2
    exact⟨Z2,g1.trans g2,r2,v,t,rfl,q1.mono g2,q2⟩
theorem fV:∀ {rs:List RV} {s s1:State} {x:Exn},aI rs s≠ .exc x s1
 | [],s,s1,x=>by simp[aI]
 | r::rs,s,s1,x=>by
  unfold aI
  cases e:bL r s with
  | stuck=>simp
  | exc y s2=>exact absurd e zT
  | ok y s1=>
   simp only[Res.ae]
   cases e2:aI rs s1 with
   | stuck=>simp
   | exc y s2=>exact absurd e2 fV
   | ok ys s2=>simp
theorem DN{l:List Val}{vs:List V}{p:Addr}(h:aE C.cA Z loc l vs)(hp:Z p=some (.tup vs)):bo C.cA Z loc (lL l) (.ref p):=by
 unfold lL
 split
 ·rename_i ds e
  rw[toDs_inv e]at h
  exact⟨p,vs,rfl,hp,eK.mp h⟩
 ·exact⟨p,vs,rfl,hp,h⟩
theorem EPost.tup{l:List Val}{vs:List V}{p:Addr}{Q:VK}(h:EPost C Z loc sv (.ok (.val (lL l)) s) Q)(r:SR C Z loc s sv H)(q:aE C.cA Z loc l vs)(np:H p=none):Q (.ref p) (upd H p (.tup vs)):=by
 have r1:=(r.grow (bC np)).uS (o:=.tup vs) upd_same (r.free np)
 have g:Ext Z loc (upd Z p (.tup vs)) loc:=Ext.z (bC (r.free np).z)
 exact h _ loc _ _ g r1 (DN (aE.mono g l q) upd_same)
theorem MX{k:Nat}{fs:List (State→Res RV)}(h:PA X es (cZ C (aq fs))):PE X (.Tuple es k pos) (ai C (fun s=>(aq fs s).bind qW)):=by
 refine aV (pe_tup h) fun sv H Q ⟨Z,loc,s,r,q⟩=>?_
 refine(cZ.oV r q).imp fun vs H1 ⟨Z1,l1,s1,rs,g1,r1,q1,h1⟩=>?_
 unfold qW at h1
 cases e:aI rs s1 with
 | stuck=>rw[e]at h1;exact h1.elim
 | exc y s2=>exact absurd e fV
 | ok l s2=>
  rw[e]at h1
  simp only[Res.ae]at h1
  obtain⟨Z2,g2,r2,q2⟩:=r1.aI q1 e
  split at h1
  ·rename_i hl
   exact⟨by rw[←bD q2];exact hl,fun p np=>(h1.ext g2).tup r2 q2 np⟩
  ·exact h1.elim
theorem MC{fs:List (State→Res RV)}(h:PA X es (cZ C (aq fs))):PE X (.List es pos) (ai C (fun s=>(aq fs s).bind Ai)):=by
 refine aV (pe_lst h) fun sv H Q ⟨Z,loc,s,r,q⟩=>?_
 refine(cZ.oV r q).imp fun vs H1 ⟨Z1,l1,s1,rs,g1,r1,q1,h1⟩=>?_
 unfold Ai at h1
 cases e:aI rs s1 with
 | stuck=>rw[e]at h1;exact h1.elim
 | exc y s2=>exact absurd e fV
 | ok l s2=>
  rw[e]at h1
  simp only[Res.ae]at h1
  obtain⟨Z2,g2,r2,q2⟩:=r1.aI q1 e
  split at h1
  ·rename_i hl
   exact⟨by rw[←bD q2];exact hl,fun p np=>(h1.ext g2).new r2 np (by simp) ⟨_,upd_same,q2⟩⟩
  ·exact h1.elim
theorem fO:∀ {l:List Val} {xs:List V} {i:Nat} {x:Val},aE C.cA Z loc l xs→l[i]? =some x→∃ v,xs[i]? =some v∧bo C.cA Z loc x v
 | [],xs,i,x,h,e=>by simp at e
 | y::l,xs,0,x,⟨v,r,e1,q,t⟩,e=>by
  rw[e1]
  simp at e
  exact⟨v,rfl,e▸q⟩
 | y::l,xs,i+1,x,⟨v,r,e1,q,t⟩,e=>by
  rw[e1]
  exact fO (i:=i) t (by simpa using e)
theorem yv{l:List Val}{xs:List V}{i:Int}{x:Val}(h:aE C.cA Z loc l xs)(e:atI l i=some x):∃ v,atI xs i=some v∧bo C.cA Z loc x v:=by
 unfold atI at e ⊢
 rw[←bD h]
 cases e1:ixN l.length i with
 | none=>rw[e1]at e;cases e
 | some j=>
  rw[e1]at e
  exact fO h e
def Oz(K:PySem.W.Frag):R2:=fun x y H Q=>rIxD x y H Q∨rIx K x y H Q
theorem J1:t7 C eQ (Oz X.K):=by
 intro Z loc s sv H x y u v Q r hx hy h
 unfold eQ at h
 split at h
 ·rename_i w e
  obtain⟨a,o,h1,h2,h3⟩:=r.d4 hx hy e
  cases o with
  | none=>exact h3.elim
  | some z=>exact .inl ⟨a,z,h1,h2,h.val r h3⟩
 ·exact h.elim
 ·split at h
  ·rename_i t i e1 e2
   split at h
   ·rename_i hl
    split at h
    ·rename_i c e3
     exact .inr (.inr (.inr ⟨⟨t.toArray⟩,i,c,r.dv hx e1,r.dv hy e2,by simpa [Str.length]using hl,by simpa using e3,h.aF r rfl⟩))
    ·exact h.elim
   ·exact h.elim
  ·rename_i i e2 _
   split at h
   ·rename_i l e3
    split at h
    ·rename_i w e4
     obtain⟨a,xs,h1,h2,h3⟩:=r.lv hx e3
     obtain⟨z,h4,h5⟩:=yv h3 e4
     exact .inr (.inl ⟨a,xs,i,z,h1,r.dv hy e2,.inl h2,h4,h.val r h5⟩)
    ·exact h.elim
   ·rename_i l e3
    split at h
    ·rename_i w e4
     obtain⟨a,xs,h1,h2,h3⟩:=r.tv hx e3
     obtain⟨z,h4,h5⟩:=yv h3 e4
     exact .inr (.inr (.inl ⟨a,xs,i,z,h1,r.dv hy e2,.inl (.inl h2),h4,h.val r h5⟩))
    ·exact h.elim
   ·exact h.elim
  ·exact h.elim
theorem OQ(hu:X.A.units+64<cLine)(ha:PE X a (ai C fa))(hb:PE X b (ai C fb))(hs:mH b=true):PE X (.Subscript a b pos) (ai C (aw fa fb eQ)):=
 aV (pe_ix ((MS hu).or ix_seq) ha hb (CI hs)) fun sv H Q h=>uC J1 h
def BW(C:Cst)(p:Par):TO:=fun sv H Q=>∃ Z loc s,SR C Z loc s sv H∧match mZ p s with
 | .ok o s'=>∀ Z' loc' H',Ext Z loc Z' loc'→SR C Z' loc' s' sv H'→Q o H'
 | .exc x s'=>∀ Z' loc' H' c d,Ext Z loc Z' loc'→SR C Z' loc' s' sv H'→lq C Z' H' x c d→C.W c d sv H'
 | .stuck=>False
theorem rF(h:PE X e (ai C f)):PO X (some e) (BW C (.ex f)):=by
 refine⟨fun pins t sv H Q I ⟨Z,loc,s,r,q⟩=>(po_some h).run pins t sv H Q I ?_⟩
 unfold mZ at q
 dsimp only at q
 refine ai.A0 (f:=f) (PO:=fun Z loc (t:Res (Option Int))=>match t with
  | .ok o s'=>∀ Z' loc' H',Ext Z loc Z' loc'→SR C Z' loc' s' sv H'→Q o H'
  | .exc x s'=>∀ Z' loc' H' c d,Ext Z loc Z' loc'→SR C Z' loc' s' sv H'→lq C Z' H' x c d→C.W c d sv H'
  | .stuck=>False) r q (fun Z1 l1 t g q=>?_) (fun _ _ q=>q) (fun q=>q) fun v H1 ⟨Z1,l1,s1,x,g1,r1,st1,q1,h1⟩=>?_
 ·cases t with
  | ok o s'=>exact fun Z2 l2 H2 g2=>q Z2 l2 H2 (g.trans g2)
  | exc x s'=>exact fun Z2 l2 H2 c d g2=>q Z2 l2 H2 c d (g.trans g2)
  | stuck=>exact q
 ·have key:(∃ i,dv s1 x=some (.int i)∧BK x s1=.ok (some i) s1)∨BK x s1=.stuck:=by
   unfold BK
   split
   ·rename_i i e
    exact .inl ⟨i,e,rfl⟩
   ·exact .inr rfl
  rcases key with⟨i,e1,e2⟩ | e2
  ·rw[e2]at h1
   exact⟨i,r1.dv q1 e1,h1 Z1 l1 H1 (Ext.refl _ _) r1⟩
  ·rw[e2]at h1
   exact h1.elim
theorem tY:∀ {l:List Val} {xs:List V} (n:Nat),aE C.cA Z loc l xs→aE C.cA Z loc (l.drop n) (xs.drop n)
 | l,xs,0,h=>h
 | [],xs,n+1,h=>by rw[show xs=_ from h];exact rfl
 | x::l,xs,n+1,⟨v,r,e,q,t⟩=>by rw[e];exact tY n t
theorem uB:∀ {l:List Val} {xs:List V} (n:Nat),aE C.cA Z loc l xs→aE C.cA Z loc (l.take n) (xs.take n)
 | l,xs,0,h=>rfl
 | [],xs,n+1,h=>by rw[show xs=_ from h];exact rfl
 | x::l,xs,n+1,⟨v,r,e,q,t⟩=>by rw[e];exact⟨v,r.take n,rfl,q,uB n t⟩
theorem wW{l:List Val}{xs:List V}{lo hi:Option Int}(h:aE C.cA Z loc l xs):aE C.cA Z loc (dF l lo hi) (cutV xs lo hi):=by
 unfold dF cutV
 rw[←bD h]
 exact uB _ (tY _ h)
theorem Fo{lo hi:Option Expr}{pl ph:Par}{p2:Pos}(he:PE X e (ai C f))(hl:PO X lo (BW C pl))(hh:PO X hi (BW C ph)):PE X (.Subscript e (.Slice lo hi none p2) pos) (ai C (yq f pl ph)):=by
 refine aV (pe_slice (sl_str.or (sl_list.or sl_tup)) he hl hh) fun sv H Q ⟨Z,loc,s,r,q⟩=>?_
 refine(ai.iZ r q).imp fun v H1 ⟨Z1,l1,s1,x,g1,r1,st1,q1,h1⟩=>?_
 have part:∀ {p:Par} {k:Option Int→State→Res RV} {Z1:Hp} {l1:List Addr} {s1:State} {H1:Hp},SR C Z1 l1 s1 sv H1→EPost C Z1 l1 sv ((mZ p s1).bind k) Q→
   BW C p sv H1 fun o H2=>∃ Z2 l2 s2,Ext Z1 l1 Z2 l2∧SR C Z2 l2 s2 sv H2∧EPost C Z2 l2 sv (k o s2) Q:=by
  intro p k Z1 l1 s1 H1 r1 h
  refine⟨Z1,l1,s1,r1,?_⟩
  cases e:mZ p s1 with
  | stuck=>rw[e]at h;exact h
  | exc y s2=>rw[e]at h;exact h
  | ok o s2=>rw[e]at h;exact fun Z2 l2 H2 g2 r2=>⟨Z2,l2,s2,g2,r2,EPost.ext h g2⟩
 have imp:∀ {p:Par} {H1:Hp} {Q1 Q2:Option Int→Hp→Prop},BW C p sv H1 Q1→(∀ o H,Q1 o H→Q2 o H)→BW C p sv H1 Q2:=by
  rintro p H1 Q1 Q2 ⟨Z,loc,s,r,h⟩ m
  refine⟨Z,loc,s,r,?_⟩
  cases e:mZ p s with
  | stuck=>rw[e]at h;exact h
  | exc y s2=>rw[e]at h;exact h
  | ok o s2=>rw[e]at h;exact fun Z2 l2 H2 g2 r2=>m _ _ (h Z2 l2 H2 g2 r2)
 refine imp (part r1 h1) fun o1 H2 ⟨Z2,l2,s2,g2,r2,h2⟩=>?_
 refine imp (part r2 h2) fun o2 H3 ⟨Z3,l3,s3,g3,r3,h3⟩=>?_
 have q3:=q1.mono (s':=s3) (H':=H3) (g2.trans g3) st1
 unfold Br at h3
 split at h3
 ·rename_i t e1
  split at h3
  ·rename_i hz
   refine .inl ⟨⟨t.toArray⟩,r3.dv q3 e1,by simpa [Str.length]using hz,h3.aF r3 ?_⟩
   show V.str _=V.str _
   simp[cutS,dF,Str.length]
  ·exact h3.elim
 ·split at h3
  ·rename_i l e1
   obtain⟨a,xs,h4,h5,h6⟩:=r3.lv q3 e1
   exact .inr (.inl ⟨a,xs,h4,.inl h5,fun p np=>h3.new r3 np (by simp) ⟨_,upd_same,wW h6⟩⟩)
  ·split at h3
   ·rename_i l e1
    obtain⟨a,xs,h4,h5,h6⟩:=r3.tv q3 e1
    split at h3
    ·exact h3.elim
    ·rename_i hne
     refine .inr (.inr ⟨a,xs,h4,.inl (.inl h5),fun z=>hne ?_,fun p np=>h3.tup r3 (wW h6) np⟩)
     rw[←bD h6]at z
     unfold dF
     rw[z.1,z.2]
     simp
   ·exact h3.elim
end
end Vw
namespace Vw
open PySem L2 PyProof.Rows
def nR(i:Nat):RV→State→Option State
 | .val x,s=>some { s with sg:=s.sg.set i (some (.v x)) }
 | .new o,s=>some { s with sg:=s.sg.set i (some (.own o)) }
 | .own j,s=>match jK j s with
  | .ok x s=>some { s with sg:=s.sg.set i (some (.v x)) }
  | _=>none
def wr(r:RV)(o:Ob)(s:State):State:=
 match fj s r with
 | .own i=> { s with sg:=s.sg.set i (some (.own o)) }
 | .val (.r n)=> { s with st:=s.st.set n o }
 | _=>s
inductive Tg where
 | nm (i:Nat)
 | tp (l:List Tg)
mutual
def dA:Tg→Val→State→Option State
 | .nm i,x,s=>some { s with sg:=s.sg.set i (some (.v x)) }
 | .tp ts,x,s=>match tv s (.val x)with
  | some l=>if l.length=ts.length then lN ts l s else none
  | none=>none
def lN:List Tg→List Val→State→Option State
 | [],[],s=>some s
 | t::ts,x::xs,s=>match dA t x s with
  | some s=>lN ts xs s
  | none=>none
 | _,_,_=>none
end
def qX(o:Option State):Res Fl:=
 match o with
 | some s=>.ok .nx s
 | none=>.stuck
def aR(i:Nat)(f:State→Res RV)(s:State):Res Fl:=(f s).bind fun r s=>qX (nR i r s)
def dw(f:State→Res RV)(s:State):Res Fl:=(f s).bind fun _ s=>.ok .nx s
def bV(f:State→Res RV)(s:State):Res Fl:=(f s).bind fun r s=>.ok (.ret r) s
def gI(t:State→Res Bool)(a b:State→Res Fl)(s:State):Res Fl:=(t s).bind fun k s=>if k=true then a s else b s
def ak:List (State→Res Fl)→State→Res Fl
 | [],s=>.ok .nx s
 | f::r,s=>match f s with
  | .ok .nx s=>ak r s
  | t=>t
def iT(t:Tg)(b:State→Res Fl):List Val→State→Res Fl
 | [],s=>.ok .nx s
 | x::r,s=>match dA t x s with
  | none=>.stuck
  | some s=>match b s with
   | .ok .nx s=>iT t b r s
   | .ok .cnt s=>iT t b r s
   | .ok .brk s=>.ok .nx s
   | r=>r
def ff(o i:RV)(x:Val)(s:State):Option State:=
 match ob s o,dv s i with
 | some (.lst l),some (.int k)=>match ixN l.length k with
  | some j=>some (wr o (.lst (l.set j x)) s)
  | none=>none
 | some (.dic false l),some d=>match tK d with
  | some k=>if l.length<sizeLine then some (wr o (.dic false (aO l k x)) s)else none
  | none=>none
 | some (.dit false l),some (.tup d)=>match yB d with
  | some k=>if l.length<sizeLine then some (wr o (.dit false (aO l k x)) s)else none
  | none=>none
 | _,_=>none
def fu(fo fi fv:State→Res RV)(s:State):Res Fl:=
 (ev fv s).bind fun v s=>(ev fo s).bind fun o s=>(ev fi s).bind fun i s=>match bL v s with
  | .ok x s=>qX (ff o i x s)
  | _=>.stuck
def AA:Bop→Option (Int→Int→Int)
 | .add=>some fun a b=>a+b
 | .sub=>some fun a b=>a-b
 | _=>none
def sl(s:State)(i:Nat):Option D:=
 match s.sg[i]? with
 | some (some (.v (.d x)))=>some x
 | _=>none
def pk(i:Nat)(op:Bop)(f:State→Res RV)(s:State):Res Fl:=
 match AA op,sl s i with
 | some g,some (.int a)=>(ev f s).bind fun y s=>match dv s y with
  | some (.int b)=>.ok .nx { s with sg:=s.sg.set i (some (.v (.d (.int (g a b))))) }
  | _=>.stuck
 | _,_=>.stuck
section
variable{C:Cst}{Z Z':Hp}{loc loc':List Addr}{s s':State}{sv sv':L2.St}{H H':Hp}
theorem SR.unset(r:SR C Z loc s sv H)(i:Nat)(v:Option V):SR C Z loc { s with sg:=s.sg.set i none } (sv.set i v) H:=by
 have r1:=r.drop i
 have key:∀ {j:Nat} {x:Sl},(s.sg.set i none)[j]? =some (some x)→(sv.set i v)[j]? =sv[j]? :=fun {j x} h=>by
  rcases ck h with⟨_,q⟩ | ⟨ne,q⟩
  ·cases q
  ·rw[List.getElem?_set_ne ne]
 refine⟨r1.fr,r1.zh,r1.zf,r1.lk,r1.ln,r1.nd,r1.lh,r1.cl,fun j x h=>?_,fun j o h=>?_,fun j k o o' a h1 h2 h3 h4=>?_,by simpa using r1.ls⟩
 ·rw[key h];exact r1.vl j x h
 ·rw[key h];exact r1.ow j o h
 ·rw[key h1]at h3;rw[key h2]at h4;exact r1.oi j k o o' a h1 h2 h3 h4
theorem SR.store(r:SR C Z loc s sv H){i:Nat}(hi:i<sv.length){x:Val}{v:V}(q:bo C.cA Z loc x v):SR C Z loc { s with sg:=s.sg.set i (some (.v x)) } (sv.set i (some v)) H:=by
 have:=(r.unset i (some v)).J9 (i:=i) (v:=v) (x:=x) (by simp[hi]) q
 simpa [tQ]using this
theorem SR.nR(r:SR C Z loc s sv H){i:Nat}(hi:i<sv.length){rv:RV}{v:V}(q:bH C Z loc s sv H rv v)(e:nR i rv s=some s'):∃ Z',Ext Z loc Z' loc∧SR C Z' loc s' (sv.set i (some v)) H:=by
 cases rv with
 | val x=>cases e;exact⟨Z,Ext.refl _ _,r.store hi q⟩
 | own j=>
  unfold Vw.nR at e
  dsimp only at e
  split at e
  ·rename_i x s1 e1
   cases e
   obtain⟨Z1,g,r1,q1⟩:=r.jK q e1
   exact⟨Z1,g,r1.store hi q1⟩
  ·cases e
 | new o=>
  cases e
  obtain⟨a,rfl,ne,h1,h2⟩:=q
  have r1:=r.unset i (some (.ref a))
  have f:Free C Z loc { s with sg:=s.sg.set i none } (sv.set i (some (.ref a))) a:=by
   refine⟨h2.z,h2.f,h2.l,fun j ob h=>?_⟩
   rcases ck h with⟨_,q⟩ | ⟨ne',q⟩
   ·cases q
   ·rw[List.getElem?_set_ne ne'];exact h2.o j ob q
  have:=r1.N3 (i:=i) (o:=o) (a:=a) (by simp[hi]) ne h1 f
  exact⟨Z,Ext.refl _ _,by simpa [tQ]using this⟩
theorem SR.write(r:SR C Z loc s sv H){rv:RV}{v:V}{o o':Ob}{a:Addr}{u:HO}(h:bH C Z loc s sv H rv v)(e:Vw.ob s rv=some o)(ea:v=.ref a)(ne:o'≠ .gone)(nf:∀ x w,H a≠some (.frz x w))
  (q:Cell C.cA Z loc (upd H a u) a o'):SR C Z loc (wr rv o' s) sv (upd H a u):=by
 have q0:=r.fj h
 have zz:Z a=none∧C.Fr a=none:=by
  unfold Vw.ob at e
  split at e
  ·rename_i i e1
   rw[e1]at q0
   split at e
   ·rename_i o1 e2
    obtain⟨b,h1,_,_,h4,h5,_⟩:=r.ow i _ e2
    rw[show sv[i]? =some (some v)from q0,ea]at h1
    cases h1
    exact⟨h4,h5⟩
   ·cases e
  ·rename_i n e1
   rw[e1]at q0
   obtain⟨b,h1,h2⟩:=q0
   rw[ea]at h2
   cases h2
   split at e
   ·cases e
   ·rename_i o1 ng e2
    exact⟨(r.cl n a _ h1 e2 ng).2,(r.lh a (List.mem_of_getElem? h1)).2⟩
   ·cases e
  ·cases e
 have cellAt:∀ {b:Addr} {ob:Ob},b≠a→Cell C.cA Z loc H b ob→Cell C.cA Z loc (upd H a u) b ob:=fun {b ob} hb x=>x.at (upd_ne hb)
 have fr:Same C.Fr (upd H a u):=fun b x hx=>by
  have hb:b≠a:=fun z=>by rw[z,zz.2]at hx;cases hx
  rw[upd_ne hb];exact r.fr b x hx
 have zh:∀ (b:Addr) (x:HO),Z b=some x→Rz (upd H a u) b x:=fun b x hx=>by
  have hb:b≠a:=fun z=>by rw[z,zz.1]at hx;cases hx
  unfold Rz
  rw[upd_ne hb];exact r.zh b x hx
 have lk:∀ (b:Addr) (x:Obj) (w:HO),C.H0 b=some (.frz x w)→upd H a u b=some (.frz x w):=fun b x w hx=>by
  have hb:b≠a:=fun z=>nf x w (z▸r.lk b x w hx)
  rw[upd_ne hb];exact r.lk b x w hx
 have lh:∀ b∈loc,upd H a u b≠none∧C.Fr b=none:=fun b hb=>by
  refine⟨?_,(r.lh b hb).2⟩
  by_cases hba:b=a
  ·rw[hba,upd_same];simp
  ·rw[upd_ne hba];exact(r.lh b hb).1
 unfold Vw.ob at e
 unfold wr
 split at e
 ·rename_i i e1
  rw[e1]at q0
  split at e
  ·rename_i o1 e2
   cases e
   have hi:sv[i]? =some (some (.ref a)):=by rw[←ea];exact q0
   obtain⟨b,h1,h2,h3,h4,h5,h6⟩:=r.ow i _ e2
   rw[hi]at h1
   cases h1
   try rw[e1]
   try dsimp only
   refine⟨fr,zh,r.zf,lk,r.ln,r.nd,lh,fun n b ob g1 g2 g3=>?_,fun j x g=>?_,fun j ob g=>?_,fun j k o1 o2 b g1 g2 g3 g4=>?_,by simpa using r.ls⟩
   ·have hb:b≠a:=fun z=>h6 (z▸List.mem_of_getElem? g1)
    exact⟨cellAt hb (r.cl n b ob g1 g2 g3).1,(r.cl n b ob g1 g2 g3).2⟩
   ·change (s.sg.set i _)[j]? =_ at g
    rcases ck g with⟨_,k⟩ | ⟨_,k⟩
    ·cases k
    ·exact r.vl j x k
   ·change (s.sg.set i _)[j]? =_ at g
    rcases ck g with⟨rfl,k⟩ | ⟨nj,k⟩
    ·cases k
     exact⟨a,hi,ne,q,h4,h5,h6⟩
    ·obtain⟨b,f1,f2,f3,f4⟩:=r.ow j ob k
     have hb:b≠a:=fun z=>nj (r.oi i j _ ob a e2 k hi (z▸f1))
     exact⟨b,f1,f2,cellAt hb f3,f4⟩
   ·have pick:∀ {j:Nat} {ob:Ob},(s.sg.set i (some (.own o')))[j]? =some (some (.own ob))→∃ ob',s.sg[j]? =some (some (.own ob')):=fun {j ob} g=>by
     rcases ck g with⟨rfl,_⟩ | ⟨_,k⟩
     ·exact⟨_,e2⟩
     ·exact⟨_,k⟩
    obtain⟨p1,k1⟩:=pick g1
    obtain⟨p2,k2⟩:=pick g2
    exact r.oi j k p1 p2 b k1 k2 g3 g4
  ·cases e
 ·rename_i n e1
  rw[e1]at q0
  obtain⟨b,h1,h2⟩:=q0
  rw[ea]at h2
  cases h2
  try rw[e1]
  try dsimp only
  have hn:n<s.st.length:=by rw[←r.ln];exact(List.getElem?_eq_some_iff.mp h1).1
  refine⟨fr,zh,r.zf,lk,by simpa using r.ln,r.nd,lh,fun m b ob g1 g2 g3=>?_,r.vl,fun j ob g=>?_,r.oi,r.ls⟩
  ·rcases ck g2 with⟨rfl,g⟩ | ⟨nm,g⟩
   ·cases g
    rw[h1]at g1
    cases g1
    exact⟨q,zz.1⟩
   ·have hb:b≠a:=fun z=>by
     subst z
     obtain⟨l1,e3⟩:=List.getElem?_eq_some_iff.mp h1
     obtain⟨l2,e4⟩:=List.getElem?_eq_some_iff.mp g1
     exact nm ((List.getElem_inj r.nd).mp (e3.trans e4.symm))
    exact⟨cellAt hb (r.cl m b ob g1 g g3).1,(r.cl m b ob g1 g g3).2⟩
  ·obtain⟨b,f1,f2,f3,f4,f5,f6⟩:=r.ow j ob g
   have hb:b≠a:=fun z=>f6 (z▸List.mem_of_getElem? h1)
   exact⟨b,f1,f2,cellAt hb f3,f4,f5,f6⟩
 ·cases e
mutual
def sJ:Tg→List Nat
 | .nm i=>[i]
 | .tp l=>y9 l
def y9:List Tg→List Nat
 | []=>[]
 | t::l=>sJ t++y9 l
end
def Off(l:List Nat)(a b:L2.St):Prop:=b.length=a.length∧∀ j,j∉l→b[j]? =a[j]?
def jI(C:Cst)(t:Tg):TG:=fun v sv H Q=>∃ Z loc s x,SR C Z loc s sv H∧bo C.cA Z loc x v∧match dA t x s with
 | some s'=>∀ sv',Off (sJ t) sv sv'→SR C Z loc s' sv' H→Q sv' H
 | none=>False
def Di(C:Cst)(ts:List Tg):TGs:=fun vs sv H Q=>∃ Z loc s xs,SR C Z loc s sv H∧aE C.cA Z loc xs vs∧match lN ts xs s with
 | some s'=>∀ sv',Off (y9 ts) sv sv'→SR C Z loc s' sv' H→Q sv' H
 | none=>False
variable{X:Cx}{e a b c:Expr}{es:List Expr}{pos:Pos}{f fa fb fc fo fi fv:State→Res RV}{ft:State→Res Bool}
theorem B0{t t':TG}{e:Expr}(h:PG X e t)(m:∀ v sv H Q,sv.length=X.N.length→t' v sv H Q→t v sv H Q):PG X e t':=⟨fun pins s sv H v u Q I r q=>h.run pins s sv H v u Q I r (m v sv H Q I.len q)⟩
theorem zG{t t':TGs}{e:List Expr}(h:PGs X e t)(m:∀ v sv H Q,sv.length=X.N.length→t' v sv H Q→t v sv H Q):PGs X e t':=⟨fun pins s sv H v u Q I r q=>h.run pins s sv H v u Q I r (m v sv H Q I.len q)⟩
theorem tE{st:Stmt}{t t':TS}(h:PS X st t)(m:∀ D sv H,sv.length=X.N.length→t' D sv H→t D sv H):PS X st t':=⟨fun pins s sv H D I q=>h.run pins s sv H D I (m D sv H I.len q)⟩
theorem MR{i:Nat}{x:Str}(hN:X.N.Nodup)(hi:X.N[i]? =some x)(hx:Loc X.env.scope x)(hf:X.fn x=true∨X.env.scope.names.lookup x=some .local):PG X (.Name x pos) (jI C (.nm i)):=by
 refine B0 (pg_name hN hi hx hf) fun v sv H Q hl ⟨Z,loc,s,y,r,q,h⟩=>?_
 have hi':i<sv.length:=by rw[hl];exact(List.getElem?_eq_some_iff.mp hi).1
 exact h _ ⟨List.length_set,fun j hj=>List.getElem?_set_ne (fun e=>hj (by simp[sJ,e]))⟩ (r.store hi' q)
theorem bz:PGs X [] (Di C []):=zG pgs_nil fun vs sv H Q hl ⟨Z,loc,s,xs,r,q,h⟩=>by
 cases xs with
 | nil=>exact⟨q,h sv ⟨rfl,fun _ _=>rfl⟩ r⟩
 | cons x xs=>exact h.elim
theorem Ah{e:Expr}{es:List Expr}{env:Env}(h:notStar e=true):assignEach (e::es) env=(false,assign e env)::assignEach es env:=by
 cases e<;> first | rfl | cases h
theorem ax{t:Tg}{ts:List Tg}(h1:PG X e (jI C t))(h2:PGs X es (Di C ts))(hs:notStar e=true):PGs X (e::es) (Di C (t::ts)):=by
 refine zG (pgs_cons h1 h2 (by rw[Ah hs];rfl)) fun vs sv H Q hl ⟨Z,loc,s,xs,r,q,h⟩=>?_
 cases xs with
 | nil=>exact h.elim
 | cons x xs=>
  obtain⟨v,t',rfl,q1,q2⟩:=q
  refine⟨v,t',rfl,Z,loc,s,x,r,q1,?_⟩
  unfold lN at h
  cases e1:dA t x s with
  | none=>rw[e1]at h;exact h
  | some s1=>
   rw[e1]at h
   refine fun sv' o' r'=>⟨Z,loc,s1,xs,r',q2,?_⟩
   dsimp only at h
   split at h
   ·rename_i s2 e2
    exact fun sv2 o2 r2=>h sv2 ⟨o2.1.trans o'.1,fun j hj=>(o2.2 j fun z=>hj (by simp[y9,z])).trans (o'.2 j fun z=>hj (by simp[y9,z]))⟩ r2
   ·exact h.elim
theorem BX:∀ {es:List Expr} {env:Env},(assignEach es env).length=es.length
 | [],_=>rfl
 | e::es,env=>by cases e<;> exact congrArg Nat.succ BX
theorem Bb:∀ {es:List Expr} {env:Env},es.all notStar=true→(assignEach es env).findIdx? (·.1)=none
 | [],_,_=>rfl
 | e::es,env,h=>by
  simp only[List.all_cons,Bool.and_eq_true]at h
  rw[Ah h.1,List.findIdx?_cons]
  simp[Bb h.2]
theorem bA{k:Nat}{ts:List Tg}(hc:X.calm=true)(h:PGs X es (Di C ts))(hs:es.all notStar=true)(hl:es.length=ts.length):PG X (.Tuple es k pos) (jI C (.tp ts)):=by
 refine B0 (pg_tup hc h (n:=ts.length) (BX.trans hl) (Bb hs)) fun v sv H Q hl ⟨Z,loc,s,y,r,q,h⟩=>?_
 unfold dA at h
 cases e1:tv s (.val y)with
 | none=>rw[e1]at h;exact h.elim
 | some l=>
  rw[e1]at h
  dsimp only at h
  obtain⟨a,xs,h1,h2,h3⟩:=r.tv (rv:=.val y) q e1
  by_cases hlen:l.length=ts.length
  ·rw[if_pos hlen]at h
   exact⟨a,xs,h1,.inl (.inl h2),by rw[←bD h3];exact hlen,Z,loc,s,l,r,h3,h⟩
  ·rw[if_neg hlen]at h;exact h.elim
theorem a0.nx{D:Ends}(h:a0 C Z loc (.ok .nx s) D)(r:SR C Z loc s sv H):D.nx sv H:=h Z loc sv H (Ext.refl _ _) r
theorem dC(h:PE X e (ai C f))(hc:jw e=true):PS X (.Expr e pos) (dh C (dw f)):=by
 refine jr (ps_expr h (vz hc)) fun D sv H ⟨Z,loc,s,r,q⟩=>?_
 exact(ai.rq r q).imp fun v H1 ⟨Z1,l1,s1,x,g1,r1,q1,h1⟩=>h1.nx r1
theorem cx(h:PE X e (ai C f)):PS X (.Return (some e) pos) (dh C (bV f)):=by
 refine jr (ps_ret h) fun D sv H ⟨Z,loc,s,r,q⟩=>?_
 exact(ai.rq r q).imp fun v H1 ⟨Z1,l1,s1,x,g1,r1,q1,h1⟩=>h1 Z1 l1 sv H1 v (Ext.refl _ _) r1 q1
theorem g9{a b:List Stmt}{sa sb:State→Res Fl}(ht:PT X c (dV C ft))(ha:PSs X a (dh C sa))(hb:PSs X b (dh C sb)):PS X (.If c a b pos) (dh C (gI ft sa sb)):=by
 refine jr (ps_if ht ha hb) fun D sv H ⟨Z,loc,s,r,q⟩=>?_
 refine(dV.rq r q).imp fun k H1 ⟨Z1,l1,s1,g1,r1,h1⟩=>?_
 cases k with
 | true=>exact⟨Z1,l1,s1,r1,h1⟩
 | false=>exact⟨Z1,l1,s1,r1,h1⟩
theorem ar:PSs X [] (dh C (ak [])):=yw pss_nil fun D sv H ⟨Z,loc,s,r,h⟩=>h.nx r
theorem af{st:Stmt}{sts:List Stmt}{g:State→Res Fl}{gs:List (State→Res Fl)}(h1:PS X st (dh C g))(h2:PSs X sts (dh C (ak gs))):PSs X (st::sts) (dh C (ak (g::gs))):=by
 refine yw (pss_cons h1 h2) fun D sv H ⟨Z,loc,s,r,h⟩=>?_
 refine⟨Z,loc,s,r,?_⟩
 unfold ak at h
 cases e:g s with
 | stuck=>rw[e]at h;exact h
 | exc x s1=>rw[e]at h;exact h
 | ok k s1=>
  rw[e]at h
  cases k with
  | nx=>exact fun Z1 l1 sv1 H1 g1 r1=>⟨Z1,l1,s1,r1,a0.ext h g1⟩
  | ret rv=>exact h
  | brk=>exact h
  | cnt=>exact h
theorem uX{i:Nat}{x:Str}{p:Pos}(hN:X.N.Nodup)(hi:X.N[i]? =some x)(hx:Loc X.env.scope x)(hf:X.fn x=true∨X.env.scope.names.lookup x=some .local)(h:PE X e (ai C f))(hc:jw e=true):
  PS X (.Assign [.Name x p] e pos) (dh C (aR i f)):=by
 refine tE (ps_set hN hi hx h (vz hc) hf) fun D sv H hl ⟨Z,loc,s,r,q⟩=>?_
 have hi':i<sv.length:=by rw[hl];exact(List.getElem?_eq_some_iff.mp hi).1
 refine(ai.rq r q).imp fun v H1 ⟨Z1,l1,s1,y,g1,r1,q1,h1⟩=>?_
 show D.nx (sv.set i (some v)) H1
 unfold qX at h1
 split at h1
 ·rename_i s2 e2
  obtain⟨Z2,g2,r2⟩:=r1.nR hi' q1 e2
  exact(h1.ext g2).nx r2
 ·exact h1.elim
end
end Vw
namespace Vw
open PySem L2 PyProof.Rows
section
variable{C:Cst}{Z Z':Hp}{loc loc':List Addr}{s s':State}{sv sv':L2.St}{H H':Hp}
variable{X:Cx}{e a b c:Expr}{es:List Expr}{pos:Pos}{f fa fb fc fo fi fv:State→Res RV}{ft:State→Res Bool}
theorem JE(hu:X.A.units+64<cLine):PSet X (fun o i v H Q=>∃ a H',o=.ref a∧DPut H a i v H'∧Q H'):=by
 intro pins s sv H o i v ov iv u Q I ro ri rv ⟨a,H',e,g,q⟩
 subst e
 cases ro
 exact d_setItem (by omega) I g ri rv fun s' I'=>⟨H',I',q⟩
theorem IM{t t':TSet}(h:PSet X t)(h':PSet X t'):PSet X (fun o i v H Q=>t o i v H Q∨t' o i v H Q):=by
 intro pins s sv H o i v ov iv u Q I ro ri rv q
 rcases q with q | q
 ·exact h pins s sv H o i v ov iv u Q I ro ri rv q
 ·exact h' pins s sv H o i v ov iv u Q I ro ri rv q
theorem xT:∀ {l:List Val} {xs:List V} (j:Nat) {x:Val} {v:V},aE C.cA Z loc l xs→bo C.cA Z loc x v→aE C.cA Z loc (l.set j x) (xs.set j v)
 | [],xs,j,x,v,h,q=>by rw[show xs=_ from h];exact rfl
 | y::l,xs,0,x,v,⟨w,t,e,q1,q2⟩,q=>by rw[e];exact⟨v,t,rfl,q,q2⟩
 | y::l,xs,j+1,x,v,⟨w,t,e,q1,q2⟩,q=>by rw[e];exact⟨w,t.set j v,rfl,q1,xT j q2 q⟩
theorem Lr:∀ {l:List (K0×Val)} {ws:List (Key×V)} (k:K0),bS C.cA Z loc l ws→(l.any fun p=>decide (p.1=k))=ws.any fun p=>decide (p.1=kz k)
 | [],ws,k,h=>by rw[show ws=_ from h];rfl
 | (k',x)::l,ws,k,⟨v,t,e,q,r⟩=>by
  rw[e,List.any_cons,List.any_cons,Lr k r]
  congr 1
  by_cases h:k'=k
  ·simp[h]
  ·have h2:¬ kz k'=kz k:=fun z=>h (uQ z)
   simp[h,h2]
theorem Ks:∀ {l:List (List K0×Val)} {ws:List (List Key×V)} (k:List K0),cR C.cA Z loc l ws→(l.any fun p=>decide (p.1=k))=ws.any fun p=>decide (p.1=k.map kz)
 | [],ws,k,h=>by rw[show ws=_ from h];rfl
 | (k',x)::l,ws,k,⟨v,t,e,q,r⟩=>by
  rw[e,List.any_cons,List.any_cons,Ks k r]
  congr 1
  by_cases h:k'=k
  ·simp[h]
  ·have h2:¬ k'.map kz=k.map kz:=fun z=>h (lK z)
   simp[h,h2]
theorem E8:∀ {l:List (K0×Val)} {ws:List (Key×V)} (k:K0) {x:Val} {v:V},bS C.cA Z loc l ws→bo C.cA Z loc x v→
  bS C.cA Z loc (l.map fun p=>if p.1=k then(p.1,x)else p) (ws.map fun p=>if p.1=kz k then(p.1,v)else p)
 | [],ws,k,x,v,h,q=>by rw[show ws=_ from h];exact rfl
 | (k',y)::l,ws,k,x,v,⟨w,t,e,q1,r⟩,q=>by
  rw[e,List.map_cons,List.map_cons]
  by_cases h:k'=k
  ·rw[if_pos h,if_pos (by rw[h])];exact⟨v,_,rfl,q,E8 k r q⟩
  ·rw[if_neg h,if_neg (fun z=>h (uQ z))];exact⟨w,_,rfl,q1,E8 k r q⟩
theorem E2:∀ {l:List (List K0×Val)} {ws:List (List Key×V)} (k:List K0) {x:Val} {v:V},cR C.cA Z loc l ws→bo C.cA Z loc x v→
  cR C.cA Z loc (l.map fun p=>if p.1=k then(p.1,x)else p) (ws.map fun p=>if p.1=k.map kz then(p.1,v)else p)
 | [],ws,k,x,v,h,q=>by rw[show ws=_ from h];exact rfl
 | (k',y)::l,ws,k,x,v,⟨w,t,e,q1,r⟩,q=>by
  rw[e,List.map_cons,List.map_cons]
  by_cases h:k'=k
  ·rw[if_pos h,if_pos (by rw[h])];exact⟨v,_,rfl,q,E2 k r q⟩
  ·rw[if_neg h,if_neg (fun z=>h (lK z))];exact⟨w,_,rfl,q1,E2 k r q⟩
theorem Kx:∀ {l m:List (K0×Val)} {ws us:List (Key×V)},bS C.cA Z loc l ws→bS C.cA Z loc m us→bS C.cA Z loc (l++m) (ws++us)
 | [],m,ws,us,h,q=>by rw[show ws=_ from h];exact q
 | (k,y)::l,m,ws,us,⟨w,t,e,q1,r⟩,q=>by rw[e];exact⟨w,t++us,rfl,q1,Kx r q⟩
theorem KQ:∀ {l m:List (List K0×Val)} {ws us:List (List Key×V)},cR C.cA Z loc l ws→cR C.cA Z loc m us→cR C.cA Z loc (l++m) (ws++us)
 | [],m,ws,us,h,q=>by rw[show ws=_ from h];exact q
 | (k,y)::l,m,ws,us,⟨w,t,e,q1,r⟩,q=>by rw[e];exact⟨w,t++us,rfl,q1,KQ r q⟩
theorem Hz{l:List (K0×Val)}{ws:List (Key×V)}(k:K0){x:Val}{v:V}(h:bS C.cA Z loc l ws)(q:bo C.cA Z loc x v):bS C.cA Z loc (aO l k x) (putK ws (kz k) v):=by
 unfold aO putK
 rw[Lr k h]
 split
 ·exact E8 k h q
 ·exact Kx h ⟨v,[],rfl,q,rfl⟩
theorem Nx{l:List (List K0×Val)}{ws:List (List Key×V)}(k:List K0){x:Val}{v:V}(h:cR C.cA Z loc l ws)(q:bo C.cA Z loc x v):cR C.cA Z loc (aO l k x) (putK ws (k.map kz) v):=by
 unfold aO putK
 rw[Ks k h]
 split
 ·exact E2 k h q
 ·exact KQ h ⟨v,[],rfl,q,rfl⟩
theorem KW:∀ {l:List (K0×Val)} {ws:List (Key×V)},bS C.cA Z loc l ws→l.length=ws.length
 | [],ws,h=>by rw[show ws=_ from h];rfl
 | (k,y)::l,ws,⟨w,t,e,q1,r⟩=>by rw[e,List.length_cons,List.length_cons,KW r]
theorem JW:∀ {l:List (List K0×Val)} {ws:List (List Key×V)},cR C.cA Z loc l ws→l.length=ws.length
 | [],ws,h=>by rw[show ws=_ from h];rfl
 | (k,y)::l,ws,⟨w,t,e,q1,r⟩=>by rw[e,List.length_cons,List.length_cons,JW r]
def MZ:TSet:=fun o i v H Q=>rSetL o i v H Q∨∃ a H',o=.ref a∧DPut H a i v H'∧Q H'
theorem HJ(r:SR C Z loc s sv H){o i:RV}{x:Val}{u k v:V}(ho:bH C Z loc s sv H o u)(hi:bH C Z loc s sv H i k)(hx:bo C.cA Z loc x v)(e:ff o i x s=some s'){Q:Hp→Prop}(q:∀ H',SR C Z loc s' sv H'→Q H'):MZ u k v H Q:=by
 unfold ff at e
 split at e
 ·rename_i l n e1 e2
  split at e
  ·rename_i j e3
   cases e
   obtain⟨a,h1,_,xs,h2,h3⟩:=r.ob ho e1
   refine .inl ⟨a,xs,n,j,h1,r.dv hi e2,h2,by rw[←bD h3];exact e3,q _ ?_⟩
   exact r.write ho e1 h1 (by simp) (fun _ _ z=>by rw[h2]at z;cases z) ⟨_,upd_same,xT j h3 hx⟩
  ·cases e
 ·rename_i l d e1 e2
  split at e
  ·rename_i k' e3
   split at e
   ·rename_i hl
    cases e
    obtain⟨a,h1,_,xs,h2,h3⟩:=r.ob ho e1
    have h2:H a=some (.dK xs):=h2
    refine .inr ⟨a,_,h1,.inl ⟨xs,kz k',h2,uc e3 (r.dv hi e2),by rw[←KW h3];exact hl,rfl⟩,q _ ?_⟩
    exact r.write ho e1 h1 (by simp) (fun _ _ z=>by rw[h2]at z;cases z) ⟨_,upd_same,Hz k' h3 hx⟩
   ·cases e
  ·cases e
 ·rename_i l d e1 e2
  split at e
  ·rename_i k' e3
   split at e
   ·rename_i hl
    cases e
    obtain⟨a,h1,_,xs,h2,h3⟩:=r.ob ho e1
    have h2:H a=some (.dT xs):=h2
    obtain⟨b,vs,h4,h5,h6⟩:=r.dv hi e2
    have hb:H b=some (.tup ((k'.map kz).map kV)):=by
     rw[←zQ e3 h6]
     exact(r.zh b _ h5).at rfl
    refine .inr ⟨a,_,h1,.inr ⟨xs,k'.map kz,b,h2,h4,hb,by rw[←JW h3];exact hl,rfl⟩,q _ ?_⟩
    exact r.write ho e1 h1 (by simp) (fun _ _ z=>by rw[h2]at z;cases z) ⟨_,upd_same,Nx k' h3 hx⟩
   ·cases e
  ·cases e
 ·cases e
theorem Iw{o i:Expr}{p:Pos}{env:Env}(h:mH i=true):∀ v,assign (.Subscript o i p) env v=(do
   let ov ←holding [v] (eval o env)
   let iv ←holding [v,ov] (eval i env)
   standAt p
   holding [v,ov,iv] (setItem ov iv v)
   release [v,ov,iv] []):=by
 intro v
 cases i<;> first | rfl | cases h
theorem Ij{t e:Expr}{n:Nat}{env:Env}(h:jw e=true):swapsWithSole [t] e n env=pure false:=by
 cases e<;> first | rfl | cases h
theorem lE{o i v:Expr}{p:Pos}(hu:X.A.units+64<cLine)(ho:PE X o (ai C fo))(hi:PE X i (ai C fi))(hv:PE X v (ai C fv))(hs:mH i=true)(hc:jw v=true):
  PS X (.Assign [.Subscript o i p] v pos) (dh C (fu fo fi fv)):=by
 refine jr (ps_asg hv (pg_sub ho hi (IM set_list (JE hu)) (Iw hs)) (Ij hc) (by cases v<;> rfl)) fun D sv H ⟨Z,loc,s,r,q⟩=>?_
 refine(ai.wX r q).imp fun x H1 ⟨Z1,l1,s1,y,g1,r1,st1,q1,h1⟩=>?_
 show ai C fo sv H1 _
 refine(ai.wX r1 h1).imp fun u H2 ⟨Z2,l2,s2,y2,g2,r2,st2,q2,h2⟩=>?_
 refine(ai.wX r2 h2).imp fun k H3 ⟨Z3,l3,s3,y3,g3,r3,st3,q3,h3⟩=>?_
 have q1':=q1.mono (s':=s3) (H':=H3) (g2.trans g3) st1
 have q2':=q2.mono (s':=s3) (H':=H3) g3 st2
 cases e1:bL y s3 with
 | stuck=>rw[e1]at h3;exact h3.elim
 | exc x s4=>rw[e1]at h3;exact h3.elim
 | ok z s4=>
  rw[e1]at h3
  dsimp only at h3
  obtain⟨Z4,g4,r4,q4⟩:=r3.bL q1' e1
  unfold qX at h3
  split at h3
  ·rename_i s5 e5
   exact HJ r4 (q2'.mono (s':=s4) (H':=H3) g4 st2) (q3.mono (s':=s4) (H':=H3) g4 st3) q4 e5 fun H' r'=>a0.nx (a0.ext h3 g4) r'
  ·exact h3.elim
theorem Mn{i:Nat}{x:Str}{p:Pos}(op:Bop)(hN:X.N.Nodup)(hi:X.N[i]? =some x)(hx:Loc X.env.scope x)(hf:X.fn x=true∨X.env.scope.names.lookup x=some .local)(h:PE X e (ai C f)):
  PS X (.AugAssign (.Name x p) op.py e pos) (dh C (pk i op f)):=by
 cases ha:AA op with
 | none=>
  refine jr ps_never fun D sv H ⟨Z,loc,s,r,q⟩=>?_
  unfold pk at q
  rw[ha]at q
  exact q.elim
 | some g=>
  have hp:PIp X op.py (ipI g):=by
   cases op<;> simp[AA]at ha
   ·subst ha;exact ip_add
   ·subst ha;exact ip_sub
  refine tE (ps_aug hN hi hx h hp hf) fun D sv H hl ⟨Z,loc,s,r,q⟩=>?_
  have hi':i<sv.length:=by rw[hl];exact(List.getElem?_eq_some_iff.mp hi).1
  unfold pk at q
  rw[ha]at q
  split at q
  ·rename_i g' a hs hg
   cases hs
   unfold sl at hg
   split at hg
   ·rename_i d e1
    cases hg
    obtain⟨v,h1,h2⟩:=r.vl i _ e1
    refine⟨v,h1,(ai.wX r q).imp fun w H1 ⟨Z1,l1,s1,y,g1,r1,st1,q1,h3⟩=>?_⟩
    split at h3
    ·rename_i b e2
     exact⟨a,b,h2,r1.dv q1 e2,h3.nx (r1.store hi' rfl)⟩
    ·exact h3.elim
   ·cases hg
  ·exact q.elim
structure CLe (C C':Cst):Prop where
 ca:C'.cA=C.cA
 fr:C'.Fr=C.Fr
 w:C'.W=C.W
 h0:∀ (a:Addr) (o:Obj) (u:HO),C.H0 a=some (.frz o u)→C'.H0 a=some (.frz o u)
theorem CLe.refl(C:Cst):CLe C C:=⟨rfl,rfl,rfl,fun _ _ _ h=>h⟩
theorem SR.le{C':Cst}(c:CLe C C')(r:SR C' Z loc s sv H):SR C Z loc s sv H:=by
 obtain⟨a,f,h,w⟩:=C
 obtain⟨a',f',h',w'⟩:=C'
 obtain⟨c1,c2,c3,c4⟩:=c
 dsimp only at c1 c2 c3 c4
 subst c1 c2 c3
 exact⟨r.fr,r.zh,r.zf,fun b o u e=>r.lk b o u (c4 b o u e),r.ln,r.nd,r.lh,r.cl,r.vl,r.ow,r.oi,r.ls⟩
def mQ(H Z H' Z':Hp):Prop:=Same H H'∧∀ a,H a≠none→Z' a=Z a
theorem mQ.refl(H Z:Hp):mQ H Z H Z:=⟨Same.refl _,fun _ _=>rfl⟩
structure WalkS (C:Cst) (Z:Hp) (loc:List Addr) (l:List Val) (J:It) (G:Hp→Prop) (Y:Nat→Hp→V→Hp→Prop):Prop where
 w:Walk J l.length G Y
 g:∀ Z' loc' s sv H,Ext Z loc Z' loc'→SR C Z' loc' s sv H→G H
 y:∀ Z' loc' s sv H (i:Nat) x v H',Ext Z loc Z' loc'→SR C Z' loc' s sv H→l[i]? =some x→Y i H v H'→∃ Z'',Ext Z' loc' Z'' loc'∧mQ H Z' H' Z''∧SR C Z'' loc' s sv H'∧bo C.cA Z'' loc' x v
def jB(C:Cst)(f:State→Res (List Val)):TI:=fun sv H R=>∃ Z loc s,SR C Z loc s sv H∧match f s with
 | .ok l s'=>∀ Z' loc' H' C' J G Y,CLe C C'→Ext Z loc Z' loc'→SR C' Z' loc' s' sv H'→WalkS C' Z' loc' l J G Y→R J H'
 | .exc x s'=>∀ Z' loc' H' c d,Ext Z loc Z' loc'→SR C Z' loc' s' sv H'→lq C Z' H' x c d→C.W c d sv H'
 | .stuck=>False
def dc(t:Tg)(src:State→Res (List Val))(b:State→Res Fl)(s:State):Res Fl:=(src s).bind fun l s=>iT t b l s
theorem MP{t:Tg}{tg it:Expr}{b:List Stmt}{sb:State→Res Fl}{src:State→Res (List Val)}(hp:PassesOwn (model X.prog X.w) X.A X.env X.xe)(hc:X.calm=true)(hi:PI X tg it (jB C src))
  (hg:∀ C',CLe C C'→PG X tg (jI C' t)) (hb:∀ C',CLe C C'→PSs X b (dh C' sb)) (hs:cb it=true):PS X (.For tg it b [] pos) (dh C (dc t src sb)):=by
 refine⟨fun pins t0 sv H D I ⟨Z,loc,s,r,q⟩=>?_⟩
 -- the ends by any of the body's constants
 refine(ps_for (g:=fun v sv H Q=>∃ C',CLe C C'∧jI C' t v sv H Q) (tb:=fun D sv H=>∃ C',CLe C C'∧dh C' sb D sv H) hp hc hi
  ⟨fun pins s sv H v u Q I r ⟨C',c,q⟩=>(hg C' c).run pins s sv H v u Q I r q⟩ ⟨fun pins s sv H D I ⟨C',c,q⟩=>(hb C' c).run pins s sv H D I q⟩ (fold_ok hs)).run pins t0 sv H D I ?_
 refine⟨Z,loc,s,r,?_⟩
 unfold dc at q
 cases e:src s with
 | stuck=>rw[e]at q;exact q
 | exc x s1=>rw[e]at q;exact fun Z' loc' H' c d=>q Z' loc' sv H' c d
 | ok l s1=>
  rw[e]at q
  intro Z1 l1 H1 C' J G Y cle g1 r1 wk
  have q:a0 C Z loc (iT t sb l s1) D:=q
  refine for_it (g:=fun v sv H Q=>∃ C',CLe C C'∧jI C' t v sv H Q) (tb:=fun D sv H=>∃ C',CLe C C'∧dh C' sb D sv H) (D:=D) wk.w (fun i sv H=>∃ Z2 l2 s2,Ext Z1 l1 Z2 l2∧SR C' Z2 l2 s2 sv H∧a0 C Z2 l2 (iT t sb (l.drop i) s2) D)
   ⟨Z1,l1,s1,Ext.refl _ _,r1,q.ext g1⟩ (fun i sv H _ ⟨Z2,l2,s2,g2,r2,_⟩=>wk.g Z2 l2 s2 sv H g2 r2) ?_ ?_
  ·rintro i v sv2 H2 H3 hi ⟨Z2,l2,s2,g2,r2,q2⟩ hy
   rw[List.drop_eq_getElem_cons hi]at q2
   obtain⟨Z3,g3,_,r3,q3⟩:=wk.y Z2 l2 s2 sv2 H2 i l[i] v H3 g2 r2 (by simp[hi]) hy
   refine⟨C',cle,Z3,l2,s2,l[i],r3,q3,?_⟩
   unfold iT at q2
   cases e1:dA t l[i] s2 with
   | none=>rw[e1]at q2;exact q2
   | some s3=>
    rw[e1]at q2
    intro sv4 _ r4
    refine⟨C',cle,Z3,l2,s3,r4,?_⟩
    dsimp only at q2
    have q2':=a0.ext q2 g3
    cases e2:sb s3 with
    | stuck=>rw[e2]at q2';exact q2'
    | exc x s5=>
     rw[e2]at q2'
     have q2':a0 C Z3 l2 (.exc x s5) D:=q2'
     intro Z5 l5 sv5 H5 c d g5 r5 x5
     have:=q2' Z5 l5 sv5 H5 c d g5 (SR.le cle r5)
     unfold lq at this x5
     rw[cle.ca]at x5
     rw[cle.w]
     exact this x5
    | ok k s5=>
     rw[e2]at q2'
     cases k with
     | nx=>exact fun Z5 l5 sv5 H5 g5 r5=>⟨Z5,l5,s5,g2.trans (g3.trans g5),r5,a0.ext q2' g5⟩
     | cnt=>exact fun Z5 l5 sv5 H5 g5 r5=>⟨Z5,l5,s5,g2.trans (g3.trans g5),r5,a0.ext q2' g5⟩
     | brk=>exact fun Z5 l5 sv5 H5 g5 r5=>a0.nx (a0.ext q2' g5) (SR.le cle r5)
     | ret rv=>
      intro Z5 l5 sv5 H5 v5 g5 r5 q5
      refine q2' Z5 l5 sv5 H5 v5 g5 (SR.le cle r5) ?_
      cases rv with
      | val x=>have q5:bo C'.cA Z5 l5 x v5:=q5;rw[cle.ca]at q5;exact q5
      | own j=>exact q5
      | new o=>
       obtain⟨a,h1,h2,h3,h4⟩:=q5
       rw[cle.ca]at h3
       exact⟨a,h1,h2,h3,h4.z,by rw[←cle.fr];exact h4.f,h4.l,h4.o⟩
  ·rintro sv2 H2 ⟨Z2,l2,s2,g2,r2,q2⟩
   rw[List.drop_length]at q2
   exact a0.nx q2 (SR.le cle r2)
end
end Vw
namespace Vw
open PySem L2 PyProof.Rows
def mG(r:RV)(s:State):Res D:=
 match bL r s with
 | .ok (.d x) s=>.ok x s
 | _=>.stuck
def uj:K0→D
 | .i n=>.int n
 | .s t=>.str t
def itemsOf:D→State→Res (List Val)
 | .lst l,s=>.ok (l.map .d) s
 | .tup l,s=>.ok (l.map .d) s
 | .str t,s=>.ok (t.map fun c=>.d (.str [c])) s
 | .dic l,s=>.ok (l.map fun p=>.d (uj p.1)) s
 | _,s=>.stuck
def pairsOf:D→State→Res (List Val)
 | .dic l,s=>.ok (l.map fun p=>.d (.tup [uj p.1,p.2])) s
 | _,s=>.stuck
def keysOf:D→State→Res (List Val)
 | .dic l,s=>.ok (l.map fun p=>.d (uj p.1)) s
 | _,s=>.stuck
def gG:D→State→Res (List Val)
 | .lst l,s=>.ok (l.mapIdx fun i x=>.d (.tup [.int i,x])) s
 | .str t,s=>.ok (t.mapIdx fun i c=>.d (.tup [.int i,.str [c]])) s
 | _,s=>.stuck
def sD(f:State→Res RV)(k:D→State→Res (List Val))(s:State):Res (List Val):=(ev f s).bind fun r s=>(mG r s).bind k
def oI(lo hi:Int)(s:State):Res (List Val):=
 if-(2^62)≤lo∧lo<2^62∧ -(2^62)≤hi∧hi<2^62 then .ok ((List.range (hi-lo).toNat).map fun i=>.d (.int (lo+(i:Nat)))) s else .stuck
section
variable{C:Cst}{Z Z':Hp}{loc loc':List Addr}{s s':State}{sv sv':L2.St}{H H':Hp}
variable{X:Cx}{e a b c tg:Expr}{es:List Expr}{pos:Pos}{f fa fb fc fo fi fv:State→Res RV}
theorem ai.FP{rv:RV}(r:SR C Z loc s sv H)(e:ev f s=.ok rv s'):ai C f sv H (fun v H'=>∃ Z' loc',Ext Z loc Z' loc'∧SR C Z' loc' s' sv H'∧t5 rv∧bH C Z' loc' s' sv H' rv v):=by
 refine⟨Z,loc,s,r,?_⟩
 unfold ev at e
 cases e1:f s with
 | stuck=>rw[e1]at e;cases e
 | exc x s1=>rw[e1]at e;cases e
 | ok r0 s1=>
  rw[e1]at e
  intro Z1 l1 H1 v g r1 q
  obtain⟨rfl,st,Z2,g2,r2,q2⟩:=r1.settle q e
  exact⟨Z2,l1,g.trans g2,r2,st,q2⟩
theorem ai.Fq{x:Exn}{Q:VK}(r:SR C Z loc s sv H)(e:ev f s=.exc x s')(h:∀ Z' loc' H' c d,Ext Z loc Z' loc'→SR C Z' loc' s' sv H'→lq C Z' H' x c d→C.W c d sv H'):ai C f sv H Q:=by
 refine⟨Z,loc,s,r,?_⟩
 unfold ev at e
 cases e1:f s with
 | stuck=>rw[e1]at e;cases e
 | exc x s1=>rw[e1]at e;cases e;exact h
 | ok r0 s1=>rw[e1]at e;exact absurd e xE
theorem SR.mG(r:SR C Z loc s sv H){rv:RV}{v:V}{x:D}(h:bH C Z loc s sv H rv v)(e:mG rv s=.ok x s'):∃ Z',Ext Z loc Z' loc∧SR C Z' loc s' sv H∧aN C.cA Z' x v:=by
 unfold Vw.mG at e
 split at e
 ·rename_i y s1 e1
  cases e
  exact r.bL h e1
 ·cases e
theorem Je{rv:RV}{x:Exn}{s s':State}:mG rv s≠ .exc x s':=by
 unfold mG
 split<;> simp
theorem x2{w w':TI}(h:PI X tg e w)(h':PI X tg e w'):PI X tg e (fun sv H R=>w sv H R∨w' sv H R):=
 ⟨fun pins s sv H R I q=>q.elim (h.run pins s sv H R I) (h'.run pins s sv H R I)⟩
theorem lU{w w':TI}(h:PI X tg e w)(m:∀ sv H R,w' sv H R→w sv H R):PI X tg e w':=⟨fun pins s sv H R I q=>h.run pins s sv H R I (m sv H R q)⟩
def Qd(t:TE):TE:=fun sv H Q=>t sv H fun x H1=>(∃ d u,x=.ref d∧H1 d=some u∧m9 u=true∧∀ od,Q x (upd H1 d (.frz od u)))∨Q x H1
theorem Cy{t:TE}(h:PE X e t):PE X e (Qd t):=by
 refine⟨fun pins s sv H Q I q=>thn (h.run pins s sv H _ I q) fun v s1 ⟨x,H1,I1,rx,q1⟩=>?_⟩
 rcases q1 with⟨d,u,e1,h1,h2,q1⟩ | q1
 ·obtain⟨od,I2⟩:=I1.lock h1 (by cases u<;> first | trivial | cases h2)
  exact⟨x,_,I2,rx,q1 od⟩
 ·exact⟨x,H1,I1,rx,q1⟩
theorem SR.Ha(r:SR C Z loc s sv H){d:Addr}{u:HO}(hz:Z d=some u)(hu:m9 u=true)(hd:H d=some u)(od:Obj):
  CLe C { C with H0:=upd C.H0 d (.frz od u) }∧SR { C with H0:=upd C.H0 d (.frz od u) } Z loc s sv (upd H d (.frz od u)):=by
 have nf:∀ o w,C.H0 d≠some (.frz o w):=fun o w e=>by
  have:=r.lk d o w e
  rw[hd]at this
  cases this
  cases hu
 have fd:C.Fr d=none:=r.zf d u hz
 have cellAt:∀ {b:Addr} {ob:Ob},b≠d→Cell C.cA Z loc H b ob→Cell C.cA Z loc (upd H d (.frz od u)) b ob:=fun {b ob} hb x=>x.at (upd_ne hb)
 refine⟨⟨rfl,rfl,rfl,fun b o w e=>?_⟩,?_⟩
 ·have hb:b≠d:=fun z=>nf o w (z▸e)
  show upd C.H0 d _ b=_
  rw[upd_ne hb];exact e
 ·refine⟨fun b x hx=>?_,fun b x hx=>?_,r.zf,fun b o w e=>?_,r.ln,r.nd,fun b hb=>?_,fun n b ob h1 h2 h3=>?_,r.vl,fun i ob h=>?_,r.oi,r.ls⟩
  ·have hx:C.Fr b=some x:=hx
   have hb:b≠d:=fun z=>by rw[z,fd]at hx;cases hx
   rw[upd_ne hb];exact r.fr b x hx
  ·by_cases hb:b=d
   ·subst hb
    rw[hz]at hx
    cases hx
    exact .inr ⟨hu,od,upd_same⟩
   ·unfold Rz
    rw[upd_ne hb];exact r.zh b x hx
  ·have e:upd C.H0 d (.frz od u) b=some (.frz o w):=e
   by_cases hb:b=d
   ·subst hb
    rw[upd_same]at e
    cases e
    exact upd_same
   ·rw[upd_ne hb]at e ⊢
    exact r.lk b o w e
  ·refine⟨?_,(r.lh b hb).2⟩
   by_cases hbd:b=d
   ·rw[hbd,upd_same];simp
   ·rw[upd_ne hbd];exact(r.lh b hb).1
  ·obtain⟨q1,q2⟩:=r.cl n b ob h1 h2 h3
   have hb:b≠d:=fun z=>by rw[z,hz]at q2;cases q2
   exact⟨cellAt hb q1,q2⟩
  ·obtain⟨b,h1,h2,h3,h4,h5⟩:=r.ow i ob h
   have hb:b≠d:=fun z=>by rw[z,hz]at h4;cases h4
   exact⟨b,h1,h2,cellAt hb h3,h4,h5⟩
theorem Ht{K:PySem.W.Frag}{ds:List D}{a:Addr}{vs:List V}(hz:Z a=some (.lst vs)∨∃ o,Z a=some (.frz o (.lst vs)))(q:bq C.cA Z ds vs):
  WalkS C Z loc (ds.map .d) (Itl K a) (fun H=>SqL K H a vs) (YAt vs):=by
 have hl:(ds.map Val.d).length=vs.length:=bD (loc:=loc) (eK.mpr q)
 refine⟨by rw[hl];exact walk_list,fun Z' loc' s sv H g r=>?_,fun Z' loc' s sv H i x v H' g r hx y=>?_⟩
 ·rcases hz with z | ⟨o,z⟩
  ·exact .inl (.inl ((r.zh a _ (g.1 _ _ z)).at rfl))
  ·exact .inl (.inr ⟨o,(r.zh a _ (g.1 _ _ z)).at rfl⟩)
 ·obtain⟨rfl,y⟩:=y
  obtain⟨v',h1,h2⟩:=fO (eK.mpr q) hx
  rw[y]at h1
  cases h1
  exact⟨Z',Ext.refl _ _,mQ.refl _ _,r,h2.mono g⟩
theorem MH{K:PySem.W.Frag}{ds:List D}{a:Addr}{vs:List V}(hz:Z a=some (.tup vs))(q:bq C.cA Z ds vs):
  WalkS C Z loc (ds.map .d) (Itt K a) (fun H=>SqT K H a vs) (YAt vs):=by
 have hl:(ds.map Val.d).length=vs.length:=bD (loc:=loc) (eK.mpr q)
 refine⟨by rw[hl];exact walk_tup,fun Z' loc' s sv H g r=>?_,fun Z' loc' s sv H i x v H' g r hx y=>?_⟩
 ·exact .inl (.inl ((r.zh a _ (g.1 _ _ hz)).at rfl))
 ·obtain⟨rfl,y⟩:=y
  obtain⟨v',h1,h2⟩:=fO (eK.mpr q) hx
  rw[y]at h1
  cases h1
  exact⟨Z',Ext.refl _ _,mQ.refl _ _,r,h2.mono g⟩
theorem My{t:List Nat}:∃ G Y,WalkS C Z loc (t.map fun c=>.d (.str [c])) (Its ⟨t.toArray⟩) G Y:=by
 refine⟨_,_,by simpa using walk_str (z:=⟨t.toArray⟩),fun _ _ _ _ _ _ _=>trivial,fun Z' loc' s sv H i x v H' g r hx y=>?_⟩
 obtain⟨rfl,c,y1,y2⟩:=y
 rw[List.getElem?_map]at hx
 have y1:t[i]? =some c:=by simpa using y1
 rw[y1]at hx
 cases hx
 exact⟨Z',Ext.refl _ _,mQ.refl _ _,r,y2⟩
theorem Mz{lo:Int}{n:Nat}:∃ G Y,WalkS C Z loc ((List.range n).map fun i=>.d (.int (lo+(i:Nat)))) (Itr lo n) G Y:=by
 refine⟨_,_,by simpa using walk_range (lo:=lo) (n:=n),fun _ _ _ _ _ _ _=>trivial,fun Z' loc' s sv H i x v H' g r hx y=>?_⟩
 obtain⟨rfl,y⟩:=y
 rw[List.getElem?_map]at hx
 obtain⟨j,h1,h2⟩:=Option.map_eq_some_iff.mp hx
 have h3:=List.getElem?_eq_some_iff.mp h1
 obtain⟨h4,h5⟩:=h3
 rw[List.getElem_range]at h5
 subst h5 h2
 exact⟨Z',Ext.refl _ _,mQ.refl _ _,r,y⟩
theorem yf{xs ys:Nat→Option V}{Z:Hp}{loc:List Addr}(r:SR C Z loc s sv H){i:Nat}{v:V}{d1 d2:D}(y:YPair xs ys i H v H')(h1:∀ u,xs i=some u→aN C.cA Z d1 u)(h2:∀ u,ys i=some u→aN C.cA Z d2 u):
  ∃ Z'',Ext Z loc Z'' loc∧mQ H Z H' Z''∧SR C Z'' loc s sv H'∧bo C.cA Z'' loc (.d (.tup [d1,d2])) v:=by
 obtain⟨T,x,y,rfl,hT,rfl,e1,e2⟩:=y
 have f:=r.free hT
 have g:=bC (o:=.tup [x,y]) f.z
 exact⟨_,Ext.z g,⟨bC hT,fun b hb=>upd_ne fun z=>hb (z▸hT)⟩,(r.grow (bC hT)).uS upd_same f,T,[x,y],rfl,upd_same,x,[y],rfl,aN.mono g d1 (h1 x e1),y,[],rfl,aN.mono g d2 (h2 y e2),rfl⟩
theorem DG{ds:List D}{vs:List V}{i:Nat}{u:V}(q:bq C.cA Z ds vs)(h:vs[i]? =some u):∃ d,ds[i]? =some d∧aN C.cA Z d u:=by
 have hl:(ds.map Val.d).length=vs.length:=bD (loc:=[]) (eK.mpr q)
 have hi:i<ds.length:=by
  have:=(List.getElem?_eq_some_iff.mp h).1
  simpa [←hl]using this
 obtain⟨v',h1,h2⟩:=fO (loc:=[]) (eK.mpr q) (i:=i) (x:=.d ds[i]) (by simp[hi])
 rw[h]at h1
 cases h1
 exact⟨ds[i],by simp[hi],h2⟩
theorem MD{K:PySem.W.Frag}{ds:List D}{a:Addr}{vs:List V}(hz:Z a=some (.lst vs)∨∃ o,Z a=some (.frz o (.lst vs)))(q:bq C.cA Z ds vs):
  ∃ G Y,WalkS C Z loc (ds.mapIdx fun i x=>.d (.tup [.int i,x])) (Ite K a) G Y:=by
 have hl:(ds.map Val.d).length=vs.length:=bD (loc:=loc) (eK.mpr q)
 refine⟨_,_,by rw[List.length_mapIdx,←List.length_map (f:=Val.d),hl];exact walk_enum (xs:=vs) (K:=K),fun Z' loc' s sv H g r=>?_,fun Z' loc' s sv H i x v H' g r hx y=>?_⟩
 ·rcases hz with z | ⟨o,z⟩
  ·exact .inl (.inl ((r.zh a _ (g.1 _ _ z)).at rfl))
  ·exact .inl (.inr ⟨o,(r.zh a _ (g.1 _ _ z)).at rfl⟩)
 ·rw[List.getElem?_mapIdx]at hx
  obtain⟨d,h1,rfl⟩:=Option.map_eq_some_iff.mp hx
  refine yf r y (fun u e=>by cases e;rfl) fun u e=>?_
  obtain⟨d',h2,h3⟩:=DG q e
  rw[h1]at h2
  cases h2
  exact aN.mono g.1 d h3
theorem qZ:∀ {l:List (K0×D)} {ws:List (Key×V)} {i:Nat} {p:K0×D},fG C.cA Z l ws→l[i]? =some p→∃ v,ws[i]? =some (kz p.1,v)∧aN C.cA Z p.2 v
 | [],ws,i,p,h,e=>by simp at e
 | (k,x)::l,ws,0,p,⟨v,t,e1,q,r⟩,e=>by
  rw[e1]
  simp at e
  subst e
  exact⟨v,rfl,q⟩
 | (k,x)::l,ws,i+1,p,⟨v,t,e1,q,r⟩,e=>by
  rw[e1]
  exact qZ (i:=i) r (by simpa using e)
theorem qE:∀ {l:List (K0×D)} {ws:List (Key×V)},fG C.cA Z l ws→l.length=ws.length
 | [],ws,h=>by rw[show ws=_ from h];rfl
 | (k,y)::l,ws,⟨w,t,e,q1,r⟩=>by rw[e,List.length_cons,List.length_cons,qE r]
theorem AZ(k:K0):aN C.cA Z (uj k) (kV (kz k)):=by cases k<;> rfl
theorem Hs{d:Addr}{u:HO}{od:Obj}{Z':Hp}{loc':List Addr}(h0:C.H0 d=some (.frz od u))(r:SR C Z' loc' s sv H):H d=some (.frz od u):=r.lk d od u h0
theorem GX{l:List (K0×D)}{d:Addr}{od:Obj}{ws:List (Key×V)}(h0:C.H0 d=some (.frz od (.dK ws)))(q:fG C.cA Z l ws):∃ G Y,WalkS C Z loc (l.map fun p=>.d (uj p.1)) (Itk d od ws) G Y:=by
 refine⟨_,_,by rw[List.length_map,qE q];exact walk_keys (d:=d) (o:=od) (kvs:=ws),fun Z' loc' s sv H g r=>Hs h0 r,fun Z' loc' s sv H i x v H' g r hx y=>?_⟩
 obtain⟨rfl,k,w,h1,rfl⟩:=y
 rw[List.getElem?_map]at hx
 obtain⟨p,h2,rfl⟩:=Option.map_eq_some_iff.mp hx
 obtain⟨v',h3,h4⟩:=qZ q h2
 rw[h1]at h3
 cases h3
 exact⟨Z',Ext.refl _ _,mQ.refl _ _,r,AZ p.1⟩
theorem walkItems{l:List (K0×D)}{d:Addr}{od:Obj}{ws:List (Key×V)}(h0:C.H0 d=some (.frz od (.dK ws)))(q:fG C.cA Z l ws):∃ G Y,WalkS C Z loc (l.map fun p=>.d (.tup [uj p.1,p.2])) (Iti d od ws) G Y:=by
 refine⟨_,_,by rw[List.length_map,qE q];exact walk_items (d:=d) (o:=od) (kvs:=ws),fun Z' loc' s sv H g r=>Hs h0 r,fun Z' loc' s sv H i x v H' g r hx y=>?_⟩
 rw[List.getElem?_map]at hx
 obtain⟨p,h2,rfl⟩:=Option.map_eq_some_iff.mp hx
 obtain⟨v',h3,h4⟩:=qZ q h2
 refine yf r y (fun u e=>?_) fun u e=>?_
 ·rw[h3]at e
  cases e
  exact AZ p.1
 ·rw[h3]at e
  cases e
  exact aN.mono g.1 _ h4
end
end Vw
namespace Vw
open PySem L2 PyProof.Rows
def Dc(x:Str):It:=⟨fun i _=>i<x.cps.size,fun i H v H'=>∃ T c,v=.ref T∧H T=none∧H'=upd H T (.tup [.int (i:Nat),.str ⟨#[c]⟩])∧x.cps[i]? =some c,fun i _=>x.cps.size≤i⟩
theorem Cf{P:Program}{w:World}{K:PySem.W.Frag}{elts:List Expr}{kk:Nat}{tpos:Pos}(x:Str)(t:Tok)(e it:Addr):
  Turn P w K (.Tuple elts kk tpos) (Dc x) [e,it] e (fun i h=>((∃ old,IsEnum h e it ((i:Nat):Int) old)∧h.IsStrIter it (strIterType x) x t i)∧e≠it∧i≤x.cps.size) where
 mem:=by simp
 obj:=fun i h st b hb=>by
  obtain⟨⟨⟨old,he⟩,⟨o,ho,hc,hd⟩⟩,_⟩:=st
  have e':b=e∨b=it:=by simpa using hb
  rcases e' with z | z
  ·rw[z];exact⟨_,he,fun v q=>nomatch q⟩
  ·rw[z];exact⟨o,ho,fun v q=>by rw[hd]at q;cases q⟩
 keep:=fun i h h' st k=>by
  obtain⟨⟨⟨old,he⟩,⟨o,ho,hc,hd⟩⟩,hne⟩:=st
  exact⟨⟨⟨old,k e (by simp) _ he⟩,⟨o,k it (by simp) _ ho,hc,hd⟩⟩,hne⟩
 item:=by
  intro X hP hw hK hc i pins s sv H E I hf st hg
  subst hP hw hK
  obtain⟨⟨⟨old,he⟩,hit⟩,hne,hle⟩:=st
  have hi:i<x.cps.size:=hg
  have hh:X.A.in1.handled=none:=by have:=I.ok.hd hc;exact this
  have D:Draws X.prog X.w X.A.in1 it [it] x.cps.size (fun i v=>∃ c u,x.cps[i]? =some c∧v=.str ⟨#[c]⟩ u) (fun i h=>h.IsStrIter it (strIterType x) x t i):=by
   unfold strIterType
   split
   ·exact Draws.strAscii hh it x t
   ·exact Draws.strWide hh it x t
  have hel:e<s.heap.objs.size:=Heap.lt_size he
  have hil:it<s.heap.objs.size:=by obtain⟨_,q,_⟩:=hit;exact Heap.lt_size q
  refine wpAny_pyNext_enum_itemD D he hit hi hne (by simpa using hne) fun y h' tk hy ho hit' hT hsz hk=>?_
  obtain⟨c,u,hcx,rfl⟩:=hy
  refine⟨_,rfl,wpAny_letOwnedTupleGo_enum (s:={ s with heap:=h',toks:=tk+1 }) ho fun h'' he' sb=>?_⟩
  have hT2:h''.get? s.heap.objs.size=some { cls:=.type "tuple",data:=.seq #[.int i tk,.str ⟨#[c]⟩ u] }:=(sb.2 _ (Nat.ne_of_gt hel)).trans hT
  have new:ObjOk X.prog X.w (upd H s.heap.objs.size (.tup [.int (i:Nat),.str ⟨#[c]⟩])) h'' s.heap.objs.size (.tup [.int (i:Nat),.str ⟨#[c]⟩]):=
   ⟨by show 2≤sizeLine;decide,[.int i tk,.str ⟨#[c]⟩ u],.cons ⟨_,rfl⟩ (.cons ⟨_,rfl⟩ .nil),⟨_,hT2,rfl,_,rfl⟩⟩
  have I1:Inv X pins sv (upd H s.heap.objs.size (.tup [.int (i:Nat),.str ⟨#[c]⟩])) { s with heap:=h'',toks:=tk+1 }:=
   I.turnedNew (ch:=[e,it]) (fun b ob hb q=>(sb.2 b (fun z=>hb (by simp[z]))).trans (hk b ob (fun z=>hb (by simp[z])) (fun z=>hb (by simp[z])) q)) hf (Nat.le_refl _) new
  refine⟨.ref s.heap.objs.size,_,I1,rfl,⟨_,c,rfl,I.hok.fresh (Nat.le_refl _),rfl,hcx⟩,⟨⟨⟨.str ⟨#[c]⟩ u,?_⟩,?_⟩,hne,hi⟩,fun b hb=>?_⟩
  ·have e1:((i+1:Nat):Int)=(i:Int)+1:=by omega
   rw[e1];exact he'
  ·obtain⟨o,q1,q2⟩:=hit'
   exact⟨o,(sb.2 it (Ne.symm hne)).trans q1,q2⟩
  ·have hb':b<s.heap.objs.size:=by
    have e':b=e∨b=it:=by simpa using hb
    rcases e' with z | z
    ·rw[z];exact hel
    ·rw[z];exact hil
   rw[upd_ne (Nat.ne_of_lt hb')]
   exact(hf b hb).1
 done:=by
  intro X hP hw hK hc i pins s sv H E I hf st hg
  subst hP hw hK
  obtain⟨⟨⟨old,he⟩,hit⟩,hne,hle⟩:=st
  have hh:X.A.in1.handled=none:=by have:=I.ok.hd hc;exact this
  have D:Draws X.prog X.w X.A.in1 it [it] x.cps.size (fun i v=>∃ c u,x.cps[i]? =some c∧v=.str ⟨#[c]⟩ u) (fun i h=>h.IsStrIter it (strIterType x) x t i):=by
   unfold strIterType
   split
   ·exact Draws.strAscii hh it x t
   ·exact Draws.strWide hh it x t
  have hi:i=x.cps.size:=Nat.le_antisymm hle hg
  obtain⟨f0,f1,f2,f3,f4,f5⟩:=hf it (by simp)
  exact wpAny_pyNext_enum_endD D he (hi▸hit) fun h' eb=>⟨rfl,I.turned (t':=s.toks) (fun b o hb q=>eb b o hb q) f0 f1 f3 f4 f5⟩
 self:=fun A i s Q E st h=>let ⟨⟨⟨_,he⟩,_⟩,_⟩:=st;wpAny_pyIter_enum he h
def KG(ta:TA):TI:=fun sv H R=>ta sv H fun vs H1=>∃ x,vs=[.str x]∧R (Dc x) H1
theorem E9{X:Cx}{e:Expr}{ta:TA}{p pos tpos:Pos}{elts:List Expr}{kk:Nat}(hg:Gl X "enumerate")(hm:X.mg "enumerate"=none)(ha:PA X [e] ta)(hs:starEach [e] X.env=[(false,eval e X.env)]):
  PI X (.Tuple elts kk tpos) (.Call (.Name "enumerate" p) [e] [] pos) (KG ta):=by
 refine⟨fun pins s sv H R I h=>?_⟩
 refine Call_ (ld_blt I hg hm boot_enumerate (PyProof.Rows.callWith_type1 (thn (ha.run pos pins s sv H _ I h) fun us s1 ⟨vs,H1,I1,r1,q1⟩=>?_) hs rfl))
 obtain⟨x,ex,q⟩:=q1
 subst ex
 cases r1 with
 | cons r rr=>
  cases rr
  obtain⟨t,rfl⟩:=r
  refine call_enumerate_str fun h' he hit hsz hk=>wpAny_pyIter_enum he ?_
  have I2:Inv X pins sv H1 { s1 with heap:=h' }:=I1.kept (t':=s1.toks) hk
  refine⟨s1.heap.objs.size+1,[s1.heap.objs.size+1,s1.heap.objs.size],_,_,H1,rfl,I2,Cf x t (s1.heap.objs.size+1) s1.heap.objs.size,⟨⟨⟨.none,he⟩,hit⟩,Nat.succ_ne_self _,Nat.zero_le _⟩,fun b hb=>?_,q⟩
  have e':b=s1.heap.objs.size+1∨b=s1.heap.objs.size:=by simpa using hb
  have hle:s1.heap.objs.size≤b:=by
   rcases e' with z | z
   ·rw[z];exact Nat.le_add_right _ _
   ·rw[z];exact Nat.le_refl _
  exact I1.fpOk hle (I1.hok.fresh hle)
section
variable{C:Cst}{Z Z':Hp}{loc loc':List Addr}{s s':State}{sv sv':L2.St}{H H':Hp}
variable{X:Cx}{e a b c tg:Expr}{es:List Expr}{pos:Pos}{f fa fb fc fo fi fv:State→Res RV}
theorem Cu{x:Str}:Walk (Dc x) x.cps.size (fun _=>True) (YPair (fun i=>some (.int (i:Nat))) (fun i=>x.cps[i]?.map fun c=>.str ⟨#[c]⟩)):=by
 refine⟨fun i _ hi q=>hi,fun _ q=>Nat.le_refl _,fun i H v H' _ q y=>?_⟩
 obtain⟨T,c,h1,h2,h3,h4⟩:=y
 exact⟨T,.int (i:Nat),.str ⟨#[c]⟩,h1,h2,h3,rfl,by simp[h4]⟩
theorem LK{t:List Nat}:∃ G Y,WalkS C Z loc (t.mapIdx fun i c=>.d (.tup [.int i,.str [c]])) (Dc ⟨t.toArray⟩) G Y:=by
 refine⟨_,_,by simpa using Cu (x:=⟨t.toArray⟩),fun _ _ _ _ _ _ _=>trivial,fun Z' loc' s sv H i x v H' g r hx y=>?_⟩
 rw[List.getElem?_mapIdx]at hx
 obtain⟨d,h1,rfl⟩:=Option.map_eq_some_iff.mp hx
 refine yf r y (fun u e=>by cases e;rfl) fun u e=>?_
 simp[h1]at e
 subst e
 rfl
theorem SR.Hi(r:SR C Z loc s sv H){d:Addr}{u:HO}{od:Obj}(hd:H d=some (.frz od u)):
  CLe C { C with H0:=upd C.H0 d (.frz od u) }∧SR { C with H0:=upd C.H0 d (.frz od u) } Z loc s sv H:=by
 refine⟨⟨rfl,rfl,rfl,fun b o w e=>?_⟩,⟨r.fr,r.zh,r.zf,fun b o w e=>?_,r.ln,r.nd,r.lh,r.cl,r.vl,r.ow,r.oi,r.ls⟩⟩
 ·show upd C.H0 d _ b=_
  by_cases hb:b=d
  ·subst hb
   rw[r.lk b o w e]at hd
   cases hd
   exact upd_same
  ·rw[upd_ne hb];exact e
 ·have e:upd C.H0 d (.frz od u) b=some (.frz o w):=e
  by_cases hb:b=d
  ·subst hb
   rw[upd_same]at e
   cases e
   exact hd
  ·rw[upd_ne hb]at e
   exact r.lk b o w e
theorem yj{k:D→State→Res (List Val)}{R:It→Hp→Prop}(h:jB C (sD f k) sv H R)(hk:∀ d s x s',k d s≠ .exc x s'):
  (∀ Q,ai C f sv H Q)∨∃ d l s1 s2,k d s1=.ok l s2∧∀ Q:VK,(∀ v H1 Z1 l1,SR C Z1 l1 s1 sv H1→aN C.cA Z1 d v→
   (∀ C' J G Y H',CLe C C'→SR C' Z1 l1 s2 sv H'→WalkS C' Z1 l1 l J G Y→R J H')→Q v H1)→ai C f sv H Q:=by
 obtain⟨Z,loc,s,r,q⟩:=h
 unfold sD at q
 cases e:ev f s with
 | stuck=>rw[e]at q;exact q.elim
 | exc x s1=>rw[e]at q;exact .inl fun Q=>ai.Fq r e q
 | ok rv s1=>
  rw[e]at q
  simp only[Res.bind]at q
  cases e1:mG rv s1 with
  | stuck=>rw[e1]at q;exact q.elim
  | exc x s2=>exact absurd e1 Je
  | ok d s2=>
   rw[e1]at q
   simp only[Res.bind]at q
   cases e2:k d s2 with
   | stuck=>rw[e2]at q;exact q.elim
   | exc x s3=>exact absurd e2 (hk _ _ _ _)
   | ok l s3=>
    rw[e2]at q
    refine .inr ⟨d,l,s2,s3,e2,fun Q h=>(ai.FP r e).imp fun v H1 ⟨Z',l',g,r1,st,rv⟩=>?_⟩
    obtain⟨Z2,g2,r2,q2⟩:=r1.mG rv e1
    exact h v H1 Z2 l' r2 q2 fun C' J G Y H' cl r' wk=>q Z2 l' H' C' J G Y cl (g.trans g2) r' wk
theorem B9{d:D}{x:Exn}:itemsOf d s≠ .exc x s':=by unfold itemsOf;split<;> simp
theorem CA{d:D}{x:Exn}:pairsOf d s≠ .exc x s':=by unfold pairsOf;split<;> simp
theorem DX{d:D}{x:Exn}:keysOf d s≠ .exc x s':=by unfold keysOf;split<;> simp
theorem Ec{d:D}{x:Exn}:gG d s≠ .exc x s':=by unfold gG;split<;> simp
theorem Gi{l:List (K0×D)}{v:V}(r:SR C Z loc s sv H)(q:aN C.cA Z (.dic l) v)(Q:VK)
  (h:∀ d od ws C' H',v=.ref d→CLe C C'→SR C' Z loc s sv H'→C'.H0 d=some (.frz od (.dK ws))→H' d=some (.frz od (.dK ws))→fG C.cA Z l ws→Q v H'):
  (∃ d u,v=.ref d∧H d=some u∧m9 u=true∧∀ od,Q v (upd H d (.frz od u)))∨Q v H:=by
 obtain⟨d,ws,rfl,hz,q⟩:=q
 rcases r.zh d _ hz with h1 | ⟨_,od,h1⟩
 ·exact .inl ⟨d,.dK ws,rfl,h1,rfl,fun od=>h d od ws _ _ rfl (r.Ha hz rfl h1 od).1 (r.Ha hz rfl h1 od).2 upd_same upd_same q⟩
 ·exact .inr (h d od ws _ _ rfl (r.Hi h1).1 (r.Hi h1).2 upd_same h1 q)
theorem fy(he:PE X e (ai C f)):PI X tg e (jB C (sD f itemsOf)):=by
 refine lU (x2 (pi_list he) (x2 (pi_tup he) (x2 (pi_str he) (pi_keys (Cy he))))) fun sv H R h=>?_
 rcases yj h fun _ _ _ _=>B9 with h | ⟨d,l,s1,s2,e1,h⟩
 ·exact .inl (h _)
 ·cases d<;> simp only[itemsOf]at e1<;> cases e1
  ·refine .inr (.inr (.inl (h _ fun v H1 Z1 l1 r q k=>?_)))
   cases q
   obtain⟨G,Y,wk⟩:=My (C:=C) (Z:=Z1) (loc:=l1)
   exact⟨_,rfl,k C _ _ _ _ (CLe.refl C) r wk⟩
  ·refine .inr (.inl (h _ fun v H1 Z1 l1 r q k=>?_))
   obtain⟨a,vs,rfl,hz,q⟩:=q
   have wk:=MH (C:=C) (loc:=l1) (K:=X.K) hz q
   exact⟨a,rfl,⟨vs,wk.g Z1 l1 _ sv H1 (Ext.refl _ _) r⟩,k C _ _ _ _ (CLe.refl C) r wk⟩
  ·refine .inl (h _ fun v H1 Z1 l1 r q k=>?_)
   obtain⟨a,vs,rfl,hz,q⟩:=q
   have wk:=Ht (C:=C) (loc:=l1) (K:=X.K) hz q
   exact⟨a,rfl,⟨vs,wk.g Z1 l1 _ sv H1 (Ext.refl _ _) r⟩,k C _ _ _ _ (CLe.refl C) r wk⟩
  ·refine .inr (.inr (.inr (h _ fun v H1 Z1 l1 r q k=>Gi r q (fun x H1=>∃ d o,x=.ref d∧((∃ kvs,H1 d=some (.frz o (.dK kvs))∧R (Itk d o kvs) H1)∨∃ kvs,H1 d=some (.frz o (.dT kvs))∧R (Itkt d o kvs) H1)) fun d od ws C' H' ev c r' h0 hd q'=>?_)))
   obtain⟨G,Y,wk⟩:=GX (C:=C') (Z:=Z1) (loc:=l1) h0 (c.ca▸q')
   exact⟨d,od,ev,.inl ⟨ws,hd,k C' _ _ _ _ c r' wk⟩⟩
section
variable{apos cpos:Pos}
theorem Lu(he:PE X e (ai C f))(hb:attributeBase e "keys" X.env (eval e X.env)=eval e X.env)(hl:(apos.endLine==cpos.line)=true):PI X tg (.Call (.Attribute e "keys" apos) [] [] cpos) (jB C (sD f keysOf)):=by
 refine lU (pi_keysM (Cy he) hb hl) fun sv H R h=>?_
 rcases yj h fun _ _ _ _=>DX with h | ⟨d,l,s1,s2,e1,h⟩
 ·exact h _
 ·cases d<;> simp only[keysOf]at e1<;> cases e1
  refine h _ fun v H1 Z1 l1 r q k=>Gi r q (fun x H1=>∃ d o kvs,x=.ref d∧H1 d=some (.frz o (.dK kvs))∧R (Itk d o kvs) H1) fun d od ws C' H' ev c r' h0 hd q'=>?_
  obtain⟨G,Y,wk⟩:=GX (C:=C') (Z:=Z1) (loc:=l1) h0 (c.ca▸q')
  exact⟨d,od,ws,ev,hd,k C' _ _ _ _ c r' wk⟩
theorem BV{elts:List Expr}{kk:Nat}{tpos:Pos}(he:PE X e (ai C f))(hb:attributeBase e "items" X.env (eval e X.env)=eval e X.env)(hl:(apos.endLine==cpos.line)=true):PI X (.Tuple elts kk tpos) (.Call (.Attribute e "items" apos) [] [] cpos) (jB C (sD f pairsOf)):=by
 refine lU (pi_items (Cy he) hb hl) fun sv H R h=>?_
 rcases yj h fun _ _ _ _=>CA with h | ⟨d,l,s1,s2,e1,h⟩
 ·exact h _
 ·cases d<;> simp only[pairsOf]at e1<;> cases e1
  refine h _ fun v H1 Z1 l1 r q k=>Gi r q (fun x H1=>∃ d o kvs,x=.ref d∧H1 d=some (.frz o (.dK kvs))∧R (Iti d o kvs) H1) fun d od ws C' H' ev c r' h0 hd q'=>?_
  obtain⟨G,Y,wk⟩:=walkItems (C:=C') (Z:=Z1) (loc:=l1) h0 (c.ca▸q')
  exact⟨d,od,ws,ev,hd,k C' _ _ _ _ c r' wk⟩
end
theorem p9{p tpos:Pos}{elts:List Expr}{kk:Nat}(he:PE X e (ai C f))(hg:Gl X "enumerate")(hm:X.mg "enumerate"=none)(hs:notStar e=true):
  PI X (.Tuple elts kk tpos) (.Call (.Name "enumerate" p) [e] [] pos) (jB C (sD f gG)):=by
 have ha:PA X [e] (tCons (ai C f) tNil):=pa_cons he pa_nil (bt hs)
 refine lU (x2 (pi_enum hg hm ha (bt hs)) (E9 hg hm ha (bt hs))) fun sv H R h=>?_
 rcases yj h fun _ _ _ _=>Ec with h | ⟨d,l,s1,s2,e1,h⟩
 ·exact .inl (h _)
 ·cases d<;> simp only[gG]at e1<;> cases e1
  ·refine .inr (h _ fun v H1 Z1 l1 r q k=>?_)
   cases q
   obtain⟨G,Y,wk⟩:=LK (C:=C) (Z:=Z1) (loc:=l1)
   exact⟨_,rfl,k C _ _ _ _ (CLe.refl C) r wk⟩
  ·refine .inl (h _ fun v H1 Z1 l1 r q k=>?_)
   obtain⟨a,vs,rfl,hz,q⟩:=q
   obtain⟨G,Y,wk⟩:=MD (C:=C) (loc:=l1) (K:=X.K) hz q
   exact⟨a,vs,rfl,(Ht (C:=C) (loc:=l1) (K:=X.K) hz q).g Z1 l1 _ sv H1 (Ext.refl _ _) r,k C _ _ _ _ (CLe.refl C) r wk⟩
def y7(C:Cst)(Z:Hp)(loc:List Addr)(sv:L2.St)(r:Res (List Val))(R:It→Hp→Prop):Prop:=
 match r with
 | .ok l s'=>∀ Z' loc' H' C' J G Y,CLe C C'→Ext Z loc Z' loc'→SR C' Z' loc' s' sv H'→WalkS C' Z' loc' l J G Y→R J H'
 | .exc x s'=>∀ Z' loc' H' c d,Ext Z loc Z' loc'→SR C Z' loc' s' sv H'→lq C Z' H' x c d→C.W c d sv H'
 | .stuck=>False
theorem y7.ext{r:Res (List Val)}{R:It→Hp→Prop}(h:y7 C Z loc sv r R)(g:Ext Z loc Z' loc'):y7 C Z' loc' sv r R:=by
 cases r with
 | stuck=>exact h
 | ok l s=>exact fun Z2 l2 H2 C' J G Y c g2=>h Z2 l2 H2 C' J G Y c (g.trans g2)
 | exc x s=>exact fun Z2 l2 H2 c d g2=>h Z2 l2 H2 c d (g.trans g2)
def lY(fs:State→Res (List RV))(k:List RV→State→Res (List Val))(s:State):Res (List Val):=(fs s).bind k
theorem K4{fs:State→Res (List RV)}{k:List RV→State→Res (List Val)}{R:It→Hp→Prop}(h:jB C (lY fs k) sv H R):
  cZ C fs sv H fun vs H1=>∃ Z loc s xs,SR C Z loc s sv H1∧i3 C Z loc s sv H1 xs vs∧y7 C Z loc sv (k xs s) R:=by
 obtain⟨Z,loc,s,r,q⟩:=h
 refine⟨Z,loc,s,r,?_⟩
 unfold lY at q
 cases e:fs s with
 | stuck=>rw[e]at q;exact q.elim
 | exc x s1=>rw[e]at q;exact q
 | ok xs s1=>
  rw[e]at q
  exact fun Z' l' H' vs g r' q'=>⟨Z',l',s1,xs,r',q',y7.ext (r:=k xs s1) q g⟩
def dvs(s:State):List RV→Option (List D)
 | []=>some []
 | r::rs=>match Vw.dv s r,dvs s rs with
  | some d,some ds=>some (d::ds)
  | _,_=>none
theorem SR.dvs(r:SR C Z loc s sv H):∀ {rs:List RV} {vs:List V} {ds:List D},i3 C Z loc s sv H rs vs→dvs s rs=some ds→bq C.cA Z ds vs
 | [],vs,ds,h,e=>by cases e;exact h
 | x::l,vs,ds,⟨v,t,e1,st,q,h⟩,e=>by
  unfold Vw.dvs at e
  split at e
  ·rename_i d ds' e2 e3
   cases e
   exact⟨v,t,e1,r.dv q e2,SR.dvs r h e3⟩
  ·cases e
def mU(xs:List RV)(s:State):Res (List Val):=
 match dvs s xs with
 | some [.int j]=>oI 0 j s
 | _=>.stuck
def Mp(xs:List RV)(s:State):Res (List Val):=
 match dvs s xs with
 | some [.int i,.int j]=>oI i j s
 | _=>.stuck
def Dm(i j c:Int)(s:State):Res (List Val):=
 if(0<c∧c<2^30)∧ -(2^61)≤i∧i<2^61∧ -(2^61)≤j∧j<2^61 then .ok ((List.range ((j-i+c- 1)/c).toNat).map fun k=>.d (.int (i+(k:Nat)*c))) s else .stuck
def uz(xs:List RV)(s:State):Res (List Val):=
 match dvs s xs with
 | some [.int i,.int j,.int c]=>Dm i j c s
 | _=>.stuck
theorem Np{lo c:Int}{n:Nat}:∃ G Y,WalkS C Z loc ((List.range n).map fun k=>.d (.int (lo+(k:Nat)*c))) (Itc lo c n) G Y:=by
 refine⟨_,_,by simpa using walk_rangeC (lo:=lo) (c:=c) (n:=n),fun _ _ _ _ _ _ _=>trivial,fun Z' loc' s sv H i x v H' g r hx y=>?_⟩
 obtain⟨rfl,y⟩:=y
 rw[List.getElem?_map]at hx
 obtain⟨j,h1,h2⟩:=Option.map_eq_some_iff.mp hx
 have h3:=List.getElem?_eq_some_iff.mp h1
 obtain⟨h4,h5⟩:=h3
 rw[List.getElem_range]at h5
 subst h5 h2
 exact⟨Z',Ext.refl _ _,mQ.refl _ _,r,y⟩
theorem LD{i j c:Int}(h:(0<c∧c<2^30)∧ -(2^61)≤i∧i<2^61∧ -(2^61)≤j∧j<2^61):RgC i j c ((j-i+c- 1)/c).toNat:=by
 obtain⟨⟨c0,c1⟩,b1,b2,b3,b4⟩:=h
 have hc:c > 0:=c0
 have key:Builtin.Range.rangeSize i j c=(((j-i+c- 1)/c).toNat:Int):=by
  unfold Builtin.Range.rangeSize
  rw[if_pos hc]
  split
  ·have e:j-i+c- 1=(j-i- 1)+1*c:=by omega
   rw[e,Int.add_mul_ediv_right _ _ (by omega)]
   have:=Int.ediv_nonneg (a:=j-i- 1) (b:=c) (by omega) (by omega)
   omega
  ·have:(j-i+c- 1)/c≤0:=by
    have:=Int.ediv_le_ediv (a:=j-i+c- 1) (b:=c- 1) (c:=c) c0 (by omega)
    have e:(c- 1)/c=0:=Int.ediv_eq_zero_of_lt (by omega) (by omega)
    omega
   omega
 refine⟨by omega,by omega,?_,key⟩
 have le:(((j-i+c- 1)/c).toNat:Int)≤(j-i).toNat+1:=by
  by_cases hl:i<j
  ·have:(j-i+c- 1)/c≤j-i:=by
    apply Int.ediv_le_of_le_mul c0
    have:(j-i- 1)*(c- 1)≥0:=Int.mul_nonneg (by omega) (by omega)
    grind
   omega
  ·have:(j-i+c- 1)/c≤0:=by
    have:=Int.ediv_le_ediv (a:=j-i+c- 1) (b:=c- 1) (c:=c) c0 (by omega)
    have e:(c- 1)/c=0:=Int.ediv_eq_zero_of_lt (by omega) (by omega)
    omega
   omega
 unfold Builtin.Range.small
 rw[key]
 simp only[Builtin.Range.rangeFitsLong,Bool.and_eq_true,Bool.or_eq_true,decide_eq_true_eq,beq_iff_eq,hc,if_true]
 have ub:(((j-i+c- 1)/c).toNat:Int)*c≤(j-i).toNat+c:=by
  have q:=Int.mul_ediv_self_le (x:=j-i+c- 1) (k:=c) (by omega)
  rcases Int.lt_or_le ((j-i+c- 1)/c) 0 with n | n
  ·have:((j-i+c- 1)/c).toNat=0:=by omega
   rw[this];omega
  ·rw[Int.toNat_of_nonneg n]
   have:(j-i+c- 1)/c*c=c*((j-i+c- 1)/c):=Int.mul_comm _ _
   omega
 refine⟨⟨⟨⟨⟨?_,?_⟩,⟨?_,?_⟩⟩,⟨?_,?_⟩⟩,⟨?_,?_⟩⟩,.inr ⟨?_,?_⟩⟩<;> omega
theorem Ju{p:Pos}{fs:State→Res (List RV)}(ha:PA X [a] (cZ C fs))(hg:Gl X "range")(hm:X.mg "range"=none)(hs:notStar a=true):
  PI X tg (.Call (.Name "range" p) [a] [] pos) (jB C (lY fs mU)):=by
 refine lU (pi_range1 hg hm ha (bt hs)) fun sv H R h=>(K4 h).imp fun vs H1 ⟨Z,loc,s,xs,r,q,h⟩=>?_
 unfold mU at h
 split at h
 ·rename_i j e
  obtain⟨v,t,rfl,hv,ht⟩:=r.dvs q e
  cases ht;cases hv
  unfold oI at h
  split at h
  ·rename_i b
   obtain⟨G,Y,wk⟩:=Mz (C:=C) (Z:=Z) (loc:=loc) (lo:=0) (n:=j.toNat)
   exact⟨j,rfl,b.2.2.1,b.2.2.2,h Z loc H1 C _ _ _ (CLe.refl C) (Ext.refl _ _) r (by simpa using wk)⟩
  ·exact h.elim
 ·exact h.elim
theorem K8{p:Pos}{fs:State→Res (List RV)}(ha:PA X [a,b,c] (cZ C fs))(hg:Gl X "range")(hm:X.mg "range"=none)(hs:[a,b,c].all notStar=true):
  PI X tg (.Call (.Name "range" p) [a,b,c] [] pos) (jB C (lY fs uz)):=by
 have hs':=hs
 simp only[List.all_cons,Bool.and_eq_true]at hs
 refine lU (pi_range3 hg hm ha (bt hs.1) (fx (by simp[hs.2]))) fun sv H R h=>(K4 h).imp fun vs H1 ⟨Z,loc,s,xs,r,q,h⟩=>?_
 unfold uz at h
 split at h
 ·rename_i i j c e
  obtain⟨v,t,rfl,hv,w,t',rfl,hw,u,t'',rfl,hu,ht⟩:=r.dvs q e
  cases ht;cases hv;cases hw;cases hu
  unfold Dm at h
  split at h
  ·rename_i b
   obtain⟨G,Y,wk⟩:=Np (C:=C) (Z:=Z) (loc:=loc) (lo:=i) (c:=c) (n:=((j-i+c- 1)/c).toNat)
   exact⟨i,j,c,_,rfl,LD b,h Z loc H1 C _ _ _ (CLe.refl C) (Ext.refl _ _) r wk⟩
  ·exact h.elim
 ·exact h.elim
end
end Vw
namespace Vw
open PySem L2 PyProof.Rows
def mT(s:State):RV→Option RV
 | .own i=>match s.sg[i]? with
  | some (some (.own o))=>some (.new o)
  | some (some (.v x))=>some (.val x)
  | _=>none
 | r=>some r
abbrev Fn:=List Val→List Ob→Res RV
def dS(n:Nat)(b:State→Res Fl):Fn:=fun args st=>
 match b ⟨args.map (fun x=>some (.v x))++List.replicate (n-args.length) none,st⟩with
 | .ok .nx s=>.ok (.val (.d .non)) ⟨[],s.st⟩
 | .ok (.ret r) s=>match mT s r with
  | some r'=>.ok r' ⟨[],s.st⟩
  | none=>.stuck
 | .ok _ _=>.stuck
 | .exc x s=>.exc x ⟨[],s.st⟩
 | .stuck=>.stuck
section
variable{C:Cst}{Z Z':Hp}{loc loc':List Addr}{s s':State}{sv sv':L2.St}{H H':Hp}
theorem SR.leave(r:SR C Z loc s sv H):SR C Z loc ⟨[],s.st⟩ [] H:=
 ⟨r.fr,r.zh,r.zf,r.lk,r.ln,r.nd,r.lh,r.cl,fun i x h=>by simp at h,fun i o h=>by simp at h,fun i j o o' a h=>by simp at h,rfl⟩
theorem SR.mT(r:SR C Z loc s sv H){rv rv':RV}{v:V}(h:bH C Z loc s sv H rv v)(e:mT s rv=some rv'):bH C Z loc ⟨[],s.st⟩ [] H rv' v:=by
 cases rv with
 | val x=>cases e;exact h
 | new o=>
  cases e
  obtain⟨a,h1,h2,h3,h4⟩:=h
  exact⟨a,h1,h2,h3,h4.z,h4.f,h4.l,fun i o h=>by simp at h⟩
 | own i=>
  dsimp only[Vw.mT]at e
  split at e
  ·rename_i o h1
   cases e
   obtain⟨a,q1,q2,q3,q4,q5,q6⟩:=r.ow i o h1
   have h:sv[i]? =some (some v):=h
   rw[q1]at h
   cases h
   exact⟨a,rfl,q2,q3,q4,q5,q6,fun i o h=>by simp at h⟩
  ·rename_i x h1
   cases e
   obtain⟨w,q1,q2⟩:=r.vl i x h1
   have h:sv[i]? =some (some v):=h
   rw[q1]at h
   cases h
   exact q2
  ·cases e
def GF(C:Cst)(Z:Hp)(loc:List Addr)(r:Res RV)(Q:VK):Prop:=
 match r with
 | .ok rv s'=>∀ Z' loc' H' v,Ext Z loc Z' loc'→SR C Z' loc' ⟨[],s'.st⟩ [] H'→bH C Z' loc' ⟨[],s'.st⟩ [] H' rv v→Q v H'
 | .exc x s'=>∀ Z' loc' H' c d,Ext Z loc Z' loc'→SR C Z' loc' ⟨[],s'.st⟩ [] H'→lq C Z' H' x c d→C.W c d [] H'
 | .stuck=>False
def cW(cA:String→Addr)(Fr H0:Hp)(E:XK):Cst:=⟨cA,Fr,H0,fun c d _ H=>E c d H⟩
def cE(cA:String→Addr)(n:Nat)(g:Fn):Sp:=fun vs H Q E=>∃ Fr H0 Z loc args st,SR (cW cA Fr H0 E) Z loc ⟨[],st⟩ [] H∧aE cA Z loc args vs∧args.length=n∧GF (cW cA Fr H0 E) Z loc (g args st) Q
theorem FF{cA:String→Addr}{l:List Val}{vs:List V}(h:aE cA Z loc l vs):l.length=vs.length:=bD (C:=cW cA (fun _=>none) (fun _=>none) fun _ _ _=>True) h
theorem BU{cA:String→Addr}{n:Nat}{g:Fn}(vs:List V)(H:Hp)(Q:VK)(E:XK)(h:cE cA n g vs H Q E):vs.length=n:=by
 obtain⟨Fr,H0,Z,loc,args,st,r,q,e,_⟩:=h
 rw[←e,FF q]
theorem SR.enter{cA:String→Addr}{Fr H0:Hp}{E:XK}{st:List Ob}{args:List Val}{vs:List V}(r:SR (cW cA Fr H0 E) Z loc ⟨[],st⟩ [] H)(q:aE cA Z loc args vs)(m:Nat):
  SR (cW cA Fr H0 E) Z loc ⟨args.map (fun x=>some (.v x))++List.replicate m none,st⟩ (vs.map some++List.replicate m none) H:=by
 have hl:=FF q
 have noOwn:∀ (i:Nat) (o:Ob),(args.map (fun x=>some (Sl.v x))++List.replicate m none)[i]? ≠some (some (.own o)):=fun i o h=>by
  by_cases hi:i<args.length
  ·rw[List.getElem?_append_left (by simpa using hi)]at h
   simp[hi]at h
  ·rw[List.getElem?_append_right (by simpa using hi)]at h
   have:=List.getElem?_eq_some_iff.mp h
   simp at this
 refine⟨r.fr,r.zh,r.zf,r.lk,r.ln,r.nd,r.lh,r.cl,fun i x h=>?_,fun i o h=>absurd h (noOwn i o),fun i j o o' a h=>absurd h (noOwn i o),by simp[hl]⟩
 by_cases hi:i<args.length
 ·have h:(args.map (fun x=>some (Sl.v x))++List.replicate m none)[i]? =some (some (.v x)):=h
  rw[List.getElem?_append_left (by simpa using hi)]at h
  simp[hi]at h
  subst h
  obtain⟨v,q1,q2⟩:=fO (C:=cW cA Fr H0 E) q (i:=i) (x:=args[i]) (by simp[hi])
  refine⟨v,?_,q2⟩
  rw[List.getElem?_append_left (by simp;omega)]
  simp[q1]
 ·have h:(args.map (fun x=>some (Sl.v x))++List.replicate m none)[i]? =some (some (.v x)):=h
  rw[List.getElem?_append_right (by simpa using hi)]at h
  have:=List.getElem?_eq_some_iff.mp h
  simp at this
end
section
variable{P:Program}{w:World}{K:PySem.W.Frag}{mg:Str→Option Value}{base:Heap}{x qual:Str}{params:Arguments}{body:List Stmt}{scope:Scope}{f:Addr}{fd:FuncData}{N ps:List Str}{cA:String→Addr}{b:State→Res Fl}
theorem w0{Fr H0 Z:Hp}{loc:List Addr}{args:List Val}{st:List Ob}{vs:List V}{H:Hp}{Q:VK}{E:XK}(r:SR (cW cA Fr H0 E) Z loc ⟨[],st⟩ [] H)(q:aE cA Z loc args vs)(hl:args.length=ps.length)
  (h:GF (cW cA Fr H0 E) Z loc (dS N.length b args st) Q) (hW:∀ c d H',E c d H'→(cW cA Fr H0 E).W c d [] H'):dh (cW cA Fr H0 E) b { nx:=fun _ H'=>Q .non H',rt:=Q } (L2.start N vs) H:=by
 have hv:=FF q
 have es:L2.start N vs=vs.map some++List.replicate (N.length-args.length) none:=by unfold L2.start;rw[hv]
 rw[es]
 refine⟨Z,loc,_,SR.enter r q (N.length-args.length),?_⟩
 unfold dS at h
 cases e:b ⟨args.map (fun x=>some (.v x))++List.replicate (N.length-args.length) none,st⟩with
 | stuck=>rw[e]at h;exact h
 | exc y s1=>rw[e]at h;exact fun Z' l' sv' H' c d g r' x'=>h Z' l' H' c d g r'.leave x'
 | ok k s1=>
  rw[e]at h
  cases k with
  | nx=>exact fun Z' l' sv' H' g r'=>h Z' l' H' .non g r'.leave rfl
  | brk=>exact False.elim h
  | cnt=>exact False.elim h
  | ret rv=>
   dsimp only at h
   split at h
   ·rename_i rv' e2
    exact fun Z' l' sv' H' v g r' q'=>h Z' l' H' v g r'.leave (r'.mT q' e2)
   ·exact h.elim
theorem fn_ok{k:Nat}(F:FunD K x qual params body scope [] [] f fd)(S:FnScope N ps scope)
  (hb:∀ (cdv:Value) (A:Around) (outer:List Env) (s:Shared) (H:Hp) (E:XK) (C:Cst),Room k (A.deeper (envOfC qual scope s.heap.objs.size f cdv))→C.cA=cA→PSs (cxOf CX0 P w K mg base N qual scope f cdv A outer s H E).nox body (dh C b)):
  FnOk P w K mg base CX0 (k+1) f fd ps (cE cA ps.length (dS N.length b)):=by
 refine F.ok S BU fun cdv A outer s H vs Q E hr h=>?_
 obtain⟨Fr,H0,Z,loc,args,st,r,q,hl,h⟩:=h
 exact⟨_,PSs.nox (hb cdv A outer s H E (cW cA Fr H0 E) hr rfl),w0 (ps:=ps) r q hl h fun _ _ _ z=>z⟩
end
open Classical in
noncomputable def b8(H Z:Hp)(loc:List Addr):Hp:=fun a=>if Z a=none∧a∉loc then H a else none
theorem gA{H Z:Hp}{loc:List Addr}{a:Addr}(h:Z a=none)(h':a∉loc):b8 H Z loc a=H a:=by unfold b8;rw[if_pos ⟨h,h'⟩]
theorem js{H Z:Hp}{loc:List Addr}{a:Addr}{o:HO}(h:b8 H Z loc a=some o):H a=some o∧Z a=none∧a∉loc:=by
 unfold b8 at h
 split at h
 ·rename_i q;exact⟨h,q.1,q.2⟩
 ·cases h
section
variable{C:Cst}{Z Z':Hp}{loc loc':List Addr}{s s':State}{sv sv':L2.St}{H H':Hp}
variable{X:Cx}{e a b c o:Expr}{es:List Expr}{p pos apos:Pos}{f fa fb fc fo fi fv:State→Res RV}
theorem SR.entry(r:SR C Z loc s sv H)(E:XK):SR (cW C.cA (b8 H Z loc) C.H0 E) Z loc ⟨[],s.st⟩ [] H:=by
 refine⟨fun a o h=>(js h).1,r.zh,fun a o h=>?_,r.lk,r.ln,r.nd,fun a h=>⟨(r.lh a h).1,?_⟩,r.cl,fun i x h=>by simp at h,fun i o h=>by simp at h,fun i j o o' a h=>by simp at h,rfl⟩
 ·cases e:b8 H Z loc a with
  | none=>exact e
  | some u=>rw[(js e).2.1]at h;cases h
 ·cases e:b8 H Z loc a with
  | none=>exact e
  | some u=>exact absurd h (js e).2.2
theorem SR.gJ(r:SR C Z loc s sv H){a:Addr}{o:HO}(h:C.Fr a=some o):Z a=none∧a∉loc:=by
 refine⟨?_,fun z=>?_⟩
 ·cases e:Z a with
  | none=>rfl
  | some u=>rw[r.zf a u e]at h;cases h
 ·rw[(r.lh a z).2]at h;cases h
theorem SR.back(r:SR C Z loc s sv H){E:XK}{st:List Ob}(g:Ext Z loc Z' loc')(r':SR (cW C.cA (b8 H Z loc) C.H0 E) Z' loc' ⟨[],st⟩ [] H'):SR C Z' loc' ⟨s.sg,st⟩ sv H':=by
 have z0:∀ {a:Addr},Z a=none→a∉loc→H a≠none→Z' a=none∧a∉loc'∧H' a=H a:=fun {a} h1 h2 h3=>by
  cases e:H a with
  | none=>exact absurd e h3
  | some u=>
   have f:=(gA (H:=H) h1 h2).trans e
   obtain⟨q1,q2⟩:=r'.gJ (a:=a) f
   exact⟨q1,q2,r'.fr a u f⟩
 have fz:∀ {a:Addr} {o:HO},C.Fr a=some o→Z' a=none∧a∉loc'∧H' a=some o:=fun {a o} h=>by
  obtain⟨q1,q2⟩:=r.gJ h
  have e:=r.fr a o h
  obtain⟨q3,q4,q5⟩:=z0 q1 q2 (by rw[e];simp)
  exact⟨q3,q4,q5.trans e⟩
 refine⟨fun a o h=>(fz h).2.2,r'.zh,fun a o h=>?_,r'.lk,r'.ln,r'.nd,fun a h=>⟨(r'.lh a h).1,?_⟩,r'.cl,fun i x h=>?_,fun i o h=>?_,r.oi,r.ls⟩
 ·cases e:C.Fr a with
  | none=>rfl
  | some u=>rw[(fz e).1]at h;cases h
 ·cases e:C.Fr a with
  | none=>rfl
  | some u=>exact absurd h (fz e).2.1
 ·obtain⟨v,q1,q2⟩:=r.vl i x h
  exact⟨v,q1,bo.mono g x q2⟩
 ·obtain⟨a,q1,q2,q3,q4,q5,q6⟩:=r.ow i o h
  obtain⟨w1,w2,w3⟩:=z0 q4 q6 (dP q2 q3)
  exact⟨a,q1,q2,(q3.at w3).mono g (Same.refl _),w1,q5,w2⟩
theorem bH.back(r:SR C Z loc s sv H){E:XK}{st:List Ob}{rv:RV}{v:V}(r':SR (cW C.cA (b8 H Z loc) C.H0 E) Z' loc' ⟨[],st⟩ [] H')(q:bH (cW C.cA (b8 H Z loc) C.H0 E) Z' loc' ⟨[],st⟩ [] H' rv v):bH C Z' loc' ⟨s.sg,st⟩ sv H' rv v:=by
 cases rv with
 | val x=>exact q
 | own i=>exact absurd (show([]:L2.St)[i]? =some (some v)from q) (by simp)
 | new o=>
  obtain⟨a,h1,h2,h3,h4⟩:=q
  refine⟨a,h1,h2,h3,h4.z,?_,h4.l,fun i o h e=>?_⟩
  ·cases e:C.Fr a with
   | none=>rfl
   | some u=>
    obtain⟨q1,q2⟩:=r.gJ e
    have:=(gA (H:=H) q1 q2).trans (r.fr a u e)
    have f:=h4.f
    rw[show(cW C.cA (b8 H Z loc) C.H0 E).Fr a=_ from this]at f
    cases f
  ·obtain⟨b,q1,q2,q3,q4,q5,q6⟩:=r.ow i o h
   rw[e]at q1
   cases q1
   have f:=h4.f
   rw[show(cW C.cA (b8 H Z loc) C.H0 E).Fr a=_ from gA q4 q6]at f
   exact dP q2 q3 f
def bF(g:Fn)(args:List Val)(s:State):Res RV:=
 match g args s.st with
 | .ok r s2=>.ok r ⟨s.sg,s2.st⟩
 | _=>.stuck
def cw(n:Nat)(fs:State→Res (List RV))(g:Fn)(s:State):Res RV:=(fs s).bind fun rs s=>(aI rs s).bind fun args s=>if args.length=n then bF g args s else .stuck
theorem cZ.at{fs:State→Res (List RV)}{k:List RV→State→Res RV}{Q:VK}(h:ai C (fun s=>(fs s).bind k) sv H Q):
  cZ C fs sv H fun vs H1=>∃ Z loc s xs,SR C Z loc s sv H1∧i3 C Z loc s sv H1 xs vs∧EPost C Z loc sv (k xs s) Q:=by
 obtain⟨Z,loc,s,r,q⟩:=h
 refine⟨Z,loc,s,r,?_⟩
 cases e:fs s with
 | stuck=>simp only[e,Res.bind]at q;exact q
 | exc x s1=>simp only[e,Res.bind]at q;exact q
 | ok xs s1=>
  simp only[e,Res.bind]at q
  exact fun Z' l' H' vs g r' q'=>⟨Z',l',s1,xs,r',q',EPost.ext q g⟩
theorem Hw{g:Fn}{n:Nat}{args:List Val}{vs:List V}{Q:VK}(r:SR C Z loc s sv H)(q:aE C.cA Z loc args vs)(hn:args.length=n)(h:EPost C Z loc sv (bF g args s) Q):cE C.cA n g vs H Q E0:=by
 refine⟨b8 H Z loc,C.H0,Z,loc,args,s.st,r.entry _,q,hn,?_⟩
 unfold bF at h
 cases e:g args s.st with
 | stuck=>rw[e]at h;exact h
 | exc x s1=>rw[e]at h;exact h.elim
 | ok rv s1=>
  rw[e]at h
  exact fun Z' l' H' v g r' q'=>h Z' l' H' v g (r.back g r') (bH.back r r' q')
theorem LZ{CX:CXT}{k:Nat}{fA:Addr}{fd:FuncData}{ps:List Str}{x:Str}{g:Fn}{fs:State→Res (List RV)}(F:FnOk X.prog X.w X.K X.mg X.base CX k fA fd ps (cE C.cA ps.length g))(hr:Room k X.A)(hg:Gl X x)(hm:X.mg x=some (.ref fA))(hk:PySem.W.keepIn X.K (.ref fA)=true)
  (hb:Binds X.K fd ps []) (hx:Passes CX X E0) (ha:PA X (e::es) (cZ C fs)) (hdb:(x==("__debug__":Str))=false) (hs:(e::es).all notStar=true):
  PE X (.Call (.Name x p) (e::es) [] pos) (ai C (cw ps.length fs g)):=by
 have hs':=hs
 simp only[List.all_cons,Bool.and_eq_true]at hs
 refine aV (pe_call F hr hg hm hk hb .nil hx ha hdb (bt hs.1) (fx hs.2)) fun sv H Q h=>(cZ.at h).imp fun vs H1 ⟨Z,loc,s,xs,r,q,h⟩=>?_
 rw[List.append_nil]
 cases e1:aI xs s with
 | stuck=>rw[e1]at h;exact h.elim
 | exc x s1=>exact absurd e1 fV
 | ok args s1=>
  rw[e1]at h
  simp only[Res.bind]at h
  obtain⟨Z1,g1,r1,q1⟩:=r.aI q e1
  split at h
  ·rename_i hn
   exact Hw r1 q1 hn (EPost.ext h g1)
  ·exact h.elim
end
end Vw
namespace Vw
open PySem L2 PyProof.Rows
section
variable{C:Cst}{Z Z' Zc:Hp}{loc loc':List Addr}{s s':State}{sv sv':L2.St}{H H':Hp}
variable{X:Cx}{e a b c o:Expr}{es:List Expr}{p pos apos:Pos}{f fa fb fc fo fi fv:State→Res RV}
structure GoodZ (Z H Zc:Hp):Prop where
 up:Same Z Zc
 at_:∀ (a:Addr) (o:HO),Zc a=some o→Z a=some o∨(H a=some o∧m9 o=false)
theorem GoodZ.refl:GoodZ Z H Z:=⟨Same.refl _,fun a o h=>.inl h⟩
theorem GoodZ.rz(g:GoodZ Z H Zc)(r:SR C Z loc s sv H){a:Addr}{o:HO}(h:Zc a=some o):Rz H a o:=(g.at_ a o h).elim (r.zh a o) fun q=>.inl q.1
theorem SR.look(r:SR C Z loc s sv H)(g:GoodZ Z H Zc)(E:XK):SR (cW C.cA (b8 H Zc []) C.H0 E) Zc [] ⟨[],[]⟩ [] H:=by
 refine⟨fun a o h=>(js h).1,fun a o h=>g.rz r h,fun a o h=>?_,r.lk,rfl,List.nodup_nil,fun a h=>by simp at h,fun n a o h=>by simp at h,fun i x h=>by simp at h,fun i o h=>by simp at h,fun i j o o' a h=>by simp at h,rfl⟩
 cases e:b8 H Zc [] a with
 | none=>exact e
 | some u=>rw[(js e).2.1]at h;cases h
theorem SR.looked(r:SR C Z loc s sv H)(g:GoodZ Z H Zc){E:XK}{st:List Ob}{Zd:Hp}{ld:List Addr}(x:Ext Zc [] Zd ld)(r':SR (cW C.cA (b8 H Zc []) C.H0 E) Zd ld ⟨[],st⟩ [] H'):SR C Z loc s sv H':=by
 have st:∀ {a:Addr} {u:HO},H a=some u→Z a=none→H' a=H a:=fun {a u} h hz=>by
  cases ez:Zc a with
  | none=>rw[h];exact r'.fr a u ((gA ez (by simp)).trans h)
  | some w=>
   rcases g.at_ a w ez with q | ⟨q1,q2⟩
   ·rw[hz]at q;cases q
   ·rw[q1];exact(r'.zh a w (x.1 a w ez)).at q2
 have ne:∀ {a:Addr},H a≠none→H' a≠none:=fun {a} h=>by
  cases eh:H a with
  | none=>exact absurd eh h
  | some u=>
   cases ez:Z a with
   | none=>rw[st eh ez];exact h
   | some w=>exact rH (r'.zh a w (x.1 a w (g.up a w ez)))
 refine⟨fun a o h=>?_,fun a o h=>r'.zh a o (x.1 a o (g.up a o h)),r.zf,r'.lk,r.ln,r.nd,fun a h=>⟨ne (r.lh a h).1,(r.lh a h).2⟩,fun n a o h1 h2 h3=>?_,r.vl,fun i o h=>?_,r.oi,r.ls⟩
 ·have q:=r.fr a o h
  rw[st q (r.gJ h).1];exact q
 ·obtain⟨q1,q2⟩:=r.cl n a o h1 h2 h3
  cases eh:H a with
  | none=>exact absurd eh (dP h3 q1)
  | some u=>exact⟨q1.at (st eh q2),q2⟩
 ·obtain⟨a,q1,q2,q3,q4,q5⟩:=r.ow i o h
  cases eh:H a with
  | none=>exact absurd eh (dP q2 q3)
  | some u=>exact⟨a,q1,q2,q3.at (st eh q4),q4,q5⟩
end
end Vw
namespace Vw
open PySem L2 PyProof.Rows
def cY(g:Slots):List Nat→Slots
 | []=>g
 | v::vs=>(cY g vs).set v none
def bh(vs:List Nat)(s:State):State:={ s with sg:=cY s.sg vs }
def j2(vs:List Nat)(t:Tg)(ft:State→Res Bool)(fe:State→Res RV):List Val→List Val→State→Res (List Val)
 | [],acc,s=>.ok acc s
 | x::l,acc,s=>match dA t x (bh vs s)with
  | none=>.stuck
  | some s=>match ft s with
   | .ok true s=>match fe s with
    | .ok rv s=>match bL rv s with
     | .ok y s=>if acc.length<sizeLine then j2 vs t ft fe l (acc++[y]) (bh vs s)else .stuck
     | _=>.stuck
    | _=>.stuck
   | .ok false s=>j2 vs t ft fe l acc (bh vs s)
   | _=>.stuck
def pF(acc:List Val)(s:State):Res RV:=.ok (.new (.lst acc)) s
def fq(vs:List Nat)(t:Tg)(src:State→Res (List Val))(ft:State→Res Bool)(fe:State→Res RV)(s:State):Res RV:=(src s).bind fun l s=>(j2 vs t ft fe l [] (bh vs s)).bind pF
section
variable{C:Cst}{Z Z' Zc:Hp}{loc loc':List Addr}{s s':State}{sv sv':L2.St}{H H':Hp}
variable{X:Cx}{elt tg iter:Expr}{ifs:List Expr}{scope:Scope}{own:List (Str×Nat)}{p pos:Pos}{f fa fb fc fo fi fv fe:State→Res RV}{ft:State→Res Bool}
theorem SR.wipe(r:SR C Z loc s sv H):∀ vs:List Nat,SR C Z loc (bh vs s) (L2.wipe sv vs) H
 | []=>r
 | v::vs=>(SR.wipe r vs).unset v none
theorem uM{g:Slots}{i:Nat}{x:Sl}:∀ {vs:List Nat},(cY g vs)[i]? =some (some x)→g[i]? =some (some x)
 | [],h=>h
 | v::vs,h=>by
  unfold cY at h
  rcases ck h with⟨_,q⟩ | ⟨_,q⟩
  ·cases q
  ·exact uM q
theorem SR.EL{vs:List Nat}(r:SR C Z loc s (L2.wipe sv vs) H):SR C Z loc s sv H:=by
 refine⟨r.fr,r.zh,r.zf,r.lk,r.ln,r.nd,r.lh,r.cl,fun i x h=>?_,fun i o h=>?_,fun i j o o' a h h' h1 h2=>?_,by rw[r.ls,wipe_length]⟩
 ·obtain⟨v,q1,q2⟩:=r.vl i x h
  exact⟨v,(wipe_some q1).1,q2⟩
 ·obtain⟨a,q1,q2⟩:=r.ow i o h
  exact⟨a,(wipe_some q1).1,q2⟩
 ·obtain⟨b,q1,_⟩:=r.ow i o h
  obtain⟨c,q2,_⟩:=r.ow j o' h'
  have e1:=(wipe_some q1).1
  have e2:=(wipe_some q2).1
  rw[h1]at e1
  rw[h2]at e2
  cases e1;cases e2
  exact r.oi i j o o' _ h h' q1 q2
theorem Free.wipe{D:Addr}(f:Free C Z loc s sv D)(vs:List Nat):Free C Z loc (bh vs s) (L2.wipe sv vs) D:=
 ⟨f.z,f.f,f.l,fun i o h e=>f.o i o (uM h) (wipe_some e).1⟩
theorem vM{i:Nat}:∀ {vs:List Nat},i∈vs→i<sv.length→(L2.wipe sv vs)[i]? =some none
 | [],h,_=>by simp at h
 | v::vs,h,hl=>by
  unfold L2.wipe
  by_cases hv:v=i
  ·subst hv
   exact List.getElem?_set_self (by rw[wipe_length];exact hl)
  ·rw[List.getElem?_set_ne hv]
   exact vM (by simpa [Ne.symm hv]using h) hl
theorem sZ{vs l:List Nat}(h:Off l (L2.wipe sv vs) sv')(hl:∀ i∈l,i∈vs):L2.wipe sv' vs=L2.wipe sv vs:=by
 have len:sv'.length=sv.length:=by rw[h.1,wipe_length]
 refine List.ext_getElem? fun i=>?_
 by_cases hi:i<sv.length
 ·by_cases hv:i∈vs
  ·rw[vM hv hi,vM hv (by rw[len];exact hi)]
  ·rw[wipe_out hv,h.2 i fun z=>hv (hl i z)]
 ·rw[List.getElem?_eq_none (by rw[wipe_length,len];omega),List.getElem?_eq_none (by rw[wipe_length];omega)]
theorem nz(vs:List Nat):L2.wipe (L2.wipe sv vs) vs=L2.wipe sv vs:=sZ (l:=vs) ⟨rfl,fun _ _=>rfl⟩ fun _ h=>h
def jG(C:Cst)(D:Addr)(o:HO):Cst:=⟨C.cA,upd C.Fr D o,C.H0,fun _ _ _ _=>False⟩
theorem SR.hold(r:SR C Z loc s sv H){D:Addr}{o:HO}(h:H D=some o)(f:Free C Z loc s sv D):SR (jG C D o) Z loc s sv H:=by
 have ne:∀ {a:Addr},a≠D→(jG C D o).Fr a=C.Fr a:=fun {a} h=>upd_ne h
 refine⟨fun a u q=>?_,r.zh,fun a u q=>?_,r.lk,r.ln,r.nd,fun a q=>⟨(r.lh a q).1,?_⟩,r.cl,r.vl,fun i ob q=>?_,r.oi,r.ls⟩
 ·by_cases ha:a=D
  ·subst ha
   have q:upd C.Fr a o a=some u:=q
   rw[upd_same]at q
   cases q
   exact h
  ·rw[ne ha]at q;exact r.fr a u q
 ·have ha:a≠D:=fun z=>by rw[z,f.z]at q;cases q
  rw[ne ha];exact r.zf a u q
 ·have ha:a≠D:=fun z=>f.l (z▸q)
  rw[ne ha];exact(r.lh a q).2
 ·obtain⟨a,q1,q2,q3,q4,q5,q6⟩:=r.ow i ob q
  have ha:a≠D:=fun z=>f.o i ob q (z▸q1)
  exact⟨a,q1,q2,q3,q4,(ne ha).trans q5,q6⟩
theorem SR.held{D:Addr}{o:HO}(f:C.Fr D=none)(r:SR (jG C D o) Z loc s sv H):SR C Z loc s sv H∧H D=some o∧Free C Z loc s sv D:=by
 have ne:∀ {a:Addr},(jG C D o).Fr a=none→a≠D∧C.Fr a=none:=fun {a} h=>by
  have ha:a≠D:=fun z=>by
   subst z
   have h:upd C.Fr a o a=none:=h
   rw[upd_same]at h
   cases h
  exact⟨ha,(upd_ne ha).symm.trans h⟩
 have hD:(jG C D o).Fr D=some o:=upd_same
 refine⟨⟨fun a u q=>?_,r.zh,fun a u q=>(ne (r.zf a u q)).2,r.lk,r.ln,r.nd,fun a q=>⟨(r.lh a q).1,(ne (r.lh a q).2).2⟩,r.cl,r.vl,fun i ob q=>?_,r.oi,r.ls⟩,r.fr D o hD,⟨?_,f,fun z=>?_,fun i ob q e=>?_⟩⟩
 ·have ha:a≠D:=fun z=>by rw[z,f]at q;cases q
  exact r.fr a u ((upd_ne ha).trans q)
 ·obtain⟨a,q1,q2,q3,q4,q5,q6⟩:=r.ow i ob q
  exact⟨a,q1,q2,q3,q4,(ne q5).2,q6⟩
 ·cases e:Z D with
  | none=>rfl
  | some u=>rw[r.zf D u e]at hD;cases hD
 ·rw[(r.lh D z).2]at hD;cases hD
 ·obtain⟨a,q1,q2,q3,q4,q5,q6⟩:=r.ow i ob q
  rw[e]at q1
  cases q1
  exact(ne q5).1 rfl
theorem SR.GB(r:SR C Z loc s sv H){D:Addr}{o u:HO}(h:H D=some o)(nf:∀ x w,o≠ .frz x w)(f:Free C Z loc s sv D):SR C Z loc s sv (upd H D u):=by
 refine⟨fun a w q=>?_,fun a w q=>?_,r.zf,fun a w v q=>?_,r.ln,r.nd,fun a q=>⟨?_,(r.lh a q).2⟩,fun n a ob h1 h2 h3=>?_,r.vl,fun i ob q=>?_,r.oi,r.ls⟩
 ·have ha:a≠D:=fun z=>by rw[z,f.f]at q;cases q
  rw[upd_ne ha];exact r.fr a w q
 ·have ha:a≠D:=fun z=>by rw[z,f.z]at q;cases q
  unfold Rz
  rw[upd_ne ha];exact r.zh a w q
 ·have q':=r.lk a w v q
  have ha:a≠D:=fun z=>by
   rw[z,h]at q'
   cases q'
   exact nf _ _ rfl
  rw[upd_ne ha];exact q'
 ·have ha:a≠D:=fun z=>f.l (z▸q)
  rw[upd_ne ha];exact(r.lh a q).1
 ·have ha:a≠D:=fun z=>f.l (z▸List.mem_of_getElem? h1)
  obtain⟨q1,q2⟩:=r.cl n a ob h1 h2 h3
  exact⟨q1.at (upd_ne ha),q2⟩
 ·obtain⟨a,q1,q2,q3,q4,q5,q6⟩:=r.ow i ob q
  have ha:a≠D:=fun z=>f.o i ob q (z▸q1)
  exact⟨a,q1,q2,q3.at (upd_ne ha),q4,q5,q6⟩
theorem Free.NZ{D:Addr}{o:HO}(f:Free C Z loc s sv D)(h:H D=some o)(g:mQ H Z H' Z'):Free C Z' loc s sv D:=⟨(g.2 D (by rw[h];simp)).trans f.z,f.f,f.l,f.o⟩
def bZ(s:State):Res Bool:=.ok true s
theorem ir:PTs X [] (dV C bZ):=⟨fun pins s sv H Q I ⟨Z,loc,s0,r,q⟩=>pts_nil.run pins s sv H Q I (q Z loc H (Ext.refl _ _) r)⟩
theorem Kf{c:Expr}(h:PT X c (dV C ft)):PTs X [c] (dV C ft):=pts_one h
abbrev yN(C:Cst)(t:Tg):TG:=fun v sv H Q=>∃ C',C'.cA=C.cA∧jI C' t v sv H Q
abbrev An(C:Cst)(ft:State→Res Bool):TT:=fun sv H Q=>∃ C',C'.cA=C.cA∧dV C' ft sv H Q
abbrev zM(C:Cst)(fe:State→Res RV):TE:=fun sv H Q=>∃ C',C'.cA=C.cA∧ai C' fe sv H Q
theorem Dt{t:Tg}{src:State→Res (List Val)}{vs:List Nat}{Q:VK}(hv:∀ i∈sJ t,i∈vs)(h:ai C (fq vs t src ft fe) sv H Q):tLc (jB C src) (yN C t) (An C ft) (zM C fe) vs sv H Q:=by
 obtain⟨Z,loc,s,r,q⟩:=h
 refine⟨Z,loc,s,r,?_⟩
 unfold fq at q
 cases e:src s with
 | stuck=>rw[e]at q;exact q
 | exc x s1=>rw[e]at q;exact q
 | ok l s1=>
  rw[e]at q
  simp only[Res.ae]at q
  intro Z1 l1 H1 C' J G Y cle g1 r1 wk D hD
  have hf:=((r1.wipe vs).free hD)
  have cF:C'.Fr D=none:=hf.f
  refine lc_it (g:=yN C t) (tt:=An C ft) (te:=zM C fe) (vs:=vs) (σ:=sv) wk.w (fun i H=>∃ Z2 l2 s2 acc xs,Ext Z1 l1 Z2 l2∧SR C' Z2 l2 s2 (L2.wipe sv vs) H∧H D=some (.lst xs)∧Free C' Z2 l2 s2 (L2.wipe sv vs) D∧aE C'.cA Z2 l2 acc xs∧EPost C Z2 l2 sv ((j2 vs t ft fe (l.drop i) acc s2).bind pF) Q)
   ⟨Z1,l1,bh vs s1,[],[],Ext.refl _ _,(r1.wipe vs).grow (bC hD),upd_same,hf,rfl,EPost.ext q g1⟩ (fun i H _ ⟨Z2,l2,s2,acc,xs,g2,r2,_⟩=>wk.g Z2 l2 s2 _ H g2 r2) ?_ ?_
  ·rintro i v H2 H3 hi ⟨Z2,l2,s2,acc,xs,g2,r2,hx,f2,ra,q2⟩ hy
   rw[List.drop_eq_getElem_cons hi]at q2
   obtain⟨Z3,g3,gr,r3,q3⟩:=wk.y Z2 l2 s2 _ H2 i l[i] v H3 g2 r2 (by simp[hi]) hy
   have f3:=(f2.NZ hx gr).wipe vs
   rw[nz]at f3
   have r3':=r3.wipe vs
   rw[nz]at r3'
   have hx3:=gr.1 D _ hx
   refine⟨jG C' D (.lst xs),cle.ca,Z3,l2,bh vs s2,l[i],r3'.hold hx3 f3,q3,?_⟩
   unfold j2 at q2
   cases e1:dA t l[i] (bh vs s2)with
   | none=>rw[e1]at q2;exact q2
   | some s3=>
    rw[e1]at q2
    intro sv4 off r4
    have we:=sZ off hv
    refine⟨we,jG C' D (.lst xs),cle.ca,Z3,l2,s3,r4,?_⟩
    dsimp only at q2
    have q2':=EPost.ext q2 g3
    cases e2:ft s3 with
    | stuck=>rw[e2]at q2';exact q2'
    | exc x s4=>rw[e2]at q2';exact False.elim q2'
    | ok b s4=>
     rw[e2]at q2'
     intro Z5 l5 H5 g5 r5
     cases b with
     | false=>
      obtain⟨r5',hx5,f5⟩:=r5.held cF
      have r6:=r5'.wipe vs
      have f6:=f5.wipe vs
      rw[we]at r6 f6
      exact⟨Z5,l5,bh vs s4,acc,xs,g2.trans (g3.trans g5),r6,hx5,f6,aE.mono (g3.trans g5) _ ra,EPost.ext q2' g5⟩
     | true=>
      refine⟨jG C' D (.lst xs),cle.ca,Z5,l5,s4,r5,?_⟩
      dsimp only at q2'
      cases e3:fe s4 with
      | stuck=>rw[e3]at q2';exact q2'
      | exc x s5=>rw[e3]at q2';exact False.elim q2'
      | ok rv s5=>
       rw[e3]at q2'
       dsimp only at q2'
       intro Z6 l6 H6 v6 g6 r6 q6
       cases e4:bL rv s5 with
       | stuck=>rw[e4]at q2';exact False.elim q2'
       | exc x s6=>rw[e4]at q2';exact False.elim q2'
       | ok y s6=>
        rw[e4]at q2'
        dsimp only at q2'
        obtain⟨Z7,g7,r7,q7⟩:=r6.bL q6 e4
        obtain⟨r8,hx8,f8⟩:=r7.held cF
        have gg:=g3.trans (g5.trans (g6.trans g7))
        have ra':=aE.mono gg _ ra
        split at q2'
        ·rename_i hlt
         refine⟨xs,hx8,by rw[←bD ra];exact hlt,?_⟩
         have r9:=(r8.GB (u:=.lst (xs++[v6])) hx8 (fun _ _ z=>nomatch z) f8).wipe vs
         have f9:=f8.wipe vs
         rw[we]at r9 f9
         exact⟨Z7,l6,bh vs s6,acc++[y],xs++[v6],g2.trans gg,r9,upd_same,f9,kO ra' ⟨v6,[],rfl,q7,rfl⟩,EPost.ext q2' (g5.trans (g6.trans g7))⟩
        ·exact False.elim q2'
  ·rintro H2 ⟨Z2,l2,s2,acc,xs,g2,r2,hx,f2,ra,q2⟩
   rw[List.drop_length]at q2
   refine q2 Z2 l2 H2 (.ref D) (Ext.refl _ _) (SR.le cle r2).EL ⟨D,rfl,by simp,⟨xs,hx,by rw[←cle.ca];exact ra⟩,f2.z,by rw[←cle.fr];exact f2.f,f2.l,fun i o h e=>?_⟩
   obtain⟨b,q1,_⟩:=r2.ow i o h
   have e1:=(wipe_some q1).1
   rw[e]at e1
   cases e1
   exact f2.o i o h q1
theorem F8{i:Nat}{D:Ends}(hi:i<sv.length)(h:dh C (aR i f) D sv H):ai C f sv H fun v H1=>D.nx (sv.set i (some v)) H1:=by
 obtain⟨Z,loc,s,r,q⟩:=h
 refine(ai.rq r q).imp fun v H1 ⟨Z1,l1,s1,y,g1,r1,q1,h1⟩=>?_
 unfold qX at h1
 split at h1
 ·rename_i s2 e2
  obtain⟨Z2,g2,r2⟩:=r1.nR hi q1 e2
  exact(h1.ext g2).nx r2
 ·exact h1.elim
structure Blk (X:Cx) (C:Cst) (scope:Scope) (tg elt:Expr) (ifs:List Expr) (t:Tg) (ft:State→Res Bool) (fe:State→Res RV):Prop where
 go:∀ (s:Shared) (H:Hp) (D:Addr) (cl:List (Str×Addr)) (fp:List Addr) (C':Cst),C'.cA=C.cA→
  PG (X.blk s H scope (compEnvC scope cl D X.env) fp) tg (jI C' t)∧PTs (X.blk s H scope (compEnvC scope cl D X.env) fp) ifs (dV C' ft)∧PE (X.blk s H scope (compEnvC scope cl D X.env) fp) elt (ai C' fe)
theorem OI{t:Tg}{src:State→Res (List Val)}(hc:X.calm=true)(hN:X.N.Nodup)(hi:PI X tg iter (jB C src))(ok:BlkOk X.N X.env.scope scope own)(hb:Blk X C scope tg elt ifs t ft fe)(hs:cb iter=true)(hv:∀ i∈sJ t,i∈own.map (·.2)):
  PE X (.ListComp elt [⟨tg,iter,ifs,0⟩] scope pos) (ai C (fq (own.map (·.2)) t src ft fe)):=
 aV (pe_lc (g:=yN C t) (tt:=An C ft) (te:=zM C fe) hc hN hi ok
  (fun s H D cl fp=>⟨fun pins s0 sv H0 v u Q I r ⟨C',c,q⟩=>(hb.go s H D cl fp C' c).1.run pins s0 sv H0 v u Q I r q⟩)
  (fun s H D cl fp=>⟨fun pins s0 sv H0 Q I ⟨C',c,q⟩=>(hb.go s H D cl fp C' c).2.1.run pins s0 sv H0 Q I q⟩)
  (fun s H D cl fp=>⟨fun pins s0 sv H0 Q I ⟨C',c,q⟩=>(hb.go s H D cl fp C' c).2.2.run pins s0 sv H0 Q I q⟩) (fold_ok hs)) fun sv H Q h=>Dt hv h
end
end Vw
namespace Vw
open PySem L2 PyProof.Rows
def di(fs:State→Res (List RV))(b:List RV→State→Res RV)(s:State):Res RV:=(fs s).bind b
def fX(T:String)(fo:State→Res RV)(fs:State→Res (List RV))(b:RV→List RV→State→Res RV)(ty:State→RV→Bool)(s:State):Res RV:=
 (ev fo s).bind fun o s=>if ty s o then(fs s).bind fun rs s=>b o rs s else .stuck
def oP(s:State)(r:RV):Bool:=match dv s r with
 | some (.str _)=>true
 | _=>false
def cf(s:State)(r:RV):Bool:=(lv s r).isSome
def intsOf:List Val→Option (List Int)
 | []=>some []
 | .d (.int i)::r=>(intsOf r).map (i:: ·)
 | _=>none
def nP:List Val→Option (List Bool)
 | []=>some []
 | .d (.bl i)::r=>(nP r).map (i:: ·)
 | _=>none
def strsOf:List Val→Option (List (List Nat))
 | []=>some []
 | .d (.str i)::r=>(strsOf r).map (i:: ·)
 | _=>none
def sq(s:State)(r:RV):Option (List Val):=
 match lv s r with
 | some l=>some l
 | none=>tv s r
def j8(rs:List RV)(s:State):Res RV:=
 match rs with
 | [x]=>match dv s x with
  | some (.str t)=>if t.length≤sizeLine then aF (.int t.length) s else .stuck
  | _=>match sq s x with
   | some l=>aF (.int l.length) s
   | none=>.stuck
 | _=>.stuck
def lM(rs:List RV)(s:State):Res RV:=
 match rs with
 | [x]=>match sq s x with
  | some l=>.ok (.new (.lst l)) s
  | none=>.stuck
 | _=>.stuck
def yD(rs:List RV)(s:State):Res RV:=
 match rs with
 | [x]=>match dv s x with
  | some (.int i)=>aF (.int (if i<0 then-i else i)) s
  | _=>.stuck
 | _=>.stuck
def NA(rs:List RV)(s:State):Res RV:=
 match rs with
 | [x,y]=>match dv s x,dv s y with
  | some (.int i),some (.int j)=>aF (.int (if j > i then j else i)) s
  | _,_=>.stuck
 | _=>.stuck
def yb(rs:List RV)(s:State):Res RV:=
 match rs with
 | [x,y]=>match dv s x,dv s y with
  | some (.int i),some (.int j)=>aF (.int (if j<i then j else i)) s
  | _,_=>.stuck
 | _=>.stuck
def Li:List Int→Int
 | []=>0
 | x::r=>r.foldl max x
def MN(rs:List RV)(s:State):Res RV:=
 match rs with
 | [x]=>match (lv s x).bind intsOf with
  | some (n::ns)=>aF (.int (Li (n::ns))) s
  | _=>.stuck
 | _=>.stuck
def CO(rs:List RV)(s:State):Res RV:=
 match rs with
 | [x]=>match (lv s x).bind nP with
  | some ns=>aF (.bl (ns.all id)) s
  | _=>.stuck
 | _=>.stuck
def bAppend(o:RV)(rs:List RV)(s:State):Res RV:=
 match rs with
 | [x]=>(bL x s).bind fun y s=>match ob s o with
  | some (.lst l)=>if l.length<sizeLine then .ok (.val (.d .non)) (wr o (.lst (l++[y])) s)else .stuck
  | _=>.stuck
 | _=>.stuck
def KP(o:RV)(rs:List RV)(s:State):Res RV:=
 match rs with
 | []=>match ob s o with
  | some (.lst l)=>match l[l.length- 1]? with
   | some y=>.ok (.val y) (wr o (.lst l.dropLast) s)
   | none=>.stuck
  | _=>.stuck
 | _=>.stuck
def n8(o:RV)(rs:List RV)(s:State):Res RV:=
 match rs with
 | []=>match ob s o with
  | some (.lst _)=>.ok (.val (.d .non)) (wr o (.lst []) s)
  | _=>.stuck
 | _=>.stuck
section
variable{C:Cst}{Z Z' Zc:Hp}{loc loc':List Addr}{s s':State}{sv sv':L2.St}{H H':Hp}
variable{X:Cx}{e a b c o:Expr}{es:List Expr}{p pos apos:Pos}{f fa fb fc fo fi fv:State→Res RV}{fs:State→Res (List RV)}
def lj(C:Cst)(b:List RV→State→Res RV)(r:List V→Hp→VK→Prop):Prop:=∀ (Z:Hp) (loc:List Addr) (s:State) (sv:L2.St) (H:Hp) (rs:List RV) (vs:List V) (Q:VK),SR C Z loc s sv H→i3 C Z loc s sv H rs vs→EPost C Z loc sv (b rs s) Q→r vs H Q
def MtS(C:Cst)(b:RV→List RV→State→Res RV)(r:V→List V→Hp→VK→Prop):Prop:=∀ (Z:Hp) (loc:List Addr) (s:State) (sv:L2.St) (H:Hp) (o:RV) (v:V) (rs:List RV) (vs:List V) (Q:VK),SR C Z loc s sv H→bH C Z loc s sv H o v→i3 C Z loc s sv H rs vs→EPost C Z loc sv (b o rs s) Q→r v vs H Q
def EI(C:Cst)(T:String)(ty:State→RV→Bool):Prop:=∀ (K:PySem.W.Frag) (Z:Hp) (loc:List Addr) (s:State) (sv:L2.St) (H:Hp) (o:RV) (v:V),SR C Z loc s sv H→bH C Z loc s sv H o v→ty s o=true→tyV K T v H
theorem lC{id:String}{x:Str}{r:List V→Hp→VK→Prop}{bf:List RV→State→Res RV}(hc:CallR X (.builtin id) r)(hS:lj C bf r)(hg:Gl X x)(hm:X.mg x=none)(hv:bootBuiltins x=some (.builtin id))(ha:PA X (e::es) (cZ C fs))(hs:(e::es).all notStar=true)(hn:x≠"__name__")(hdb:(x==("__debug__":Str))=false):
  PE X (.Call (.Name x p) (e::es) [] pos) (ai C (di fs bf)):=by
 have hs':=hs
 simp only[List.all_cons,Bool.and_eq_true]at hs
 exact aV (pe_callB hc hg hm hv ha hn hdb (bt hs.1) (fx hs.2)) fun sv H Q h=>(cZ.at h).imp fun vs H1 ⟨Z,loc,s,xs,r,q,h⟩=>hS Z loc s sv H1 xs vs Q r q h
theorem rk{T:String}{x:Str}{r:List V→Hp→VK→Prop}{bf:List RV→State→Res RV}(hc:CallR X (.type T) r)(hS:lj C bf r)(hg:Gl X x)(hm:X.mg x=none)(hv:bootBuiltins x=some (.type T))(ha:PA X (e::es) (cZ C fs))(hs:(e::es).all notStar=true)(hn:x≠"__name__")(hdb:(x==("__debug__":Str))=false):
  PE X (.Call (.Name x p) (e::es) [] pos) (ai C (di fs bf)):=by
 have hs':=hs
 simp only[List.all_cons,Bool.and_eq_true]at hs
 exact aV (pe_callTy hc hg hm hv ha hn hdb (bt hs.1) (fx hs.2)) fun sv H Q h=>(cZ.at h).imp fun vs H1 ⟨Z,loc,s,xs,r,q,h⟩=>hS Z loc s sv H1 xs vs Q r q h
theorem GH{T:String}{r:V→List V→Hp→VK→Prop}{bf:RV→List RV→State→Res RV}{ty:State→RV→Bool}{Q:VK}(K:PySem.W.Frag)(hS:MtS C bf r)(hT:EI C T ty)(h:ai C (fX T fo fs bf ty) sv H Q):
  ai C fo sv H fun x H1=>tyV K T x H1∧cZ C fs sv H1 fun xs H2=>r x xs H2 Q:=by
 obtain⟨Z,loc,s,r,q⟩:=h
 refine(ai.iZ r q).imp fun v H1 ⟨Z1,l1,s1,y,g1,r1,st1,q1,h1⟩=>?_
 split at h1
 ·rename_i ht
  refine⟨hT K Z1 l1 s1 sv H1 y v r1 q1 ht,?_⟩
  refine⟨Z1,l1,s1,r1,?_⟩
  cases e:fs s1 with
  | stuck=>simp only[e,Res.bind]at h1;exact h1
  | exc x s2=>simp only[e,Res.bind]at h1;exact h1
  | ok xs s2=>
   simp only[e,Res.bind]at h1
   exact fun Z' l' H' vs g r' q'=>hS Z' l' s2 sv H' y v xs vs Q r' (bH.mono g st1 q1) q' (EPost.ext h1 g)
 ·exact h1.elim
theorem jk{T id:String}{name:Str}{r:V→List V→Hp→VK→Prop}{bf:RV→List RV→State→Res RV}{ty:State→RV→Bool}(pa:PlainAttrs T)(slot:Slot T name id)(hty:typeOf (.builtin id)=pure (.type "method_descriptor"))(hm:MtR X id r)(hS:MtS C bf r)(hT:EI C T ty)
  (ho:PE X o (ai C fo)) (ha:PA X (e::es) (cZ C fs)) (hb:Cg o=true) (hs:(e::es).all notStar=true) (hl:(e::es).length<20) (hline:(apos.endLine==pos.line)=true):
  PE X (.Call (.Attribute o name apos) (e::es) [] pos) (ai C (fX T fo fs bf ty)):=by
 have hs':=hs
 simp only[List.all_cons,Bool.and_eq_true]at hs'
 exact aV (pe_bm pa slot hty hm ho ha (df hb) (gb hs hl) hline (bt hs'.1) (fx hs'.2)) fun sv H Q h=>GH X.K hS hT h
theorem CQ{T id:String}{name:Str}{r:V→List V→Hp→VK→Prop}{bf:RV→List RV→State→Res RV}{ty:State→RV→Bool}(pa:PlainAttrs T)(slot:Slot T name id)(hty:typeOf (.builtin id)=pure (.type "method_descriptor"))(hm:MtR X id r)(hS:MtS C bf r)(hT:EI C T ty)
  (ho:PE X o (ai C fo)) (hb:Cg o=true) (hline:(apos.endLine==pos.line)=true):
  PE X (.Call (.Attribute o name apos) [] [] pos) (ai C (fX T fo (aq []) bf ty)):=by
 refine aV (pe_bm0 pa slot hty hm ho (df hb) hline) fun sv H Q h=>(GH X.K hS hT h).imp fun v H1 ⟨h1,Z,loc,s,r,q⟩=>⟨h1,q Z loc H1 [] (Ext.refl _ _) r rfl⟩
theorem SR.sq(r:SR C Z loc s sv H){K:PySem.W.Frag}{rv:RV}{v:V}{l:List Val}(h:bH C Z loc s sv H rv v)(e:Vw.sq s rv=some l):∃ a xs,v=.ref a∧(SqL K H a xs∨SqT K H a xs)∧aE C.cA Z loc l xs:=by
 unfold Vw.sq at e
 split at e
 ·rename_i l' e1
  cases e
  obtain⟨a,xs,h1,h2,h3⟩:=r.lv h e1
  exact⟨a,xs,h1,.inl (.inl h2),h3⟩
 ·obtain⟨a,xs,h1,h2,h3⟩:=r.tv h e
  exact⟨a,xs,h1,.inr (.inl (.inl h2)),h3⟩
theorem xQ:∀ {l:List Val} {ns:List Bool} {xs:List V},nP l=some ns→aE C.cA Z loc l xs→xs=ns.map V.bl
 | [],ns,xs,e,h=>by cases e;exact h
 | .d (.bl i)::r,ns,xs,e,⟨v,t,e1,q,h⟩=>by
  unfold nP at e
  obtain⟨m,e2,rfl⟩:=Option.map_eq_some_iff.mp e
  rw[e1,xQ e2 h,show v=_ from q]
  rfl
 | .d .non::r,ns,xs,e,h=>by cases e
 | .d (.int _)::r,ns,xs,e,h=>by cases e
 | .d (.str _)::r,ns,xs,e,h=>by cases e
 | .d (.tup _)::r,ns,xs,e,h=>by cases e
 | .d (.lst _)::r,ns,xs,e,h=>by cases e
 | .d (.dic _)::r,ns,xs,e,h=>by cases e
 | .d (.dit _)::r,ns,xs,e,h=>by cases e
 | .d (.ins _ _)::r,ns,xs,e,h=>by cases e
 | .r _::r,ns,xs,e,h=>by cases e
 | .tp _::r,ns,xs,e,h=>by cases e
theorem SR.bls(r:SR C Z loc s sv H)(K:PySem.W.Frag){rv:RV}{v:V}{ns:List Bool}(h:bH C Z loc s sv H rv v)(e:(Vw.lv s rv).bind nP=some ns):∃ a,v=.ref a∧SqL K H a (ns.map V.bl):=by
 obtain⟨l,e1,e2⟩:=Option.bind_eq_some_iff.mp e
 obtain⟨a,xs,h1,h2,h3⟩:=r.lv h e1
 rw[xQ e2 h3]at h2
 exact⟨a,h1,.inl h2⟩
theorem oq(K:PySem.W.Frag):lj C j8 (fun xs H Q=>∃ x n,xs=[x]∧LenV K x H n∧Q (.int n) H):=by
 intro Z loc s sv H rs vs Q r q h
 unfold j8 at h
 split at h
 ·rename_i x
  obtain⟨v,t,rfl,st,q1,q2⟩:=q
  cases q2
  split at h
  ·rename_i t e
   have q3:v=.str ⟨t.toArray⟩:=r.dv q1 e
   subst q3
   split at h
   ·rename_i hl
    exact⟨_,t.length,rfl,⟨by simpa [Str.length]using hl,by simp[Str.length]⟩,h.aF r rfl⟩
   ·exact h.elim
  ·split at h
   ·rename_i l e
    obtain⟨a,xs,rfl,h1,h2⟩:=r.sq (K:=K) q1 e
    refine⟨_,l.length,rfl,?_,h.aF r rfl⟩
    have el:=bD h2
    exact h1.elim (fun z=>.inl ⟨xs,z,el⟩) fun z=>.inr ⟨xs,z,el⟩
   ·exact h.elim
 ·exact h.elim
theorem sU(K:PySem.W.Frag):lj C lM (fun xs H Q=>∃ p ys,xs=[.ref p]∧(SqL K H p ys∨SqT K H p ys)∧∀ l,H l=none→Q (.ref l) (upd H l (.lst ys))):=by
 intro Z loc s sv H rs vs Q r q h
 unfold lM at h
 split at h
 ·rename_i x
  obtain⟨v,t,rfl,st,q1,q2⟩:=q
  cases q2
  split at h
  ·rename_i l e
   obtain⟨a,xs,rfl,h1,h2⟩:=r.sq (K:=K) q1 e
   exact⟨a,xs,rfl,h1,fun p np=>h.new r np (by simp) ⟨xs,upd_same,h2⟩⟩
  ·exact h.elim
 ·exact h.elim
theorem D7(r:SR C Z loc s sv H){x:RV}{vs:List V}{d:D}(q:i3 C Z loc s sv H [x] vs)(e:dv s x=some d):∃ v,vs=[v]∧aN C.cA Z d v:=by
 obtain⟨v,t,rfl,st,q1,q2⟩:=q
 cases q2
 exact⟨v,rfl,r.dv q1 e⟩
theorem QF(r:SR C Z loc s sv H){x y:RV}{vs:List V}{d d':D}(q:i3 C Z loc s sv H [x,y] vs)(e:dv s x=some d)(e':dv s y=some d'):∃ v w,vs=[v,w]∧aN C.cA Z d v∧aN C.cA Z d' w:=by
 obtain⟨v,t,rfl,st,q1,w,t',rfl,st',q1',q2⟩:=q
 cases q2
 exact⟨v,w,rfl,r.dv q1 e,r.dv q1' e'⟩
theorem Jq:lj C yD (fun xs H Q=>∃ i,xs=[.int i]∧Q (.int (if i<0 then-i else i)) H):=by
 intro Z loc s sv H rs vs Q r q h
 unfold yD at h
 split at h
 ·split at h
  ·rename_i i e
   obtain⟨v,rfl,rfl⟩:=D7 r q e
   exact⟨i,rfl,h.aF r rfl⟩
  ·exact h.elim
 ·exact h.elim
theorem E7:lj C yb (fun xs H Q=>∃ i j,xs=[.int i,.int j]∧Q (.int (if j<i then j else i)) H):=by
 intro Z loc s sv H rs vs Q r q h
 unfold yb at h
 split at h
 ·split at h
  ·rename_i i j e e'
   obtain⟨v,w,rfl,rfl,rfl⟩:=QF r q e e'
   exact⟨i,j,rfl,h.aF r rfl⟩
  ·exact h.elim
 ·exact h.elim
theorem Jg(K:PySem.W.Frag):lj C CO (rAll K):=by
 intro Z loc s sv H rs vs Q r q h
 unfold CO at h
 split at h
 ·obtain⟨v,t,rfl,st,q1,q2⟩:=q
  cases q2
  split at h
  ·rename_i ns e
   obtain⟨a,rfl,h1⟩:=r.bls K q1 e
   exact⟨a,ns,rfl,h1,h.aF r rfl⟩
  ·exact h.elim
 ·exact h.elim
theorem fW:EI C "list" cf:=by
 intro K Z loc s sv H o v r q h
 unfold cf at h
 obtain⟨l,e⟩:=Option.isSome_iff_exists.mp h
 obtain⟨a,xs,rfl,h1,h2⟩:=r.lv q e
 exact .inl ⟨rfl,xs,.inl h1⟩
theorem tT:EI C "str" oP:=by
 intro K Z loc s sv H o v r q h
 unfold oP at h
 split at h
 ·rename_i t e
  have q3:v=.str ⟨t.toArray⟩:=r.dv q e
  subst q3
  exact rfl
 ·cases h
theorem SR.JZ(r:SR C Z loc s sv H){rv:RV}{v:V}{l l':List Val}(h:bH C Z loc s sv H rv v)(e:Vw.ob s rv=some (.lst l)):∃ a xs,v=.ref a∧H a=some (.lst xs)∧aE C.cA Z loc l xs∧∀ ys,aE C.cA Z loc l' ys→SR C Z loc (wr rv (.lst l') s) sv (upd H a (.lst ys)):=by
 obtain⟨a,h1,_,xs,h3,h4⟩:=r.ob h e
 exact⟨a,xs,h1,h3,h4,fun ys q=>r.write h e h1 (by simp) (fun x w z=>by rw[h3]at z;cases z) ⟨ys,upd_same,q⟩⟩
theorem dG:MtS C bAppend rAppend:=by
 intro Z loc s sv H o v rs vs Q r q qs h
 unfold bAppend at h
 split at h
 ·rename_i x
  obtain⟨w,t,rfl,st,q1,q2⟩:=qs
  cases q2
  cases e:bL x s with
  | stuck=>rw[e]at h;exact h.elim
  | exc x s1=>exact absurd e zT
  | ok y s1=>
   rw[e]at h
   simp only[Res.bind]at h
   obtain⟨Z1,g1,r1,q1'⟩:=r.bL q1 e
   split at h
   ·rename_i l e2
    split at h
    ·rename_i hl
     have h:=h
     have qo:bH C Z1 loc s1 sv H o v:=by
      cases o with
      | val x=>exact bo.mono g1 x q
      | own i=>exact q
      | new o=>unfold ob at e2;simp[fj]at e2
     obtain⟨a,xs,rfl,h1,h2,h3⟩:=r1.JZ (l':=l++[y]) qo e2
     exact⟨a,xs,w,rfl,rfl,h1,by rw[←bD h2];exact hl,h Z1 loc _ .non g1 (h3 _ (kO h2 ⟨w,[],rfl,q1',rfl⟩)) rfl⟩
    ·exact h.elim
   ·exact h.elim
 ·exact h.elim
theorem xr:MtS C n8 rClear:=by
 intro Z loc s sv H o v rs vs Q r q qs h
 unfold n8 at h
 split at h
 ·cases qs
  split at h
  ·rename_i l e2
   obtain⟨a,xs,rfl,h1,h2,h3⟩:=r.JZ (l':=[]) q e2
   exact⟨a,xs,rfl,rfl,h1,h.aF (h3 [] rfl) rfl⟩
  ·exact h.elim
 ·exact h.elim
end
end Vw
namespace Vw
open PySem L2 PyProof.Rows
def sS(x:String):List Nat:=(Str.ofString x).cps.toList
def gi(fs:List (State→Res RV))(s:State):Res RV:=(aq fs s).bind qW
def cu(fs:List (State→Res RV))(s:State):Res RV:=(aq fs s).bind Ai
def tj(f:State→Res RV)(s:State):Res RV:=(ev f s).bind Ax
section
variable{C:Cst}{X:Cx}{e:Expr}{es:List Expr}{pos:Pos}{f:State→Res RV}
theorem aM{x:String}{j:Nat}:PE X (.Constant (.str (Str.ofString x)) j pos) (ai C (fD (.str (sS x)))):=rG pe_str fun _=>by
 show V.str _=V.str _
 simp[sS]
theorem hM{k:Nat}{fs:List (State→Res RV)}(h:PA X es (cZ C (aq fs))):PE X (.Tuple es k pos) (ai C (gi fs)):=MX h
theorem cT{fs:List (State→Res RV)}(h:PA X es (cZ C (aq fs))):PE X (.List es pos) (ai C (cu fs)):=MC h
theorem yk(h:PE X e (ai C f)):PE X (.UnaryOp .USub e pos) (ai C (tj f)):=M6 h
section
variable{C:Cst}{X:Cx}{e a b c:Expr}{es:List Expr}{p pos:Pos}{f fa fb fc:State→Res RV}
theorem eG(ha:PE X a (ai C fa))(hb:PE X b (ai C fb)):PE X (.BinOp a .Add b pos) (ai C (aw fa fb (binop .add))):=rN .add ha hb
theorem K9{i:Nat}{x:Str}(hN:X.N.Nodup)(hi:X.N[i]? =some x)(hx:Loc X.env.scope x)(hf:X.fn x=true∨X.env.scope.names.lookup x=some .local)(h:PE X e (ai C f)):PS X (.AugAssign (.Name x p) .Add e pos) (dh C (pk i .add f)):=Mn .add hN hi hx hf h
theorem G0(ha:PE X a (ai C fa))(hb:PE X b (ai C fb)):PE X (.BinOp a .Sub b pos) (ai C (aw fa fb (binop .sub))):=rN .sub ha hb
theorem ya(ha:PE X a (ai C fa))(hb:PE X b (ai C fb)):PE X (.BinOp a .Mult b pos) (ai C (aw fa fb (binop .mul))):=rN .mul ha hb
theorem n4(ha:PE X a (ai C fa))(hb:PE X b (ai C fb)):PE X (.BinOp a .FloorDiv b pos) (ai C (aw fa fb (binop .fdiv))):=rN .fdiv ha hb
theorem jU(ha:PE X a (ai C fa))(hb:PE X b (ai C fb)):PE X (.BinOp a .Mod b pos) (ai C (aw fa fb (binop .mod))):=rN .mod ha hb
theorem Ce(ha:PE X a (ai C fa))(hb:PE X b (ai C fb)):PE X (.BinOp a .Pow b pos) (ai C (aw fa fb (binop .pow))):=rN .pow ha hb
theorem JJ(hu:X.A.units+64<cLine)(ha:PE X a (ai C fa))(hb:PE X b (ai C fb))(hm:cb b=true):PE X (.Compare a [.Eq] [b] pos) (ai C (aw fa fb (aS .eq))):=GZ hu .eq ha hb hm
theorem GI(hu:X.A.units+64<cLine)(ha:PE X a (ai C fa))(hb:PE X b (ai C fb))(hm:cb b=true):PT X (.Compare a [.Eq] [b] pos) (dV C (b9 (aw fa fb (aS .eq)))):=n0 hu .eq ha hb hm
theorem iS(hu:X.A.units+64<cLine)(ha:PE X a (ai C fa))(hb:PE X b (ai C fb))(hm:cb b=true):PT X (.Compare a [.NotEq] [b] pos) (dV C (b9 (aw fa fb (aS .ne)))):=n0 hu .ne ha hb hm
theorem Cb(hu:X.A.units+64<cLine)(ha:PE X a (ai C fa))(hb:PE X b (ai C fb))(hm:cb b=true):PT X (.Compare a [.LtE] [b] pos) (dV C (b9 (aw fa fb (aS .le)))):=n0 hu .le ha hb hm
theorem Nb(hu:X.A.units+64<cLine)(ha:PE X a (ai C fa))(hb:PE X b (ai C fb))(hm:cb b=true):PT X (.Compare a [.Gt] [b] pos) (dV C (b9 (aw fa fb (aS .gt)))):=n0 hu .gt ha hb hm
theorem NB(hu:X.A.units+64<cLine)(ha:PE X a (ai C fa))(hb:PE X b (ai C fb))(hm:cb b=true):PT X (.Compare a [.GtE] [b] pos) (dV C (b9 (aw fa fb (aS .ge)))):=n0 hu .ge ha hb hm
theorem Ll(hu:X.A.units+64<cLine)(ha:PE X a (ai C fa))(hb:PE X b (ai C fb))(hm:cb b=true):PE X (.Compare a [.In] [b] pos) (ai C (aw fa fb (aS .isin))):=GZ hu .isin ha hb hm
theorem n5(hu:X.A.units+64<cLine)(ha:PE X a (ai C fa))(hb:PE X b (ai C fb))(hm:cb b=true):PT X (.Compare a [.In] [b] pos) (dV C (b9 (aw fa fb (aS .isin)))):=n0 hu .isin ha hb hm
theorem Fh(hu:X.A.units+64<cLine)(ha:PE X a (ai C fa))(hb:PE X b (ai C fb))(hc:PE X c (ai C fc))(hm:cb c=true):PE X (.Compare a [.Lt,.LtE] [b,c] pos) (ai C (Et fa fb fc (aS .lt) (aS .le))):=HW hu .lt .le ha hb hc hm
theorem x_call{CX:CXT}{k n:Nat}{fA:Addr}{fd:FuncData}{ps:List Str}{x:Str}{g:Fn}{fs:State→Res (List RV)}{cA:String→Addr}(hC:C.cA=cA)(F:FnOk X.prog X.w X.K X.mg X.base CX k fA fd ps (cE cA n g))(hr:Room k X.A)(hg:Gl X x)(hm:X.mg x=some (.ref fA))(hk:PySem.W.keepIn X.K (.ref fA)=true)
  (hb:Binds X.K fd ps []) (hx:Passes CX X E0) (hn:ps.length=n) (ha:PA X (e::es) (cZ C fs)) (hdb:(x==("__debug__":Str))=false) (hs:(e::es).all notStar=true):
  PE X (.Call (.Name x p) (e::es) [] pos) (ai C (cw n fs g)):=by
 subst hn hC
 exact LZ F hr hg hm hk hb hx ha hdb hs
section
variable{elt tg iter:Expr}{ifs:List Expr}{scope:Scope}{cA:String→Addr}{fe:State→Res RV}{ft:State→Res Bool}
theorem nU{t:Tg}{src:State→Res (List Val)}(hC:C.cA=cA)(own:List (Str×Nat)){vs:List Nat}(hvs:own.map (·.2)=vs)(hc:X.calm=true)(hN:X.N.Nodup)(hi:PI X tg iter (jB C src))(ok:blkC X.N X.env.scope scope own=true)
  (hb:∀ (s:Shared) (H:Hp) (D:Addr) (cl:List (Str×Addr)) (fp:List Addr) (C':Cst),C'.cA=cA→PG (X.blk s H scope (compEnvC scope cl D X.env) fp) tg (jI C' t)∧PTs (X.blk s H scope (compEnvC scope cl D X.env) fp) ifs (dV C' ft)∧PE (X.blk s H scope (compEnvC scope cl D X.env) fp) elt (ai C' fe))
  (hs:cb iter=true) (hv:∀ i∈sJ t,i∈vs):PE X (.ListComp elt [⟨tg,iter,ifs,0⟩] scope pos) (ai C (fq vs t src ft fe)):=by
 subst hvs
 exact OI hc hN hi (blkOk_by ok) ⟨fun s H D cl fp C' h=>hb s H D cl fp C' (h.trans hC)⟩ hs hv
end
theorem gX{P:Program}{w:World}{K:PySem.W.Frag}{mg:Str→Option Value}{base:Heap}{x qual:Str}{params:Arguments}{body:List Stmt}{scope:Scope}{f:Addr}{fd:FuncData}{N ps:List Str}{cA:String→Addr}{b:State→Res Fl}{k n m:Nat}
  (F:FunD K x qual params body scope [] [] f fd) (S:FnScope N ps scope) (hn:ps.length=n) (hm:N.length=m)
  (hb:∀ (cdv:Value) (A:Around) (outer:List Env) (s:Shared) (H:Hp) (E:XK) (C:Cst),Room k (A.deeper (envOfC qual scope s.heap.objs.size f cdv))→C.cA=cA→PSs (cxOf CX0 P w K mg base N qual scope f cdv A outer s H E).nox body (dh C b)):
  FnOk P w K mg base CX0 (k+1) f fd ps (cE cA n (dS m b)):=by
 subst hn hm
 exact fn_ok F S hb
end
end
theorem qG:bootBuiltins "len"=some (.builtin "len"):=by decide+kernel
theorem vV:bootBuiltins "list"=some (.type "list"):=by decide+kernel
theorem JS:bootBuiltins "abs"=some (.builtin "abs"):=by decide+kernel
theorem JH:bootBuiltins "min"=some (.builtin "min"):=by decide+kernel
theorem KU:bootBuiltins "all"=some (.builtin "all"):=by decide+kernel
theorem Lm:bootBuiltins "int"=some (.type "int"):=by decide+kernel
theorem DY:bootBuiltins "sorted"=some (.builtin "sorted"):=by decide+kernel
theorem Iq:bootBuiltins "dict"=some (.type "dict"):=by decide+kernel
theorem xZ:bootBuiltins "isinstance"=some (.builtin "isinstance"):=by decide+kernel
theorem I8:bootBuiltins "bool"=some (.type "bool"):=by decide+kernel
end Vw
namespace Vw
open PySem L2 PyProof.Rows
def rO(K:PySem.W.Frag):Bool:=K.all fun p=>match p.2.cls with
 | .type c=> !(decide (c="list"))
 | _=>true
theorem Fc{K:PySem.W.Frag}(h:rO K=true){a:Addr}{o:Obj}(e:K.lookup a=some o):o.cls≠ .type "list":=fun z=>by
 have hm:∃ p∈K,p.2=o:=by
  clear h
  induction K with
  | nil=>cases e
  | cons p r ih=>
   obtain⟨b,x⟩:=p
   rw[List.lookup_cons]at e
   split at e
   ·cases e
    exact⟨_,List.mem_cons_self,rfl⟩
   ·obtain⟨p,hp,q⟩:=ih e
    exact⟨p,List.mem_cons_of_mem _ hp,q⟩
 obtain⟨p,hp,rfl⟩:=hm
 have:=List.all_eq_true.mp h p hp
 rw[z]at this
 simp at this
def Ga(ns:List Int):Val:=.d (.lst (ns.map .int))
theorem Dy{cA:String→Addr}{K:PySem.W.Frag}{g:Fn}{H:Hp}{a:Addr}{ns:List Int}(nl:rO K=true)(hS:SqL K H a (ns.map V.int))(hg:∃ s,g [Ga ns] []=.ok (.val (.d (.bl true))) s):
  cE cA 1 g [.ref a] H (fun v _=>v=.bl true) E0:=by
 obtain⟨s',hg⟩:=hg
 have hr:∃ u,H a=some u∧(u=.lst (ns.map V.int)∨∃ o,u=.frz o (.lst (ns.map V.int))):=by
  rcases hS with h | ⟨o,its,n,h1,h2,_⟩
  ·rcases h with h | ⟨o,h⟩
   ·exact⟨_,h,.inl rfl⟩
   ·exact⟨_,h,.inr ⟨o,rfl⟩⟩
  ·exact absurd h2 (Fc nl h1)
 obtain⟨u,hu,hu2⟩:=hr
 have rep:∀ (ns:List Int) (Z:Hp),bq cA Z (ns.map .int) (ns.map V.int):=fun ns Z=>by
  induction ns with
  | nil=>rfl
  | cons n r ih=>exact⟨_,_,rfl,rfl,ih⟩
 refine⟨fun _=>none,fun _=>none,upd (fun _=>none) a u,[],[Ga ns],[],⟨fun b o h=>(by cases h),fun b o h=>?_,fun b o h=>rfl,fun b o w h=>(by cases h),rfl,List.nodup_nil,fun b h=>by simp at h,fun n b o h=>by simp at h,fun i x h=>by simp at h,fun i o h=>by simp at h,fun i j o o' b h=>by simp at h,rfl⟩,⟨.ref a,[],rfl,⟨a,ns.map V.int,rfl,?_,rep ns _⟩,rfl⟩,rfl,?_⟩
 ·by_cases hb:b=a
  ·subst hb
   rw[upd_same]at h
   cases h
   exact .inl hu
  ·rw[upd_ne hb]at h
   cases h
 ·rcases hu2 with e | ⟨o,e⟩
  ·exact .inl (by rw[upd_same,e])
  ·exact .inr ⟨o,by rw[upd_same,e]⟩
 ·rw[hg]
  exact fun Z' l' H' v _ _ q=>q
end Vw
namespace Vw
open PySem L2 PyProof.Rows
def Gq(sg:Slots)(r:Res RV):Res RV:=
 match r with
 | .ok r s2=>.ok r ⟨sg,s2.st⟩
 | _=>.stuck
def o7(r:Res Fl)(k:State→Res Fl):Res Fl:=
 match r with
 | .ok .nx s=>k s
 | t=>t
def tm(r:Res Fl)(k:State→Res Fl):Res Fl:=
 match r with
 | .ok .nx s=>k s
 | .ok .cnt s=>k s
 | .ok .brk s=>.ok .nx s
 | r=>r
@[simp] theorem zP(sg:Slots)(r:RV)(s:State):Gq sg (.ok r s)=.ok r ⟨sg,s.st⟩:=id rfl
@[simp] theorem rS(s:State)(k:State→Res Fl):o7 (.ok .nx s) k=k s:=id rfl
@[simp] theorem EU(r:RV)(s:State)(k:State→Res Fl):o7 (.ok (.ret r) s) k=.ok (.ret r) s:=id rfl
@[simp] theorem Ow(s:State)(k:State→Res Fl):o7 (.ok .brk s) k=.ok .brk s:=id rfl
@[simp] theorem Ov(s:State)(k:State→Res Fl):o7 (.ok .cnt s) k=.ok .cnt s:=id rfl
@[simp] theorem zp(x:Exn)(s:State)(k:State→Res Fl):o7 (.exc x s) k=.exc x s:=id rfl
@[simp] theorem Pd(k:State→Res Fl):o7 .stuck k=.stuck:=id rfl
@[simp] theorem BF(s:State)(k:State→Res Fl):tm (.ok .nx s) k=k s:=id rfl
@[simp] theorem zJ(s:State)(k:State→Res Fl):tm (.ok .cnt s) k=k s:=id rfl
@[simp] theorem OL(s:State)(k:State→Res Fl):tm (.ok .brk s) k=.ok .nx s:=id rfl
@[simp] theorem N4(r:RV)(s:State)(k:State→Res Fl):tm (.ok (.ret r) s) k=.ok (.ret r) s:=id rfl
@[simp] theorem Oh(x:Exn)(s:State)(k:State→Res Fl):tm (.exc x s) k=.exc x s:=id rfl
@[simp] theorem Pf(k:State→Res Fl):tm .stuck k=.stuck:=id rfl
def F5(i j:Int):Bool:=decide (i.natAbs.log2+j.natAbs.log2<1000000)
def wq(j:Int):Bool:=decide (0<j∧j.natAbs.log2<9000)
section
variable(sg:Slots)(st:List Ob)(s s':State)(i n:Nat)(d d':D)(x y:Val)(o:Ob)(f g h fa fb fc:State→Res RV)(fs:List (State→Res RV))(ft:State→Res Bool)(sa sb:State→Res Fl)(ss:List (State→Res Fl))(r r':RV)(rs:List RV)
@[simp] theorem J8:fj s (.val x)=.val x:=id rfl
@[simp] theorem Qh:fj s (.new o)=.new o:=id rfl
@[simp] theorem ue:fj ⟨sg,st⟩ (.own i)=(match sg[i]? with | some (some (.v x))=>.val x | _=>.own i):=id rfl
@[simp] theorem qi:dv s (.val (.d d))=some d:=id rfl
@[simp] theorem Hy:dv s (.val (.r n))=none:=id rfl
@[simp] theorem Cm:dv ⟨sg,st⟩ (.own i)=(match sg[i]? with | some (some (.v (.d x)))=>some x | _=>none):=by
 unfold dv
 rw[ue]
 cases e:sg[i]? with
 | none=>rfl
 | some a=>cases a with
  | none=>rfl
  | some b=>cases b<;> first | rfl | (rename_i v;cases v<;> rfl)
@[simp] theorem uY:ob ⟨sg,st⟩ (.own i)=(match sg[i]? with | some (some (.own o))=>some o | some (some (.v (.r n)))=>(match st[n]? with | some .gone=>none | some o=>some o | none=>none) | _=>none):=by
 unfold ob
 rw[ue]
 cases e:sg[i]? with
 | none=>simp[e]
 | some a=>cases a with
  | none=>simp[e]
  | some b=>cases b with
   | own o=>simp[e]
   | v v=>cases v<;> simp[e]<;> rfl
@[simp] theorem QO:ob s (.val (.d d))=none:=id rfl
@[simp] theorem yi:ob s (.val (.r n))=(match s.st[n]? with | some .gone=>none | some o=>some o | none=>none):=id rfl
@[simp] theorem QV:lv s (.val (.d d))=(match d with | .lst l=>some (l.map .d) | _=>none):=by cases d<;> rfl
@[simp] theorem Ny:tv s (.val (.d d))=(match d with | .tup l=>some (l.map .d) | _=>none):=by cases d<;> rfl
theorem yV:lv s r=(match dv s r with | some (.lst l)=>some (l.map .d) | some _=>none | none=>match ob s r with | some (.lst l)=>some l | _=>none):=rfl
@[simp] theorem Rc:lv ⟨sg,st⟩ (.own i)=(match dv ⟨sg,st⟩ (.own i)with | some (.lst l)=>some (l.map .d) | some _=>none | none=>match ob ⟨sg,st⟩ (.own i)with | some (.lst l)=>some l | _=>none):=id rfl
@[simp] theorem Ra:lv s (.val (.r n))=(match ob s (.val (.r n))with | some (.lst l)=>some l | _=>none):=id rfl
@[simp] theorem nh:aa i ⟨sg,st⟩=(match sg[i]? with | some (some (.v x))=>.ok (.val x) ⟨sg,st⟩ | some (some (.own _))=>.ok (.own i) ⟨sg,st⟩ | _=>.stuck):=id rfl
@[simp] theorem Ri:fD d s=.ok (.val (.d d)) s:=id rfl
@[simp] theorem QN:aF d s=.ok (.val (.d d)) s:=id rfl
@[simp] theorem nS:ev f s=(f s).bind settle:=id rfl
@[simp] theorem Oq:settle (.val x) s=.ok (.val x) s:=id rfl
@[simp] theorem Oc:settle (.own i) s=.ok (.own i) s:=id rfl
@[simp] theorem Oj:settle (.new o) s=(match o.toD with | some d=>.ok (.val (.d d)) s | none=>.stuck):=id rfl
@[simp] theorem Rb(k:RV→RV→State→Res RV):aw fa fb k s=(ev fa s).bind fun x s=>(ev fb s).bind fun y s=>k x y s:=id rfl
@[simp] theorem G1:b9 f s=(ev f s).bind xA:=id rfl
@[simp] theorem MM:xA r s=(match dv s r with | some (.bl b)=>.ok b s | _=>.stuck):=id rfl
@[simp] theorem Pp:aq [] s=.ok [] s:=id rfl
@[simp] theorem Q7:aq (f::fs) s=(ev f s).bind fun x s=>(aq fs s).bind fun xs s=>.ok (x::xs) s:=id rfl
@[simp] theorem ic:bL (.val x) s=.ok x s:=id rfl
@[simp] theorem Ro:bL (.new o) s=(match o.toD with | some d=>.ok (.d d) s | none=>.stuck):=id rfl
@[simp] theorem LV:bL (.own i) ⟨sg,st⟩=(match sg[i]? with | some (some (.own o))=>(match o.toD with | some d=>.ok (.d d) ⟨sg.set i (some (.v (.d d))),st⟩ | none=>.stuck) | some (some (.v x))=>.ok x ⟨sg,st⟩ | _=>.stuck):=id rfl
@[simp] theorem QW:aI [] s=.ok [] s:=id rfl
@[simp] theorem Fg:aI (r::rs) s=(bL r s).bind fun x s=>(aI rs s).bind fun xs s=>.ok (x::xs) s:=id rfl
@[simp] theorem O6:toDs []=some []:=id rfl
@[simp] theorem Qj(v:List Val):toDs (.d d::v)=(toDs v).map (d:: ·):=id rfl
@[simp] theorem QQ(l:List Val):Ob.toD (.lst l)=(toDs l).map .lst:=id rfl
@[simp] theorem GW:gi fs s=(aq fs s).bind qW:=id rfl
@[simp] theorem Hr:cu fs s=(aq fs s).bind Ai:=id rfl
@[simp] theorem QT:tj f s=(ev f s).bind Ax:=id rfl
@[simp] theorem QJ:Ax r s=(match dv s r with | some (.int i)=>.ok (.val (.d (.int (-i)))) s | _=>.stuck):=id rfl
@[simp] theorem JG:qW rs s=(aI rs s).bind fun l s=>if l.length≤sizeLine then .ok (.val (lL l)) s else .stuck:=id rfl
@[simp] theorem Kq:Ai rs s=(aI rs s).bind fun l s=>if l.length≤sizeLine then .ok (.new (.lst l)) s else .stuck:=id rfl
@[simp] theorem Jh(l:List Val):lL l=(match toDs l with | some ds=>.d (.tup ds) | none=>.tp l):=id rfl
@[simp] theorem Q5(k:State→Res (List RV))(b:List RV→State→Res RV):di k b s=(k s).bind b:=id rfl
@[simp] theorem Qz(k:State→Res (List RV))(gg:Fn):cw n k gg s=(k s).bind fun rs s=>(aI rs s).bind fun args s=>if args.length=n then bF gg args s else .stuck:=id rfl
@[simp] theorem BP(gg:Fn)(args:List Val):bF gg args ⟨sg,st⟩=Gq sg (gg args st):=id rfl
@[simp] theorem Dk(T:String)(k:State→Res (List RV))(b:RV→List RV→State→Res RV)(ty:State→RV→Bool):fX T f k b ty s=(ev f s).bind fun o s=>if ty s o then(k s).bind fun rs s=>b o rs s else .stuck:=id rfl
@[simp] theorem Qs:ak [] s=.ok .nx s:=id rfl
@[simp] theorem kA:ak (sa::ss) s=o7 (sa s) (ak ss):=id rfl
@[simp] theorem C5:gI ft sa sb s=(ft s).bind fun k s=>if k=true then sa s else sb s:=id rfl
@[simp] theorem Q8:Qt ft fa fb s=(ft s).bind fun k s=>if k=true then fa s else fb s:=id rfl
@[simp] theorem m6:bV f s=(f s).bind fun r s=>.ok (.ret r) s:=id rfl
@[simp] theorem D9:dw f s=(f s).bind fun _ s=>.ok .nx s:=id rfl
@[simp] theorem rR:aR i f s=(f s).bind fun r s=>qX (nR i r s):=id rfl
@[simp] theorem P6:qX (some s)=.ok .nx s:=id rfl
@[simp] theorem Pm:nR i (.val x) ⟨sg,st⟩=some ⟨sg.set i (some (.v x)),st⟩:=id rfl
@[simp] theorem QC:nR i (.new o) ⟨sg,st⟩=some ⟨sg.set i (some (.own o)),st⟩:=id rfl
@[simp] theorem Py(j:Nat):nR i (.own j) s=(match jK j s with | .ok x s=>some { s with sg:=s.sg.set i (some (.v x)) } | _=>none):=id rfl
@[simp] theorem P4:jK i ⟨sg,st⟩=bL (.own i) ⟨sg,st⟩:=id rfl
@[simp] theorem GP(t:Tg)(src:State→Res (List Val)):dc t src sb s=(src s).bind fun l s=>iT t sb l s:=id rfl
@[simp] theorem Pu(k:State→Res (List RV))(b:List RV→State→Res (List Val)):lY k b s=(k s).bind b:=id rfl
@[simp] theorem mF(k:D→State→Res (List Val)):sD f k s=(ev f s).bind fun r s=>(mG r s).bind k:=id rfl
@[simp] theorem uF:mG r s=(match bL r s with | .ok (.d x) s=>.ok x s | _=>.stuck):=id rfl
@[simp] theorem Pz:jd [ft] s=ft s:=id rfl
@[simp] theorem QI(f2:State→Res Bool)(fr:List (State→Res Bool)):jd (ft::f2::fr) s=(ft s).bind fun b s=>if b=true then jd (f2::fr) s else .ok false s:=id rfl
@[simp] theorem Rh:kT [ft] s=ft s:=id rfl
@[simp] theorem Rg(f2:State→Res Bool)(fr:List (State→Res Bool)):kT (ft::f2::fr) s=(ft s).bind fun b s=>if b=true then .ok true s else kT (f2::fr) s:=id rfl
@[simp] theorem G6:rg ft s=(ft s).bind fun b s=>.ok (!b) s:=id rfl
@[simp] theorem O4:ie [f] s=ev f s:=id rfl
@[simp] theorem Pk:ie (f::g::fs) s=(b9 f s).bind fun b s=>if b=true then ie (g::fs) s else aF (.bl false) s:=id rfl
@[simp] theorem PQ:Df [f] s=ev f s:=id rfl
@[simp] theorem PB:Df (f::g::fs) s=(b9 f s).bind fun b s=>if b=true then aF (.bl true) s else Df (g::fs) s:=id rfl
@[simp] theorem yJ(op:Cop):aS op r r' s=(match gT op s r r' with | some b=>aF (.bl b) s | none=>.stuck):=id rfl
@[simp] theorem MW:j8 [r] s=(match dv s r with | some (.str t)=>if t.length≤sizeLine then aF (.int t.length) s else .stuck | _=>match sq s r with | some l=>aF (.int l.length) s | none=>.stuck):=id rfl
@[simp] theorem N9:sq s r=(match lv s r with | some l=>some l | none=>tv s r):=id rfl
@[simp] theorem Lf:lM [r] s=(match sq s r with | some l=>.ok (.new (.lst l)) s | none=>.stuck):=id rfl
@[simp] theorem QP:yD [r] s=(match dv s r with | some (.int i)=>aF (.int (if i<0 then-i else i)) s | _=>.stuck):=id rfl
@[simp] theorem QA:NA [r,r'] s=(match dv s r,dv s r' with | some (.int i),some (.int j)=>aF (.int (if j > i then j else i)) s | _,_=>.stuck):=id rfl
@[simp] theorem OD:bAppend r [r'] s=(bL r' s).bind fun y s=>match ob s r with | some (.lst l)=>if l.length<sizeLine then .ok (.val (.d .non)) (wr r (.lst (l++[y])) s)else .stuck | _=>.stuck:=id rfl
@[simp] theorem QX:KP r [] s=(match ob s r with | some (.lst l)=>(match l[l.length- 1]? with | some y=>.ok (.val y) (wr r (.lst l.dropLast) s) | none=>.stuck) | _=>.stuck):=id rfl
@[simp] theorem Hh:wr (.own i) o ⟨sg,st⟩=(match fj ⟨sg,st⟩ (.own i)with | .own i=>⟨sg.set i (some (.own o)),st⟩ | .val (.r n)=>⟨sg,st.set n o⟩ | _=>⟨sg,st⟩):=id rfl
@[simp] theorem MJ:wr (.val (.r n)) o ⟨sg,st⟩=⟨sg,st.set n o⟩:=id rfl
@[simp] theorem MY:cf s r=(lv s r).isSome:=id rfl
@[simp] theorem GV:binop .add r r' s=oC r r' s:=id rfl
@[simp] theorem MQ:binop .mul r r' s=Ao r r' s:=id rfl
@[simp] theorem Ph(i j:Int):oC (.val (.d (.int i))) (.val (.d (.int j))) s=aF (.int (i+j)) s:=id rfl
@[simp] theorem OZ(i j:Int):binop .sub (.val (.d (.int i))) (.val (.d (.int j))) s=aF (.int (i-j)) s:=id rfl
@[simp] theorem I6(i j:Int):Ao (.val (.d (.int i))) (.val (.d (.int j))) s=if F5 i j=true then aF (.int (i*j)) s else .stuck:=by
 show(if i.natAbs.log2+j.natAbs.log2<1000000 then aF (.int (i*j)) s else .stuck)=_
 by_cases h:i.natAbs.log2+j.natAbs.log2<1000000
 ·rw[if_pos h];exact(if_pos (decide_eq_true h)).symm
 ·rw[if_neg h];exact(if_neg (fun z=>h (of_decide_eq_true z))).symm
@[simp] theorem zU(i j:Int):binop .fdiv (.val (.d (.int i))) (.val (.d (.int j))) s=if wq j=true then aF (.int (i/j)) s else .stuck:=by
 show(if 0<j∧j.natAbs.log2<9000 then aF (.int (i/j)) s else .stuck)=_
 by_cases h:0<j∧j.natAbs.log2<9000
 ·rw[if_pos h];exact(if_pos (decide_eq_true h)).symm
 ·rw[if_neg h];exact(if_neg (fun z=>h (of_decide_eq_true z))).symm
@[simp] theorem BH(i j:Int):binop .mod (.val (.d (.int i))) (.val (.d (.int j))) s=if 0<j then aF (.int (i%j)) s else .stuck:=id rfl
@[simp] theorem Ia(i j:Int):binop .pow (.val (.d (.int i))) (.val (.d (.int j))) s=if 0≤j∧j≤1000000∧i.natAbs<2^64 then aF (.int (i^j.toNat)) s else .stuck:=id rfl
@[simp] theorem Qr(i j:Int):gT .lt s (.val (.d (.int i))) (.val (.d (.int j)))=some (decide (i<j)):=id rfl
@[simp] theorem PZ(i j:Int):gT .le s (.val (.d (.int i))) (.val (.d (.int j)))=some (decide (i≤j)):=id rfl
@[simp] theorem QH(i j:Int):gT .gt s (.val (.d (.int i))) (.val (.d (.int j)))=some (decide (i > j)):=id rfl
@[simp] theorem Qx(i j:Int):gT .ge s (.val (.d (.int i))) (.val (.d (.int j)))=some (decide (i≥j)):=id rfl
@[simp] theorem Og:gT .eq s r r'=uh s r r':=id rfl
@[simp] theorem N7:gT .ne s r r'=(uh s r r').map not:=id rfl
@[simp] theorem PJ(i j:Int):uh s (.val (.d (.int i))) (.val (.d (.int j)))=some (decide (i=j)):=by
 show(if dB (.int i) (.int j)then some (jN (.int i) (.int j))else none)=_
 rw[if_pos (by rfl)]
 show some (i==j)=_
 by_cases h:i=j
 ·simp[h]
 ·have:(i==j)=false:=by simpa using h
  rw[this];simp[h]
@[simp] theorem P5(j:Int):mU [.val (.d (.int j))] s=oI 0 j s:=id rfl
@[simp] theorem PD(i j:Int):Mp [.val (.d (.int i)),.val (.d (.int j))] s=oI i j s:=id rfl
@[simp] theorem Qp:mT s (.val x)=some (.val x):=id rfl
@[simp] theorem Qi:mT s (.new o)=some (.new o):=id rfl
@[simp] theorem J6:mT ⟨sg,st⟩ (.own i)=(match sg[i]? with | some (some (.own o))=>some (.new o) | some (some (.v x))=>some (.val x) | _=>none):=id rfl
@[simp] theorem PN:dA (.nm i) x ⟨sg,st⟩=some ⟨sg.set i (some (.v x)),st⟩:=id rfl
end
theorem small(n:Nat)(h:n≤16777216):n≤sizeLine:=by rw[sizeLine_eq];exact h
section
variable(sg:Slots)(st:List Ob)(s:State)(i:Int)(j:Nat)(l:List D)(t:List Nat)(m:List Val)
theorem wd{α β:Type}(f:α→β)(l:List α)(i:Int):atI (l.map f) i=(atI l i).map f:=by
 unfold atI
 rw[List.length_map]
 cases ixN l.length i<;> simp
@[simp] theorem Q3:eQ (.val (.d (.lst l))) (.val (.d (.int i))) s=(match atI l i with | some d=>.ok (.val (.d d)) s | none=>.stuck):=by
 show(match atI (l.map Val.d) i with | some v=>Res.ok (RV.val v) s | none=>Res.stuck)=_
 rw[wd]
 cases atI l i<;> rfl
@[simp] theorem QL:eQ (.val (.d (.tup l))) (.val (.d (.int i))) s=(match atI l i with | some d=>.ok (.val (.d d)) s | none=>.stuck):=by
 show(match atI (l.map Val.d) i with | some v=>Res.ok (RV.val v) s | none=>Res.stuck)=_
 rw[wd]
 cases atI l i<;> rfl
@[simp] theorem MF:eQ (.val (.d (.str t))) (.val (.d (.int i))) s=(if t.length≤sizeLine then match atI t i with | some c=>.ok (.val (.d (.str [c]))) s | none=>.stuck else .stuck):=id rfl
def Qw(x y:RV)(s:State):Res RV:=eQ x y s
@[simp] theorem Q9:eQ (.own j) (.val (.d (.int i))) ⟨sg,st⟩=(match sg[j]? with | some (some (.own (.lst l)))=>(match atI l i with | some v=>.ok (.val v) ⟨sg,st⟩ | none=>.stuck) | _=>Qw (.own j) (.val (.d (.int i))) ⟨sg,st⟩):=by
 split
 ·rename_i l e
  unfold eQ d4 gF qg
  simp[e,lv]
  all_goals (cases atI l i<;> rfl)
 ·rfl
theorem ru{α:Type}{l:List α}{i:Int}(h0:0≤i)(h1:i<l.length):atI l i=l[i.toNat]? :=by
 unfold atI ixN
 rw[if_pos h0,if_pos h1]
 rfl
@[simp] theorem NU{α:Type}(x:α)(l:List α):atI (x::l) 0=some x:=by
 rw[ru (by omega) (by rw[List.length_cons];omega)]
 rfl
end
theorem Nl{n:Nat}(h:n<18446744073709551616):n.log2<64:=by
 by_cases h0:n=0
 ·subst h0;decide
 ·exact(Nat.log2_lt h0).mpr h
theorem CB{j:Int}(h0:0<j)(h':j<18446744073709551616):wq j=true:=decide_eq_true ⟨h0,by have:=Nl (n:=j.natAbs) (by omega);omega⟩
@[simp] theorem PU(t:Tg)(b:State→Res Fl)(s:State):iT t b [] s=.ok .nx s:=id rfl
@[simp] theorem DA(t:Tg)(b:State→Res Fl)(x:Val)(l:List Val)(s:State):iT t b (x::l) s=(match dA t x s with | none=>.stuck | some s=>tm (b s) (iT t b l)):=id rfl
abbrev vI(i:Int):Val:=.d (.int i)
abbrev sd(d:D):Option Sl:=some (.v (.d d))
section
variable(sg:Slots)(st:List Ob)(s:State)
@[simp] theorem Qq:bh [] s=s:=id rfl
@[simp] theorem QS(v:Nat)(vs:List Nat):bh (v::vs) ⟨sg,st⟩=⟨(cY sg vs).set v none,st⟩:=id rfl
@[simp] theorem PF:cY sg []=sg:=id rfl
@[simp] theorem Q4(v:Nat)(vs:List Nat):cY sg (v::vs)=(cY sg vs).set v none:=id rfl
@[simp] theorem OX:bZ s=.ok true s:=id rfl
@[simp] theorem Q6(acc:List Val):pF acc s=.ok (.new (.lst acc)) s:=id rfl
@[simp] theorem Rj(vs:List Nat)(t:Tg)(src:State→Res (List Val))(ft:State→Res Bool)(fe:State→Res RV):fq vs t src ft fe s=(src s).bind fun l s=>(j2 vs t ft fe l [] (bh vs s)).bind pF:=id rfl
end
@[simp] theorem toDs_mapF{α:Type}(l:List α)(F:α→D):toDs (l.map fun x=>.d (F x))=some (l.map F):=by
 have:(l.map fun x=>Val.d (F x))=(l.map F).map .d:=by simp
 rw[this,toDs_map]
@[simp] theorem toDs_comp{α:Type}(l:List α)(F:α→D):toDs (l.map (Val.d∘F))=some (l.map F):=toDs_mapF l F
@[simp] theorem toDs_vI(l:List Int):toDs (l.map vI)=some (l.map .int):=toDs_mapF l _
section
variable(sg:Slots)(st:List Ob)(s:State)(t:Tg)(ts:List Tg)(x:Val)(l:List Val)(r:RV)(f:State→Res RV)
@[simp] theorem IY:dA (.tp ts) x s=(match tv s (.val x)with | some l=>if l.length=ts.length then lN ts l s else none | none=>none):=id rfl
@[simp] theorem O2:lN [] [] s=some s:=id rfl
@[simp] theorem I9:lN (t::ts) (x::l) s=(match dA t x s with | some s=>lN ts l s | none=>none):=id rfl
@[simp] theorem Qn:MN [r] s=(match (lv s r).bind intsOf with | some (n::ns)=>aF (.int (Li (n::ns))) s | _=>.stuck):=id rfl
@[simp] theorem Pe(d:D):itemsOf d s=(match d with | .lst l=>.ok (l.map .d) s | .tup l=>.ok (l.map .d) s | .str t=>.ok (t.map fun c=>.d (.str [c])) s | .dic l=>.ok (l.map fun p=>.d (uj p.1)) s | _=>.stuck):=by cases d<;> rfl
@[simp] theorem EF(d:D):gG d s=(match d with | .lst l=>.ok (l.mapIdx fun i x=>.d (.tup [.int i,x])) s | .str t=>.ok (t.mapIdx fun i c=>.d (.tup [.int i,.str [c]])) s | _=>.stuck):=by cases d<;> rfl
@[simp] theorem Rk(lo hi:Par):yq f lo hi s=(ev f s).bind fun x s=>(mZ lo s).bind fun l s=>(mZ hi s).bind fun h s=>Br x l h s:=id rfl
@[simp] theorem QR:mZ .no s=.ok none s:=id rfl
@[simp] theorem Hm:mZ (.ex f) s=(ev f s).bind BK:=id rfl
@[simp] theorem QY(i:Int):BK (.val (.d (.int i))) s=.ok (some i) s:=id rfl
@[simp] theorem Na(lo hi:Option Int):Br r lo hi s=(match dv s r with | some (.str t)=>if t.length≤sizeLine then aF (.str (dF t lo hi)) s else .stuck | _=>match lv s r with | some l=>.ok (.new (.lst (dF l lo hi))) s | none=>match tv s r with | some l=>if(dF l lo hi).length=l.length then .stuck else .ok (.val (lL (dF l lo hi))) s | none=>.stuck):=id rfl
end
theorem FZ{α:Type}(l:List α)(a b:Nat):dF l (some (a:Int)) (some (b:Int))=(l.drop a).take (b-a):=by
 unfold dF
 rw[HT.sIx_nat,HT.sIx_nat]
 by_cases h:a≤l.length
 ·rw[Nat.min_eq_left h]
  by_cases h2:b≤l.length
  ·rw[Nat.min_eq_left h2]
  ·have e1:(l.drop a).take (l.length-a)=l.drop a:=List.take_of_length_le (by simp)
   have e2:(l.drop a).take (b-a)=l.drop a:=List.take_of_length_le (by simp;omega)
   rw[Nat.min_eq_right (show l.length≤b by omega),e1,e2]
 ·have e1:l.drop a=[]:=List.drop_eq_nil_of_le (by omega)
  have e2:l.drop l.length=[]:=List.drop_eq_nil_of_le (Nat.le_refl _)
  rw[Nat.min_eq_right (show l.length≤a by omega),e1,e2]
  simp
theorem Fp{α β:Type}(f:α→β)(l:List α)(lo hi:Option Int):dF (l.map f) lo hi=(dF l lo hi).map f:=by
 unfold dF
 rw[List.length_map,List.map_take,List.map_drop]
@[simp] theorem NJ{α:Type}(x y:α)(l:List α):atI (x::y::l) 1=some y:=by
 rw[ru (by omega) (by rw[List.length_cons,List.length_cons];omega)]
 rfl
@[simp] theorem NN{α:Type}(x y z:α)(l:List α):atI (x::y::z::l) 2=some z:=by
 rw[ru (by omega) (by rw[List.length_cons,List.length_cons,List.length_cons];omega)]
 rfl
@[simp] theorem NT{α:Type}(x y z w:α)(l:List α):atI (x::y::z::w::l) 3=some w:=by
 rw[ru (by omega) (by rw[List.length_cons,List.length_cons,List.length_cons,List.length_cons];omega)]
 rfl
def DQ(r:Res Fl):Res RV:=
 match r with
 | .ok .nx s=>.ok (.val (.d .non)) ⟨[],s.st⟩
 | .ok (.ret r) s=>match mT s r with
  | some r'=>.ok r' ⟨[],s.st⟩
  | none=>.stuck
 | .ok _ _=>.stuck
 | .exc x s=>.exc x ⟨[],s.st⟩
 | .stuck=>.stuck
theorem uP(n:Nat)(b:State→Res Fl)(args:List Val)(st:List Ob):dS n b args st=DQ (b ⟨args.map (fun x=>some (.v x))++List.replicate (n-args.length) none,st⟩):=by
 unfold dS
 generalize b _=r
 cases r with
 | ok k s=>cases k<;> rfl
 | exc x s=>rfl
 | stuck=>rfl
@[simp] theorem KO(s:State):DQ (.ok .nx s)=.ok (.val (.d .non)) ⟨[],s.st⟩:=id rfl
@[simp] theorem Jn(r:RV)(s:State):DQ (.ok (.ret r) s)=(match mT s r with | some r'=>.ok r' ⟨[],s.st⟩ | none=>.stuck):=id rfl
@[simp] theorem NK:DQ .stuck=.stuck:=id rfl
@[simp] theorem Bo(x:Exn)(s:State):DQ (.exc x s)=.exc x ⟨[],s.st⟩:=id rfl
mutual
def eZ:D→Bool
 | .non=>true
 | .bl _=>true
 | .int _=>true
 | .str _=>true
 | .tup l=>hE l
 | .lst l=>hE l
 | _=>false
def hE:List D→Bool
 | []=>true
 | x::r=>eZ x&&hE r
end
mutual
def gQ:Nat→D→Bool
 | 0,.tup _=>false
 | 0,.lst _=>false
 | n+1,.tup l=>gW n l
 | n+1,.lst l=>gW n l
 | _,_=>true
def gW:Nat→List D→Bool
 | _,[]=>true
 | n,x::r=>gQ n x&&gW n r
end
mutual
theorem rD:∀ d:D,eZ d=true→(pd d).plain=true
 | .non,_=>rfl
 | .bl _,_=>rfl
 | .int _,_=>rfl
 | .str _,_=>rfl
 | .tup l,h=>by
  have:=qe l (by simpa [eZ]using h)
  simpa [pd,PyData.plain]using this
 | .lst l,h=>by
  have:=qe l (by simpa [eZ]using h)
  simpa [pd,PyData.plain]using this
 | .dic _,h=>by simp[eZ]at h
 | .dit _,h=>by simp[eZ]at h
 | .ins _ _,h=>by simp[eZ]at h
 | .exc _ _,h=>by simp[eZ]at h
theorem qe:∀ l:List D,hE l=true→PyData.plainAll (dR l)=true
 | [],_=>rfl
 | x::r,h=>by
  have h:eZ x=true∧hE r=true:=by simpa [hE]using h
  simp[dR,PyData.plainAll,rD x h.1,qe r h.2]
end
mutual
theorem eqv_refl:∀ d:D,eZ d=true→PyData.eqv (pd d) (pd d)=true
 | .non,_=>rfl
 | .bl b,_=>by cases b<;> rfl
 | .int i,_=>by show(i==i)=true;simp
 | .str s,_=>by show(Vw.st s==Vw.st s)=true;exact beq_self_eq_true _
 | .tup l,h=>by
  have:=qb l (by simpa [eZ]using h)
  simpa [pd,PyData.eqv]using this
 | .lst l,h=>by
  have:=qb l (by simpa [eZ]using h)
  simpa [pd,PyData.eqv]using this
 | .dic _,h=>by simp[eZ]at h
 | .dit _,h=>by simp[eZ]at h
 | .ins _ _,h=>by simp[eZ]at h
 | .exc _ _,h=>by simp[eZ]at h
theorem qb:∀ l:List D,hE l=true→PyData.eqvAll (dR l) (dR l)=true
 | [],_=>rfl
 | x::r,h=>by
  have h:eZ x=true∧hE r=true:=by simpa [hE]using h
  simp[dR,PyData.eqvAll,eqv_refl x h.1,qb r h.2]
end
mutual
theorem qr:∀ (n:Nat) (d:D),eZ d=true→gQ n d=true→(pd d).depth≤n
 | n,.non,_,_=>by simp[pd,PyData.depth]
 | n,.bl _,_,_=>by simp[pd,PyData.depth]
 | n,.int _,_,_=>by simp[pd,PyData.depth]
 | n,.str _,_,_=>by simp[pd,PyData.depth]
 | 0,.tup l,_,h=>by simp[gQ]at h
 | 0,.lst l,_,h=>by simp[gQ]at h
 | n+1,.tup l,p,h=>by
  have:=n9 n l (by simpa [eZ]using p) (by simpa [gQ]using h)
  simp[pd,PyData.depth,this]
 | n+1,.lst l,p,h=>by
  have:=n9 n l (by simpa [eZ]using p) (by simpa [gQ]using h)
  simp[pd,PyData.depth,this]
 | n,.dic _,p,_=>by simp[eZ]at p
 | n,.dit _,p,_=>by simp[eZ]at p
 | n,.ins _ _,p,_=>by simp[eZ]at p
theorem n9:∀ (n:Nat) (l:List D),hE l=true→gW n l=true→PyData.depthAll (dR l)≤n
 | n,[],_,_=>by simp[dR,PyData.depthAll]
 | n,x::r,p,h=>by
  have p:eZ x=true∧hE r=true:=by simpa [hE]using p
  have h:gQ n x=true∧gW n r=true:=by simpa [gW]using h
  have h1:=qr n x p.1 h.1
  have h2:=n9 n r p.2 h.2
  simp[dR,PyData.depthAll]
  omega
end
theorem ji{α:Type}(F:α→D):∀ l:List α,(∀ x∈l,eZ (F x)=true)→hE (l.map F)=true
 | [],_=>rfl
 | x::r,h=>by simp[hE,h x (by simp),ji F r fun y hy=>h y (by simp[hy])]
theorem kq{α:Type}(n:Nat)(F:α→D):∀ l:List α,(∀ x∈l,gQ n (F x)=true)→gW n (l.map F)=true
 | [],_=>by simp[gW]
 | x::r,h=>by simp[gW,h x (by simp),kq n F r fun y hy=>h y (by simp[hy])]
theorem FT{d:D}(n:Nat)(hn:n≤60)(p:eZ d=true)(h:gQ n d=true):dB d d=true∧jN d d=true:=by
 refine⟨?_,eqv_refl d p⟩
 have:=qr n d p h
 unfold dB
 simp[rD d p]
 omega
section
variable(sg:Slots)(st:List Ob)(s:State)(r r':RV)(i:Int)(j:Nat)(x:Val)
@[simp] theorem JU:j3 s r=(match dv s r with | some d=>some d | none=>match ob s r with | some (.lst l)=>(toDs l).map .lst | _=>none):=id rfl
theorem HB:uh s r r'=(match j3 s r,j3 s r' with | some a,some b=>if dB a b then some (jN a b)else none | _,_=>none):=id rfl
def Ml(o i:RV)(x:Val)(s:State):Option State:=ff o i x s
@[simp] theorem QB:ff (.own j) (.val (.d (.int i))) x ⟨sg,st⟩=(match sg[j]? with | some (some (.own (.lst l)))=>(match ixN l.length i with | some m=>some ⟨sg.set j (some (.own (.lst (l.set m x)))),st⟩ | none=>none) | _=>Ml (.own j) (.val (.d (.int i))) x ⟨sg,st⟩):=by
 split
 ·rename_i l e
  unfold ff
  simp[e]
  all_goals (cases ixN l.length i<;> rfl)
 ·exact id rfl
end
theorem EH{f:State→Res Fl}{r:List (State→Res Fl)}{s s':State}(h:f s=.ok .nx s'):ak (f::r) s=ak r s':=by rw[kA,h,rS]
end Vw
namespace Vw
open PySem L2 PyProof.Rows
def Cn(t T:String):Bool:=t==T||(t=="bool"&&T=="int")
def nD:List String:=["NoneType","bool","int","str","list","tuple","dict"]
def w5(s:State)(r:RV):Option String:=
 match dv s r with
 | some .non=>some "NoneType"
 | some (.bl _)=>some "bool"
 | some (.int _)=>some "int"
 | some (.str _)=>some "str"
 | some (.lst _)=>some "list"
 | some (.tup _)=>some "tuple"
 | some (.dic _)=>some "dict"
 | some _=>none
 | none=>match ob s r with
  | some (.lst _)=>some "list"
  | some _=>none
  | none=>(tv s r).map fun _=>"tuple"
def Cz(T:String)(f:State→Res RV)(s:State):Res RV:=(ev f s).bind fun r s=>
 match w5 s r with
 | some t=>aF (.bl (Cn t T)) s
 | none=>.stuck
def bIndex(o:RV)(rs:List RV)(s:State):Res RV:=
 match rs with
 | [x]=>match dv s o,dv s x with
  | some (.str a),some (.str b)=>match Builtin.Str.occurrences (Vw.st a) (Vw.st b) 0 a.length 1 with
   | i::_=>aF (.int (i:Nat)) s
   | []=>.stuck
  | _,_=>.stuck
 | _=>.stuck
section
variable{C:Cst}{Z Z' Zc:Hp}{loc loc':List Addr}{s s':State}{sv sv':L2.St}{H H':Hp}
variable{X:Cx}{e a b c o:Expr}{es:List Expr}{p pos apos pt:Pos}{f fa fb fc fo fi fv:State→Res RV}{fs:State→Res (List RV)}
theorem OJ(K:PySem.W.Frag):∀ t∈nD,∀ T∈nD,PySem.W.kitOne K (.type t) (.type T)=some (Cn t T):=by
 intro t ht T hT
 simp only[nD,List.mem_cons,List.not_mem_nil,or_false]at ht hT
 rcases ht with rfl | rfl | rfl | rfl | rfl | rfl | rfl<;> rcases hT with rfl | rfl | rfl | rfl | rfl | rfl | rfl<;> rfl
theorem KJ(r:SR C Z loc s sv H)(K:PySem.W.Frag){rv:RV}{v:V}{t:String}(h:bH C Z loc s sv H rv v)(e:w5 s rv=some t):TyX K H v (.type t)∧t∈nD:=by
 unfold w5 at e
 split at e
 ·rename_i e1;cases e;have q:=r.dv h e1;rw[show v=.non from q];exact⟨.base .non,by simp[nD]⟩
 ·rename_i b e1;cases e;have q:=r.dv h e1;rw[show v=.bl b from q];exact⟨.base (.bl b),by simp[nD]⟩
 ·rename_i i e1;cases e;have q:=r.dv h e1;rw[show v=.int i from q];exact⟨.base (.int i),by simp[nD]⟩
 ·rename_i x e1;cases e;have q:=r.dv h e1;rw[show v=.str _ from q];exact⟨.base (.str _),by simp[nD]⟩
 ·rename_i l e1
  cases e
  obtain⟨a,vs,rfl,z,_⟩:=r.dv h e1
  refine⟨.base ?_,by simp[nD]⟩
  rcases z with z | ⟨o,z⟩
  ·exact .lst ((r.zh a _ z).at rfl)
  ·exact .frz ((r.zh a _ z).at rfl)
 ·rename_i l e1
  cases e
  obtain⟨a,vs,rfl,z,_⟩:=r.dv h e1
  exact⟨.base (.tup ((r.zh a _ z).at rfl)),by simp[nD]⟩
 ·rename_i l e1
  cases e
  obtain⟨a,vs,rfl,z,_⟩:=r.dv h e1
  refine⟨?_,by simp[nD]⟩
  rcases r.zh a _ z with z | ⟨_,o,z⟩
  ·exact .base (.dK z)
  ·exact .fDict z
 ·cases e
 ·split at e
  ·rename_i l e1
   cases e
   obtain⟨a,rfl,_,xs,h1,_⟩:=r.ob h e1
   exact⟨.base (.lst h1),by simp[nD]⟩
  ·cases e
  ·obtain⟨l,e1,rfl⟩:=Option.map_eq_some_iff.mp e
   obtain⟨a,xs,rfl,h1,_⟩:=r.tv h e1
   exact⟨.base (.tup h1),by simp[nD]⟩
theorem L7{T:String}(he:PE X e (ai C f))(hg:Gl X "isinstance")(hm:X.mg "isinstance"=none)(hg2:Gl X (Str.ofString T))(hm2:X.mg (Str.ofString T)=none)(hv:bootBuiltins (Str.ofString T)=some (.type T))(hT:T∈nD)(hs:notStar e=true)
  (hn:(Str.ofString T)≠"__name__") (hd:((Str.ofString T)==("__debug__":Str))=false):PE X (.Call (.Name "isinstance" p) [e,.Name (Str.ofString T) pt] [] pos) (ai C (Cz T f)):=by
 refine aV (pe_callB call_isi hg hm xZ (pa_cons he (pa_cons (pe_bltn (v:=.ty T) hg2 hm2 hv rfl hn hd) pa_nil (by rfl)) (bt hs)) (by decide) (by decide) (bt hs) (by rfl)) fun sv H Q ⟨Z,loc,s,r,q⟩=>?_
 refine(ai.iZ r q).imp fun v H1 ⟨Z1,l1,s1,y,g1,r1,st1,q1,h1⟩=>?_
 cases et:w5 s1 y with
 | none=>rw[et]at h1;exact h1.elim
 | some t=>
  rw[et]at h1
  obtain⟨h2,h3⟩:=KJ r1 X.K q1 et
  exact⟨v,.ty T,.type t,.type T,_,rfl,.ty T,h2,OJ X.K t h3 T hT,h1.aF r1 rfl⟩
theorem om{x z:String}{t:Tok}(hg:Gl X (Str.ofString x))(hm:X.mg (Str.ofString x)=some (.str (Str.ofString z) t))(hd:((Str.ofString x)==("__debug__":Str))=false):PE X (.Name (Str.ofString x) pos) (ai C (fD (.str (sS z)))):=
 rG (pe_glob (v:=.str (Str.ofString z)) hg hm ⟨t,rfl⟩ hd) fun _=>by
  show V.str _=V.str _
  simp[sS]
theorem En:MtS C bIndex (fun x xs H Q=>∃ a b i rest,x=.str a∧xs=[.str b]∧Builtin.Str.occurrences a b 0 a.length 1=i::rest∧Q (.int (i:Nat)) H):=by
 intro Z loc s sv H o v rs vs Q r q qs h
 unfold bIndex at h
 split at h
 ·split at h
  ·rename_i a b e e'
   have qa:v=.str ⟨a.toArray⟩:=r.dv q e
   obtain⟨w,rfl,rfl⟩:=D7 r qs e'
   subst qa
   split at h
   ·rename_i i rest e2
    exact⟨_,_,i,rest,rfl,rfl,by simpa [Vw.st,Str.length]using e2,h.aF r rfl⟩
   ·exact h.elim
  ·exact h.elim
 ·exact h.elim
end
@[simp] theorem Ma(T:String)(f:State→Res RV)(s:State):Cz T f s=(ev f s).bind fun r s=>match w5 s r with | some t=>aF (.bl (Cn t T)) s | none=>.stuck:=id rfl
@[simp] theorem Q0(s:State)(r:RV):w5 s r=(match dv s r with | some .non=>some "NoneType" | some (.bl _)=>some "bool" | some (.int _)=>some "int" | some (.str _)=>some "str" | some (.lst _)=>some "list" | some (.tup _)=>some "tuple" | some (.dic _)=>some "dict" | some _=>none | none=>match ob s r with | some (.lst _)=>some "list" | some _=>none | none=>(tv s r).map fun _=>"tuple"):=id rfl
end Vw
namespace Vw
open PySem L2 PyProof.Rows
def ym(r:RV)(s:State):Res RV:=
 match r with
 | .new .gone=>.stuck
 | .new o=>.ok (.val (.r s.st.length)) ⟨s.sg,s.st++[o]⟩
 | _=>.stuck
def gS(f:State→Res RV)(s:State):Res RV:=(f s).bind ym
section
variable{C:Cst}{Z Z' Zc:Hp}{loc loc':List Addr}{s s':State}{sv sv':L2.St}{H H':Hp}
variable{X:Cx}{e:Expr}{f:State→Res RV}
theorem SR.alloc(r:SR C Z loc s sv H){a:Addr}{o:Ob}(ne:o≠ .gone)(c:Cell C.cA Z loc H a o)(fr:Free C Z loc s sv a):
  Ext Z loc Z (loc++[a])∧SR C Z (loc++[a]) ⟨s.sg,s.st++[o]⟩ sv H∧bo C.cA Z (loc++[a]) (.r s.st.length) (.ref a):=by
 have g:Ext Z loc Z (loc++[a]):=⟨Same.refl _,[a],rfl⟩
 refine⟨g,⟨r.fr,r.zh,r.zf,r.lk,by simp[r.ln],?_,fun b hb=>?_,fun n b ob h1 h2 h3=>?_,fun i x h=>?_,fun i ob h=>?_,r.oi,r.ls⟩,a,?_,rfl⟩
 ·rw[List.nodup_append]
  exact⟨r.nd,by simp,fun x hx y hy e=>by simp at hy;subst hy;subst e;exact fr.l hx⟩
 ·rcases List.mem_append.mp hb with hb | hb
  ·exact r.lh b hb
  ·simp at hb
   subst hb
   exact⟨dP ne c,fr.f⟩
 ·by_cases hn:n<loc.length
  ·rw[List.getElem?_append_left hn]at h1
   have h2:(s.st++[o])[n]? =some ob:=h2
   rw[List.getElem?_append_left (by rw[←r.ln];exact hn)]at h2
   obtain⟨q1,q2⟩:=r.cl n b ob h1 h2 h3
   exact⟨q1.mono g (Same.refl _),q2⟩
  ·have h2:(s.st++[o])[n]? =some ob:=h2
   have hlen:n<(loc++[a]).length:=(List.getElem?_eq_some_iff.mp h1).1
   have hn':n=loc.length:=by simp at hlen;omega
   subst hn'
   rw[List.getElem?_append_right (Nat.le_refl _)]at h1
   rw[r.ln,List.getElem?_append_right (Nat.le_refl _)]at h2
   simp at h1 h2
   subst h1 h2
   exact⟨c.mono g (Same.refl _),fr.z⟩
 ·obtain⟨v,q1,q2⟩:=r.vl i x h
  exact⟨v,q1,bo.mono g x q2⟩
 ·obtain⟨b,q1,q2,q3,q4,q5,q6⟩:=r.ow i ob h
  refine⟨b,q1,q2,q3.mono g (Same.refl _),q4,q5,fun z=>?_⟩
  rcases List.mem_append.mp z with z | z
  ·exact q6 z
  ·simp at z
   subst z
   exact fr.o i ob h q1
 ·rw[←r.ln]
  simp
theorem oQ(he:PE X e (ai C f)):PE X e (ai C (gS f)):=by
 refine aV he fun sv H Q ⟨Z,loc,s,r,q⟩=>?_
 refine(ai.oV r q).imp fun v H1 ⟨Z1,l1,s1,y,g1,r1,q1,h1⟩=>?_
 cases y with
 | val x=>exact h1.elim
 | own i=>exact h1.elim
 | new o=>
  obtain⟨a,h2,h3,h4,h5⟩:=q1
  subst h2
  have key:EPost C Z1 l1 sv (.ok (.val (.r s1.st.length)) ⟨s1.sg,s1.st++[o]⟩) Q:=by
   cases o<;> first | exact h1 | exact absurd rfl h3
  obtain⟨g2,r2,q2⟩:=r1.alloc h3 h4 h5
  exact key Z1 _ H1 _ g2 r2 q2
end
@[simp] theorem F3(f:State→Res RV)(s:State):gS f s=(f s).bind ym:=id rfl
@[simp] theorem MV(l:List Val)(sg:Slots)(st:List Ob):ym (.new (.lst l)) ⟨sg,st⟩=.ok (.val (.r st.length)) ⟨sg,st++[.lst l]⟩:=id rfl
end Vw
namespace Vw
open PySem L2 PyProof.Rows
def o5(a:List Nat)(ys:List (List Nat)):List Nat:=(Txt.join (Vw.st a) (ys.map Vw.st)).cps.toList
def rJ(o:RV)(rs:List RV)(s:State):Res RV:=
 match rs with
 | [x]=>match dv s o,(sq s x).bind strsOf with
  | some (.str a),some ys=>if(ys.map (·.length)).sum+ys.length*a.length≤16777216 then aF (.str (o5 a ys)) s else .stuck
  | _,_=>.stuck
 | _=>.stuck
section
variable{C:Cst}{Z:Hp}{loc:List Addr}
theorem uA:∀ {l:List Val} {ns:List (List Nat)} {xs:List V},strsOf l=some ns→aE C.cA Z loc l xs→xs=(ns.map Vw.st).map V.str
 | [],ns,xs,e,h=>by cases e;exact h
 | .d (.str i)::r,ns,xs,e,⟨v,t,e1,q,h⟩=>by
  unfold strsOf at e
  obtain⟨m,e2,rfl⟩:=Option.map_eq_some_iff.mp e
  rw[e1,uA e2 h,show v=_ from q]
  rfl
 | .d .non::r,ns,xs,e,h=>by cases e
 | .d (.bl _)::r,ns,xs,e,h=>by cases e
 | .d (.int _)::r,ns,xs,e,h=>by cases e
 | .d (.tup _)::r,ns,xs,e,h=>by cases e
 | .d (.lst _)::r,ns,xs,e,h=>by cases e
 | .d (.dic _)::r,ns,xs,e,h=>by cases e
 | .d (.dit _)::r,ns,xs,e,h=>by cases e
 | .d (.ins _ _)::r,ns,xs,e,h=>by cases e
 | .r _::r,ns,xs,e,h=>by cases e
 | .tp _::r,ns,xs,e,h=>by cases e
theorem Aj(K:PySem.W.Frag):MtS C rJ (fun x xs H Q=>∃ a p,∃ ys:List Str,x=.str a∧xs=[.ref p]∧(SqL K H p (ys.map V.str)∨SqT K H p (ys.map V.str))∧
  (ys.map (·.length)).sum+ys.length*a.length≤16777216∧Q (.str (Txt.join a ys)) H):=by
 intro Z loc s sv H o v rs vs Q r q qs h
 unfold rJ at h
 split at h
 ·obtain⟨w,t,rfl,st1,q1,q2⟩:=qs
  cases q2
  split at h
  ·rename_i a ys e e'
   have qa:v=.str (Vw.st a):=r.dv q e
   obtain⟨l,e1,e2⟩:=Option.bind_eq_some_iff.mp e'
   obtain⟨p,xs,rfl,h1,h2⟩:=r.sq (K:=K) q1 e1
   rw[uA e2 h2]at h1
   split at h
   ·rename_i hz
    refine⟨Vw.st a,p,ys.map Vw.st,qa,rfl,h1,?_,h.aF r ?_⟩
    ·simpa [Vw.st,Str.length,Function.comp_def]using hz
    ·show V.str _=V.str _
     simp[o5]
   ·exact h.elim
  ·exact h.elim
 ·exact h.elim
end
end Vw
namespace Vw
open PySem L2 PyProof.Rows
def oN(g:Fn)(args:List Val)(s:State):Res RV:=
 match g args s.st with
 | .ok r s2=>.ok r ⟨s.sg,s2.st⟩
 | .exc x s2=>.exc x ⟨s.sg,s2.st⟩
 | .stuck=>.stuck
def jL(n:Nat)(fs:State→Res (List RV))(g:Fn)(s:State):Res RV:=(fs s).bind fun rs s=>(aI rs s).bind fun args s=>if args.length=n then oN g args s else .stuck
section
variable{C:Cst}{Z Z':Hp}{loc loc':List Addr}{s s':State}{sv sv':L2.St}{H H':Hp}
variable{X:Cx}{e a b c o:Expr}{es:List Expr}{p pos apos:Pos}{f fa fb fc fo fi fv:State→Res RV}
theorem Ej{g:Fn}{n:Nat}{args:List Val}{vs:List V}{Q:VK}(r:SR C Z loc s sv H)(q:aE C.cA Z loc args vs)(hn:args.length=n)(h:EPost C Z loc sv (oN g args s) Q):cE C.cA n g vs H Q (WE C.W sv):=by
 refine⟨b8 H Z loc,C.H0,Z,loc,args,s.st,r.entry _,q,hn,?_⟩
 unfold oN at h
 cases e:g args s.st with
 | stuck=>rw[e]at h;exact h
 | exc x s1=>
  rw[e]at h
  exact fun Z' l' H' c d g r' q'=>h Z' l' H' c d g (r.back g r') q'
 | ok rv s1=>
  rw[e]at h
  exact fun Z' l' H' v g r' q'=>h Z' l' H' v g (r.back g r') (bH.back r r' q')
theorem HK{k:Nat}{fA:Addr}{fd:FuncData}{ps:List Str}{x:Str}{g:Fn}{fs:State→Res (List RV)}(F:FnOk X.prog X.w X.K X.mg X.base (L2.CX X.prog X.w) k fA fd ps (cE C.cA ps.length g))(hr:Room k X.A)(hg:Gl X x)(hm:X.mg x=some (.ref fA))(hk:PySem.W.keepIn X.K (.ref fA)=true)
  (hb:Binds X.K fd ps []) (tk:Takes X C.W) (ha:PA X (e::es) (cZ C fs)) (hdb:(x==("__debug__":Str))=false) (hs:(e::es).all notStar=true):
  PE X (.Call (.Name x p) (e::es) [] pos) (ai C (jL ps.length fs g)):=by
 have hs':=hs
 simp only[List.all_cons,Bool.and_eq_true]at hs
 refine aV (pe_callS F hr hg hm hk hb (fun σ=>passAt tk σ) ha hdb (bt hs.1) (fx hs.2)) fun sv H Q h=>(cZ.at h).imp fun vs H1 ⟨Z,loc,s,xs,r,q,h⟩=>?_
 cases e1:aI xs s with
 | stuck=>rw[e1]at h;exact h.elim
 | exc x s1=>exact absurd e1 fV
 | ok args s1=>
  rw[e1]at h
  simp only[Res.bind]at h
  obtain⟨Z1,g1,r1,q1⟩:=r.aI q e1
  split at h
  ·rename_i hn
   exact Ej r1 q1 hn (EPost.ext h g1)
  ·exact h.elim
theorem v3{k n:Nat}{fA:Addr}{fd:FuncData}{ps:List Str}{x:Str}{g:Fn}{fs:State→Res (List RV)}{cA:String→Addr}(hC:C.cA=cA)(tk:Takes X C.W)(F:FnOk X.prog X.w X.K X.mg X.base (L2.CX X.prog X.w) k fA fd ps (cE cA n g))(hr:Room k X.A)(hg:Gl X x)(hm:X.mg x=some (.ref fA))(hk:PySem.W.keepIn X.K (.ref fA)=true)
  (hb:Binds X.K fd ps []) (hn:ps.length=n) (ha:PA X (e::es) (cZ C fs)) (hdb:(x==("__debug__":Str))=false) (hs:(e::es).all notStar=true):
  PE X (.Call (.Name x p) (e::es) [] pos) (ai C (jL n fs g)):=by
 subst hn hC
 exact HK F hr hg hm hk hb tk ha hdb hs
theorem ye{P:Program}{w:World}{K:PySem.W.Frag}{mg:Str→Option Value}{base:Heap}{x qual:Str}{params:Arguments}{body:List Stmt}{scope:Scope}{f:Addr}{fd:FuncData}{N ps:List Str}{cA:String→Addr}{b:State→Res Fl}{k n m:Nat}
  (F:FunD K x qual params body scope [] [] f fd) (S:FnScope N ps scope) (hn:ps.length=n) (hm:N.length=m)
  (hb:∀ (cdv:Value) (A:Around) (outer:List Env) (s:Shared) (H:Hp) (E:XK) (C:Cst),Room k (A.deeper (envOfC qual scope s.heap.objs.size f cdv))→C.cA=cA→Takes (cxOf (L2.CX P w) P w K mg base N qual scope f cdv A outer s H E) C.W→PSs (cxOf (L2.CX P w) P w K mg base N qual scope f cdv A outer s H E) body (dh C b)):
  FnOk P w K mg base (L2.CX P w) (k+1) f fd ps (cE cA n (dS m b)):=by
 subst hn hm
 refine F.ok S BU fun cdv A outer s H vs Q E hr h=>?_
 obtain⟨Fr,H0,Z,loc,args,st,r,q,hl,h⟩:=h
 exact⟨_,hb cdv A outer s H E (cW cA Fr H0 E) hr rfl (takes_of rfl rfl rfl rfl),w0 (ps:=ps) r q hl h fun _ _ _ z=>z⟩
end
end Vw
namespace L2
open PySem PySem.Spec PyProof.Rows
end L2
namespace Vw
open PySem L2 PySem.Spec PyProof.Rows
end Vw
namespace Vw
open PySem L2 PyProof.Rows
def Lg(N:List String)(c T:String):Option Bool:=if N.contains c then(if T="ValueError" then some true else if N.contains T then some (decide (T="FindError")||decide (c=T))else none)else none
section
variable{C C':Cst}{Z Z':Hp}{loc loc':List Addr}{s s':State}{sv sv':L2.St}{H H':Hp}
theorem SR.w(r:SR C Z loc s sv H)(W:WX):SR { C with W:=W } Z loc s sv H:=⟨r.fr,r.zh,r.zf,r.lk,r.ln,r.nd,r.lh,r.cl,r.vl,r.ow,r.oi,r.ls⟩
end
end Vw
namespace Vw
open PySem L2 PyProof.Rows
def Oa(N:List String)(T:String)(f:State→Res RV)(s:State):Res RV:=(ev f s).bind fun r s=>
 match dv s r with
 | some (.exc c _)=>match Lg N c T with
  | some b=>aF (.bl b) s
  | none=>.stuck
 | some .non=>aF (.bl false) s
 | _=>.stuck
end Vw
namespace Vw
open PySem L2 PyProof.Rows
def P9(N:List String)(f:State→Res RV)(s:State):Res RV:=(ev f s).bind fun r s=>
 match dv s r with
 | some (.exc c [p])=>if N.contains c then aF p s else .stuck
 | _=>.stuck
def oh(T:String)(f:State→Res RV)(s:State):Res Fl:=(ev f s).bind fun r s=>match bL r s with
 | .ok (.d x) s=>.exc ⟨T,some x⟩ s
 | _=>.stuck
def NI(K:PySem.W.Frag)(C:Addr):Sp:=fun vs H Q E=>∃ (a:Addr) (v:V),vs=[.ref a,v]∧OexC K C∧PySem.W.findIn K (.ref C) "place"=some none∧H a=some (exo a C none)∧
 ∀ dx,H dx=none→dx≠a→Q .non (upd (upd H dx (exd dx [(Str.ofString "place",v)])) a (exo a C (some dx)))
theorem Bn{P:Program}{w:World}{K:PySem.W.Frag}{mg:Str→Option Value}{base:Heap}{x qual:Str}{params:Arguments}{scope:Scope}{f:Addr}{fd:FuncData}{C:Addr}{q1 q2 q3 q4:Pos}
  (F:FunD K x qual params [.Assign [.Attribute (.Name "self" q1) "place" q2] (.Name "place" q3) q4] scope [] [] f fd) (S:FnScope ["self","place"] ["self","place"] scope) (hs:scope.names.lookup (Str.ofString "self")=some NameKind.local) (hp:scope.names.lookup (Str.ofString "place")=some NameKind.local):
  FnOk P w K mg base CX0 1 f fd ["self","place"] (NI K C):=by
 refine F.ok S (fun vs H Q E ⟨a,v,h,_⟩=>by rw[h];rfl) fun cdv A outer s H vs Q E hr ⟨a,v,hv,T,hno,ha,q⟩=>?_
 subst hv
 refine⟨_,pss_one (ps_ost (pe_var (i:=0) rfl (.inl hs)) (pe_var (i:=1) rfl (.inl hp))),?_⟩
 exact⟨v,rfl,.ref a,rfl,a,C,rfl,T,hno,.inl ⟨ha,fun dx h1 h2=>q dx h1 h2⟩⟩
structure OinF (P:Program) (w:World) (K:PySem.W.Frag) (mg:Str→Option Value) (base:Heap) (C fI:Addr) (fd:FuncData):Prop where
 T:OexC K C
 no:PySem.W.findIn K (.ref C) "place"=some none
 iC:PySem.W.findIn K (.ref C) "__init__"=some (some (.ref fI))
 tI:PySem.W.typeIn K (.ref fI)=some (.type "function")
 F:FnOk P w K mg base CX0 1 fI fd ["self","place"] (NI K C)
 B:Binds K fd ["self","place"] []
section
variable{C:Cst}{X:Cx}{e:Expr}{p p2 pos pos':Pos}{f:State→Res RV}
theorem tJ{x:String}{cA:String→Addr}{fI:Addr}{fd:FuncData}(hC:C.cA=cA)(hc:X.calm=true)(tk:Takes X C.W)(hr:Room 2 X.A)(F:OinF X.prog X.w X.K X.mg X.base (cA x) fI fd)(gC:X.mg (Str.ofString x)=some (.ref (cA x)))(hg:Gl X (Str.ofString x))(he:PE X e (ai C f))
  (hs:notStar e=true) (hdb:((Str.ofString x)==("__debug__":Str))=false):
  PS X (.Raise (some (.Call (.Name (Str.ofString x) p) [e] [] pos)) none pos') (dh C (oh x f)):=by
 subst hC
 refine jr (ps_raise hc tk (pmk_oex (dvs:=[]) (ds:=[]) F.T F.iC F.tI F.F hr F.B .nil pass0 hg gC (pa_cons he pa_nil (bt hs)) hdb (bt hs) (by rfl))) fun D sv H ⟨Z,loc,s,r,h⟩=>?_
 refine ai.A0 (PO:=fun Z loc (t:Res Fl)=>a0 C Z loc t D) r h (fun Z' l' t g q=>q.ext g) (fun y s' q Z' l' H' c d g r' x'=>q Z' l' sv H' c d g r' x') (fun z=>z) ?_
 ·intro v H1 ⟨Z1,l1,s1,y,g1,r1,st1,q1,h1⟩
  cases ec:bL y s1 with
  | stuck=>rw[ec]at h1;exact h1.elim
  | exc _ _=>rw[ec]at h1;exact h1.elim
  | ok x1 s2=>
   rw[ec]at h1
   cases x1 with
   | r n=>exact h1.elim
   | tp l=>exact h1.elim
   | d d=>
    obtain⟨Z2,g2,r2,q2⟩:=r1.bL q1 ec
    refine⟨by simp,fun a na=>⟨a,v,rfl,F.T,F.no,upd_same,fun dx h2 h3=>⟨rfl,dx,[(Str.ofString "place",v)],upd_same,by rw[upd_ne h3,upd_same],by rw[upd_ne h3]at h2;exact h2,?_⟩⟩⟩
    have nd:H1 dx=none:=by rw[upd_ne h3]at h2;exact h2
    have eH:upd (L2.del (upd (upd (upd H1 a (exo a (C.cA x) none)) dx (exd dx [(Str.ofString "place",v)])) a (exo a (C.cA x) (some dx))) a) dx (.xd [(Str.ofString "place",v)])=upd H1 dx (.xd [(Str.ofString "place",v)]):=by
     funext b
     by_cases hb:b=dx
     ·subst hb;rw[upd_same,upd_same]
     ·rw[upd_ne hb,upd_ne hb]
      by_cases hba:b=a
      ·subst hba;rw[L2.del_same,na]
      ·rw[L2.del_ne hba,upd_ne hba,upd_ne hb,upd_ne hba]
    rw[eH]
    have f3:=r2.free nd
    have g3:=bC (o:=.xd [(Str.ofString "place",v)]) f3.z
    have r3:=(r2.grow (bC (o:=.xd [(Str.ofString "place",v)]) nd)).uS upd_same f3
    exact h1 _ l1 sv _ _ _ (g2.trans (Ext.z g3)) r3 ⟨rfl,dx,v,rfl,upd_same,aN.mono g3 d q2⟩
end
end Vw
namespace Vw
open PySem L2 PyProof.Rows
theorem oo{a b:String}(h:Str.ofString a=Str.ofString b):a=b:=by
 rw[Str.ofString_eq_toList,Str.ofString_eq_toList]at h
 have h1:(a.toList.map Char.toNat)=(b.toList.map Char.toNat):=by
  have:=congrArg (fun x:Str=>x.cps.toList) h
  simpa using this
 have h2:a.toList=b.toList:=by
  have inj:∀ (l m:List Char),l.map Char.toNat=m.map Char.toNat→l=m:=by
   intro l
   induction l with
   | nil=>intro m h;cases m<;> simp at h ⊢
   | cons c l ih=>
    intro m h
    cases m with
    | nil=>simp at h
    | cons d m=>
     simp only[List.map_cons,List.cons.injEq]at h
     have:c=d:=by
      apply Char.ext
      apply UInt32.toNat_inj.mp
      exact h.1
     rw[this,ih m h.2]
  exact inj _ _ h1
 exact String.toList_inj.mp h2
structure Mode (C:Cst) (X:Cx) where
 CX:CXT
 E:L2.St→XK
 hx:∀ σ,PassesAt CX X σ (E σ)
 call:Fn→List Val→State→Res RV
 sp:∀ {Z:Hp} {loc:List Addr} {s:State} {sv:L2.St} {H:Hp} {g:Fn} {n:Nat} {args:List Val} {vs:List V} {Q:VK},SR C Z loc s sv H→aE C.cA Z loc args vs→args.length=n→EPost C Z loc sv (call g args s) Q→cE C.cA n g vs H Q (E sv)
def mR{C:Cst}{X:Cx}:Mode C X:=⟨CX0,fun _=>E0,fun σ pins H s e s' I c=>L2.pass0 pins σ H s e s' I c,bF,fun r q hn h=>Hw r q hn h⟩
def mX{C:Cst}{X:Cx}(tk:Takes X C.W):Mode C X:=⟨L2.CX X.prog X.w,WE C.W,fun σ=>passAt tk σ,oN,fun r q hn h=>Ej r q hn h⟩
def uI(s:State)(r:RV):Option (String×List String):=
 match dv s r with
 | some (.ins c fs)=>some (c,fs.map (·.1))
 | some _=>none
 | none=>match ob s r with
  | some (.ins c fs)=>some (c,fs.map (·.1))
  | _=>none
def cc(call:Fn→List Val→State→Res RV)(c m:String)(n:Nat)(fo:State→Res RV)(fs:State→Res (List RV))(g:Fn)(s:State):Res RV:=(ev fo s).bind fun r s=>
 match uI s r,r with
 | some (c',fl),.val x=>if c'=c∧fl.contains m=false then(fs s).bind fun rs s=>(aI rs s).bind fun args s=>if args.length+1=n then call g (x::args) s else .stuck else .stuck
 | _,_=>.stuck
def qF{α:Type}(fs:List (String×α))(f:String):Option α:=(fs.find? fun p=>decide (p.1=f)).map (·.2)
def xx{α:Type}(f:String)(v:α):List (String×α)→List (String×α)
 | []=>[(f,v)]
 | (g,x)::r=>if g=f then(g,v)::r else(g,x)::xx f v r
def eB(T:List (String×String))(f:String)(fo:State→Res RV)(s:State):Res RV:=(ev fo s).bind fun r s=>
 match dv s r with
 | some (.ins c fs)=>if T.contains (c,f)then(match qF fs f with
  | some d=>aF d s
  | none=>.stuck)else .stuck
 | some _=>.stuck
 | none=>match ob s r with
  | some (.ins c fs)=>if T.contains (c,f)then(match qF fs f with
   | some x=>.ok (.val x) s
   | none=>.stuck)else .stuck
  | _=>.stuck
def ni(T:List (String×String))(f:String)(fo fv:State→Res RV)(s:State):Res Fl:=(ev fv s).bind fun v s=>(ev fo s).bind fun o s=>
 match bL v s with
 | .ok x s=>match ob s o with
  | some (.ins c fs)=>if T.contains (c,f)&&decide (fs.length<1000)then .ok .nx (wr o (.ins c (xx f x fs)) s)else .stuck
  | _=>.stuck
 | _=>.stuck
def p8(K:PySem.W.Frag)(cA:String→Addr)(T:List (String×String)):Prop:=∀ c f,(c,f)∈T→Cls K (cA c)∧NoAttr K (cA c) (Str.ofString f)
section
variable{C:Cst}{Z Z' Zc:Hp}{loc loc':List Addr}{s s':State}{sv sv':L2.St}{H H':Hp}
variable{X:Cx}{e a b c o v:Expr}{es:List Expr}{p p2 pos pos' apos pt:Pos}{f fa fb fc fo fi fv:State→Res RV}{fs:State→Res (List RV)}
theorem DO{T:List (String×String)}:∀ {fs:List (String×D)} {ws:List (Str×V)} {f:String} {d:D},fU C.cA Z fs ws→qF fs f=some d→∃ v,ws.lookup (Str.ofString f)=some v∧aN C.cA Z d v
 | [],ws,f,d,h,e=>by cases e
 | (g,x)::fs,ws,f,d,⟨v,r,e1,q,t⟩,e=>by
  subst e1
  unfold qF at e
  rw[List.find?_cons]at e
  by_cases hg:g=f
  ·subst hg
   simp at e
   subst e
   exact⟨v,by simp[List.lookup],q⟩
  ·simp[hg]at e
   have hne:((Str.ofString f)==(Str.ofString g))=false:=beq_eq_false_iff_ne.mpr fun z=>hg (oo z.symm)
   obtain⟨v2,h1,h2⟩:=DO (T:=T) (f:=f) (d:=d) t (by unfold qF;simpa using e)
   exact⟨v2,by rw[List.lookup,hne];exact h1,h2⟩
theorem BJ:∀ {fs:List (String×Val)} {ws:List (Str×V)} {f:String} {d:Val},eu C.cA Z loc fs ws→qF fs f=some d→∃ v,ws.lookup (Str.ofString f)=some v∧bo C.cA Z loc d v
 | [],ws,f,d,h,e=>by cases e
 | (g,x)::fs,ws,f,d,⟨v,r,e1,q,t⟩,e=>by
  subst e1
  unfold qF at e
  rw[List.find?_cons]at e
  by_cases hg:g=f
  ·subst hg
   simp at e
   subst e
   exact⟨v,by simp[List.lookup],q⟩
  ·simp[hg]at e
   have hne:((Str.ofString f)==(Str.ofString g))=false:=beq_eq_false_iff_ne.mpr fun z=>hg (oo z.symm)
   obtain⟨v2,h1,h2⟩:=BJ (f:=f) (d:=d) t (by unfold qF;simpa using e)
   exact⟨v2,by rw[List.lookup,hne];exact h1,h2⟩
theorem BE:∀ {fs:List (String×D)} {ws:List (Str×V)} {m:String},fU C.cA Z fs ws→(fs.map (·.1)).contains m=false→ws.lookup (Str.ofString m)=none
 | [],ws,m,h,e=>by rw[show ws=_ from h];rfl
 | (g,x)::fs,ws,m,⟨v,r,e1,q,t⟩,e=>by
  subst e1
  simp only[List.map_cons,List.contains_cons,Bool.or_eq_false_iff]at e
  have hne:((Str.ofString m)==(Str.ofString g))=false:=beq_eq_false_iff_ne.mpr fun z=>by
   have:=oo z
   have e1:=e.1
   rw[this]at e1
   simp at e1
  rw[List.lookup,hne]
  exact BE t e.2
theorem Af:∀ {fs:List (String×Val)} {ws:List (Str×V)} {m:String},eu C.cA Z loc fs ws→(fs.map (·.1)).contains m=false→ws.lookup (Str.ofString m)=none
 | [],ws,m,h,e=>by rw[show ws=_ from h];rfl
 | (g,x)::fs,ws,m,⟨v,r,e1,q,t⟩,e=>by
  subst e1
  simp only[List.map_cons,List.contains_cons,Bool.or_eq_false_iff]at e
  have hne:((Str.ofString m)==(Str.ofString g))=false:=beq_eq_false_iff_ne.mpr fun z=>by
   have:=oo z
   have e1:=e.1
   rw[this]at e1
   simp at e1
  rw[List.lookup,hne]
  exact Af t e.2
theorem AB{f:String}{x:Val}{v:V}(q:bo C.cA Z loc x v):∀ {fs:List (String×Val)} {ws:List (Str×V)},eu C.cA Z loc fs ws→eu C.cA Z loc (xx f x fs) (putF (Str.ofString f) v ws)
 | [],ws,h=>by rw[show ws=_ from h];exact⟨v,[],rfl,q,rfl⟩
 | (g,y)::fs,ws,⟨w,r,e1,q1,t⟩=>by
  subst e1
  unfold xx putF
  by_cases hg:g=f
  ·rw[if_pos hg,if_pos (by rw[hg])]
   exact⟨v,r,rfl,q,t⟩
  ·rw[if_neg hg,if_neg (fun z=>hg (oo z))]
   exact⟨w,_,rfl,q1,AB q t⟩
theorem FO:∀ {fs:List (String×Val)} {ws:List (Str×V)},eu C.cA Z loc fs ws→fs.length=ws.length
 | [],ws,h=>by rw[show ws=_ from h];rfl
 | (g,y)::fs,ws,⟨w,r,e1,q1,t⟩=>by rw[e1,List.length_cons,List.length_cons,FO t]
theorem SR.ins(r:SR C Z loc s sv H){rv:RV}{v:V}{c:String}{fl:List String}{m:String}(q:bH C Z loc s sv H rv v)(e:uI s rv=some (c,fl))(hm:fl.contains m=false):∃ a dx ws,v=.ref a∧H a=some (.ins (C.cA c) dx ws)∧ws.lookup (Str.ofString m)=none:=by
 unfold uI at e
 split at e
 ·rename_i c' fs e1
  cases e
  obtain⟨a,dx,ws,rfl,z,q1⟩:=r.dv q e1
  exact⟨a,dx,ws,rfl,(r.zh a _ z).at rfl,BE q1 hm⟩
 ·cases e
 ·split at e
  ·rename_i c' fs e1
   cases e
   obtain⟨a,rfl,_,dx,ws,h1,h2⟩:=r.ob q e1
   exact⟨a,dx,ws,rfl,h1,Af h2 hm⟩
  ·cases e
theorem M3{T:List (String×String)}{n:String}(F:p8 X.K C.cA T)(he:PE X e (ai C f))(hb:attributeBase e (Str.ofString n) X.env (eval e X.env)=eval e X.env):PE X (.Attribute e (Str.ofString n) pos) (ai C (eB T n f)):=by
 refine aV (pe_fld he hb) fun sv H Q ⟨Z,loc,s,r,q⟩=>?_
 refine(ai.iZ r q).imp fun v H1 ⟨Z1,l1,s1,y,g1,r1,st1,q1,h1⟩=>?_
 split at h1
 ·rename_i c fs e1
  split at h1
  ·rename_i hT
   split at h1
   ·rename_i d e2
    obtain⟨a,dx,ws,rfl,z,q2⟩:=r1.dv q1 e1
    obtain⟨w,l,qw⟩:=DO (T:=T) q2 e2
    obtain⟨f1,f2⟩:=F c n (by simpa using hT)
    exact⟨a,C.cA c,dx,ws,w,rfl,(r1.zh a _ z).at rfl,f1,f2,l,h1.aF r1 qw⟩
   ·exact h1.elim
  ·exact h1.elim
 ·exact h1.elim
 ·split at h1
  ·rename_i c fs e1
   split at h1
   ·rename_i hT
    split at h1
    ·rename_i x e2
     obtain⟨a,rfl,_,dx,ws,z,q2⟩:=r1.ob q1 e1
     obtain⟨w,l,qw⟩:=BJ q2 e2
     obtain⟨f1,f2⟩:=F c n (by simpa using hT)
     exact⟨a,C.cA c,dx,ws,w,rfl,z,f1,f2,l,h1 Z1 l1 H1 w (Ext.refl _ _) r1 qw⟩
    ·exact h1.elim
   ·exact h1.elim
  ·exact h1.elim
theorem JX{T:List (String×String)}{n:String}(F:p8 X.K C.cA T)(ho:PE X o (ai C fo))(hv:PE X v (ai C fv))(hc:jw v=true):PS X (.Assign [.Attribute o (Str.ofString n) pos'] v pos) (dh C (ni T n fo fv)):=by
 refine jr (ps_fld ho hv (vz hc)) fun D sv H ⟨Z,loc,s,r,q⟩=>?_
 refine(ai.wX r q).imp fun x H1 ⟨Z1,l1,s1,y,g1,r1,st1,q1,h1⟩=>?_
 refine(ai.wX r1 h1).imp fun u H2 ⟨Z2,l2,s2,y2,g2,r2,st2,q2,h2⟩=>?_
 have q1':=q1.mono (s':=s2) (H':=H2) g2 st1
 cases e1:bL y s2 with
 | stuck=>rw[e1]at h2;exact h2.elim
 | exc x s4=>rw[e1]at h2;exact h2.elim
 | ok z s4=>
  rw[e1]at h2
  dsimp only at h2
  obtain⟨Z4,g4,r4,q4⟩:=r2.bL q1' e1
  split at h2
  ·rename_i c fs e5
   split at h2
   ·rename_i hT
    simp only[Bool.and_eq_true,decide_eq_true_eq]at hT
    have q2':=q2.mono (s':=s4) (H':=H2) g4 st2
    obtain⟨a,rfl,_,dx,ws,hz,qf⟩:=r4.ob q2' e5
    obtain⟨f1,f2⟩:=F c n (by simpa using hT.1)
    refine⟨a,C.cA c,dx,ws,rfl,hz,f1,f2,by rw[←FO qf];exact hT.2,?_⟩
    have r5:=r4.write (o':=.ins c (xx n z fs)) (u:=.ins (C.cA c) dx (putF (Str.ofString n) x ws)) q2' e5 rfl (by simp) (fun x w z=>by rw[hz]at z;cases z) ⟨dx,_,upd_same,AB q4 qf⟩
    exact a0.nx (a0.ext h2 g4) r5
   ·exact h2.elim
  ·exact h2.elim
theorem F4{M:Mode C X}{k:Nat}{f D:Addr}{fd:FuncData}{ps:List Str}{sp:Sp}{m:Str}{ta:TE}{t:TA}{pl:Sem Bool}(he:PE X o ta)(c:Cls X.K D)(hm:Meth X.K D m f)(F:FnOk X.prog X.w X.K X.mg X.base M.CX k f fd ps sp)(hr:Room k X.A)(hb:Binds X.K fd ps [])(ha:PA X (e::es) t)
  (hst:starEach (e::es) X.env=(false,eval e X.env)::starEach es X.env) (hpl:(backTo pos (starEach es X.env)).any (·.1)=false)
  (ht:eval (.Call (.Attribute o m apos) (e::es) [] pos) X.env=(do
   let ov ←eval o X.env
   standAt apos.atName
   let (f,first) ←holding [ov] (getMethod ov m pl)
   callWith pos f first (backTo pos (starEach (e::es) X.env)) (backToKw pos (keywordEach [] X.env)))):
  PE X (.Call (.Attribute o m apos) (e::es) [] pos) (fun σ H Q=>ta σ H fun x H1=>∃ a dx fs,x=.ref a∧H1 a=some (.ins D dx fs)∧fs.lookup m=none∧t σ H1 fun vs H2=>sp (x::vs) H2 Q (M.E σ)):=by
 refine⟨fun pins s σ H Q I h=>?_⟩
 refine PySem.W.methodCall_KW (pl:=pl) (thn (he.run pins s σ H _ I h) fun u s1 ⟨x,H1,I1,rx,a,dx,fs,ex,ea,l,q⟩=>?_) ht
 subst ex
 obtain rfl:u=Value.ref a:=rx
 refine getmeth_ok I1 ea c hm l ?_
 refine PySem.W.callWith_K (first:=[.ref a]) (h₀:=X.base) I.ok.mod.kin hm.kp (thn (ha.run pos pins s1 σ H1 _ I1 q) fun us s2 ⟨vs,H2,I2,r,q2⟩=>⟨I2.kIn,?_⟩) hst hpl
 exact run_fnS (us:=.ref a::us) (vs:=.ref a::vs) F hr hb (M.hx σ) I2 (.cons rfl r) q2
theorem EK{M:Mode C X}{k:Nat}{f D:Addr}{fd:FuncData}{ps:List Str}{sp:Sp}{m:Str}{ta:TE}{pl:Sem Bool}(he:PE X o ta)(c:Cls X.K D)(hm:Meth X.K D m f)(F:FnOk X.prog X.w X.K X.mg X.base M.CX k f fd ps sp)(hr:Room k X.A)(hb:Binds X.K fd ps [])
  (ht:eval (.Call (.Attribute o m apos) [] [] pos) X.env=(do
   let ov ←eval o X.env
   standAt apos.atName
   let (f,first) ←holding [ov] (getMethod ov m pl)
   callWith pos f first (backTo pos (starEach [] X.env)) (backToKw pos (keywordEach [] X.env)))):
  PE X (.Call (.Attribute o m apos) [] [] pos) (fun σ H Q=>ta σ H fun x H1=>∃ a dx fs,x=.ref a∧H1 a=some (.ins D dx fs)∧fs.lookup m=none∧sp [x] H1 Q (M.E σ)):=by
 refine⟨fun pins s σ H Q I h=>?_⟩
 refine PySem.W.methodCall_KW (pl:=pl) (thn (he.run pins s σ H _ I h) fun u s1 ⟨x,H1,I1,rx,a,dx,fs,ex,ea,l,q⟩=>?_) ht
 subst ex
 obtain rfl:u=Value.ref a:=rx
 refine getmeth_ok I1 ea c hm l ?_
 exact PySem.W.callWith_K0 (first:=[.ref a]) I1.kIn hm.kp (run_fnS (us:=[.ref a]) (vs:=[.ref a]) F hr hb (M.hx σ) I1 (.cons rfl .nil) q)
end
end Vw
namespace Vw
open PySem L2 PyProof.Rows
section
variable{C:Cst}{Z Z' Zc:Hp}{loc loc':List Addr}{s s':State}{sv sv':L2.St}{H H':Hp}
variable{X:Cx}{e a b c o v:Expr}{es:List Expr}{p p2 pos pos' apos pt:Pos}{f fa fb fc fo fi fv:State→Res RV}{fs:State→Res (List RV)}
theorem cZ.Qe{fs:State→Res (List RV)}{k:List RV→State→Res RV}{Q:VK}{R:List V→Hp→Prop}(r:SR C Z loc s sv H)(h:EPost C Z loc sv ((fs s).bind k) Q)
  (hq:∀ vs H1 Z1 loc1 s1 xs,Ext Z loc Z1 loc1→SR C Z1 loc1 s1 sv H1→i3 C Z1 loc1 s1 sv H1 xs vs→EPost C Z1 loc1 sv (k xs s1) Q→R vs H1):cZ C fs sv H R:=by
 refine⟨Z,loc,s,r,?_⟩
 cases e:fs s with
 | stuck=>rw[e]at h;exact h
 | exc x s1=>rw[e]at h;exact h
 | ok xs s1=>
  rw[e]at h
  simp only[Res.bind]at h
  exact fun Z' l' H' vs g r' q'=>hq vs H' Z' l' s1 xs g r' q' (EPost.ext h g)
theorem NG{M:Mode C X}{k:Nat}{fA:Addr}{fd:FuncData}{ps:List Str}{cl m:String}{g:Fn}{pl:Sem Bool}(he:PE X o (ai C fo))(c:Cls X.K (C.cA cl))(hm:Meth X.K (C.cA cl) (Str.ofString m) fA)(F:FnOk X.prog X.w X.K X.mg X.base M.CX k fA fd ps (cE C.cA ps.length g))(hr:Room k X.A)(hb:Binds X.K fd ps [])(ha:PA X (e::es) (cZ C fs))
  (hs:(e::es).all notStar=true)
  (ht:eval (.Call (.Attribute o (Str.ofString m) apos) (e::es) [] pos) X.env=(do
   let ov ←eval o X.env
   standAt apos.atName
   let (f,first) ←holding [ov] (getMethod ov (Str.ofString m) pl)
   callWith pos f first (backTo pos (starEach (e::es) X.env)) (backToKw pos (keywordEach [] X.env)))):
  PE X (.Call (.Attribute o (Str.ofString m) apos) (e::es) [] pos) (ai C (cc M.call cl m ps.length fo fs g)):=by
 have hs':=hs
 simp only[List.all_cons,Bool.and_eq_true]at hs
 refine aV (F4 (M:=M) he c hm F hr hb ha (bt hs.1) (fx hs.2) ht) fun sv H Q ⟨Z,loc,s,r,q⟩=>?_
 refine(ai.iZ r q).imp fun v H1 ⟨Z1,l1,s1,y,g1,r1,st1,q1,h1⟩=>?_
 split at h1
 ·rename_i c' fl x e1
  split at h1
  ·rename_i hc
   obtain⟨a,dx,ws,rfl,hz,hl⟩:=r1.ins q1 e1 hc.2
   rw[hc.1]at hz
   refine⟨a,dx,ws,rfl,hz,hl,cZ.Qe r1 h1 fun vs H2 Z2 l2 s2 xs g2 r2 q2 h2=>?_⟩
   have q1':bo C.cA Z2 l2 x (.ref a):=bo.mono g2 x q1
   cases e2:aI xs s2 with
   | stuck=>rw[e2]at h2;exact h2.elim
   | exc x s3=>exact absurd e2 fV
   | ok args s3=>
    rw[e2]at h2
    simp only[Res.bind]at h2
    obtain⟨Z3,g3,r3,q3⟩:=r2.aI q2 e2
    split at h2
    ·rename_i hn
     exact M.sp (args:=x::args) r3 ⟨.ref a,vs,rfl,bo.mono g3 x q1',q3⟩ (by simpa using hn) (EPost.ext h2 g3)
    ·exact h2.elim
  ·exact h1.elim
 ·exact h1.elim
theorem KD{M:Mode C X}{k:Nat}{fA:Addr}{fd:FuncData}{ps:List Str}{cl m:String}{g:Fn}{pl:Sem Bool}(he:PE X o (ai C fo))(c:Cls X.K (C.cA cl))(hm:Meth X.K (C.cA cl) (Str.ofString m) fA)(F:FnOk X.prog X.w X.K X.mg X.base M.CX k fA fd ps (cE C.cA ps.length g))(hr:Room k X.A)(hb:Binds X.K fd ps [])
  (ht:eval (.Call (.Attribute o (Str.ofString m) apos) [] [] pos) X.env=(do
   let ov ←eval o X.env
   standAt apos.atName
   let (f,first) ←holding [ov] (getMethod ov (Str.ofString m) pl)
   callWith pos f first (backTo pos (starEach [] X.env)) (backToKw pos (keywordEach [] X.env)))):
  PE X (.Call (.Attribute o (Str.ofString m) apos) [] [] pos) (ai C (cc M.call cl m ps.length fo (aq []) g)):=by
 refine aV (EK (M:=M) he c hm F hr hb ht) fun sv H Q ⟨Z,loc,s,r,q⟩=>?_
 refine(ai.iZ r q).imp fun v H1 ⟨Z1,l1,s1,y,g1,r1,st1,q1,h1⟩=>?_
 split at h1
 ·rename_i c' fl x e1
  split at h1
  ·rename_i hc
   obtain⟨a,dx,ws,rfl,hz,hl⟩:=r1.ins q1 e1 hc.2
   rw[hc.1]at hz
   refine⟨a,dx,ws,rfl,hz,hl,?_⟩
   simp only[aq,Res.bind,aI]at h1
   split at h1
   ·rename_i hn
    exact M.sp (args:=[x]) r1 ⟨.ref a,[],rfl,q1,rfl⟩ (by simpa using hn) h1
   ·exact h1.elim
  ·exact h1.elim
 ·exact h1.elim
theorem Fe{M:Mode C X}{k:Nat}{f D:Addr}{fd:FuncData}{ps:List Str}{sp:Sp}{x:Str}{t:TA}(Mk':Mk X.K D f)(F:FnOk X.prog X.w X.K X.mg X.base M.CX k f fd ps sp)(hr:Room (k+1) X.A)(hg:Gl X x)(hm:X.mg x=some (.ref D))(hb:Binds X.K fd ps [])
  (ha:PA X (e::es) t) (hdb:(x==("__debug__":Str))=false) (he:starEach (e::es) X.env=(false,eval e X.env)::starEach es X.env) (hpl:(backTo pos (starEach es X.env)).any (·.1)=false):
  PE X (.Call (.Name x p) (e::es) [] pos) (fun σ H Q=>t σ H fun vs H1=>∀ y dx,H1 y=none→H1 dx=none→dx≠y→sp (.ref y::vs) (upd (upd H1 dx (.own y)) y (.ins D dx [])) (fun v H2=>v=.non∧Q (.ref y) H2) (M.E σ)):=by
 refine⟨fun pins s σ H Q I h=>?_⟩
 refine wpAny_Call_Name_kw (ld_glob I hg hm ?_ hdb)
 refine PySem.W.callWith_K (h₀:=X.base) I.ok.mod.kin Mk'.kp (thn (ha.run pos pins s σ H _ I h) fun us s1 ⟨vs,H1,I1,r,hq⟩=>⟨I1.kIn,?_⟩) he hpl
 have hq1:=hq (s1.heap.objs.size+1) s1.heap.objs.size (I1.hok.fresh (Nat.le_succ _)) (I1.hok.fresh (Nat.le_refl _)) (Nat.ne_of_lt (Nat.lt_succ_self _))
 have I2:=Inv.made (C:=D) I1
 have r2:Vals (V.ref (s1.heap.objs.size+1)::vs) (Value.ref (s1.heap.objs.size+1)::us):=.cons rfl r
 have hl:(Value.ref (s1.heap.objs.size+1)::us++[]).length=ps.length:=by
  have e:=r2.length
  rw[F.len _ _ _ _ hq1]at e
  rw[List.append_nil]
  exact e.symm
 have hbb:=hb _ (Value.ref (s1.heap.objs.size+1)::us) I2.kIn hl
 rw[List.append_nil]at hbb
 refine wpAny_call (make_map (f:=f) I1.kIn Mk'.makes Mk'.init (beq_iff_eq.mp Mk'.fn) (codeAny_mono (F.run _ X.stack _ _ ⟨Value.ref (s1.heap.objs.size+1)::us,[]⟩ (Value.ref (s1.heap.objs.size+1)::us) _ _ (M.E σ) (hr.make D us [])
  (I2.env0.make D us []) hbb r2 hq1) fun r s' hq'=>?_))
 cases r with
 | error e=>exact M.hx σ pins _ _ e s' I2 hq'
 | ok fl=>
  cases fl with
  | ret u=>
   obtain⟨v,H',I3,rv,ev,q3⟩:=I2.after hq'
   subst ev
   exact⟨rv,⟨V.ref (s1.heap.objs.size+1),H',I3,rfl,q3⟩⟩
  | next=>exact False.elim hq'
  | brk=>exact False.elim hq'
  | cont=>exact False.elim hq'
end
end Vw
namespace Vw
open PySem L2 PyProof.Rows
section
variable{C:Cst}{X:Cx}{e a b c o v:Expr}{es:List Expr}{p p2 pos pos' apos pt:Pos}{f fa fb fc fo fi fv:State→Res RV}{fs:State→Res (List RV)}{cA:String→Addr}
theorem jP{k n:Nat}{fA:Addr}{fd:FuncData}{ps:List Str}{cl m:String}{g:Fn}{pl:Sem Bool}(hC:C.cA=cA)(M:Mode C X)(c:Cls X.K (cA cl))(hm:Meth X.K (cA cl) (Str.ofString m) fA)(F:FnOk X.prog X.w X.K X.mg X.base M.CX k fA fd ps (cE cA n g))(hr:Room k X.A)(hb:Binds X.K fd ps [])(hn:ps.length=n)(he:PE X o (ai C fo))(ha:PA X (e::es) (cZ C fs))
  (hs:(e::es).all notStar=true)
  (ht:eval (.Call (.Attribute o (Str.ofString m) apos) (e::es) [] pos) X.env=(do
   let ov ←eval o X.env
   standAt apos.atName
   let (f,first) ←holding [ov] (getMethod ov (Str.ofString m) pl)
   callWith pos f first (backTo pos (starEach (e::es) X.env)) (backToKw pos (keywordEach [] X.env)))):
  PE X (.Call (.Attribute o (Str.ofString m) apos) (e::es) [] pos) (ai C (cc M.call cl m n fo fs g)):=by
 subst hC hn
 exact NG he c hm F hr hb ha hs ht
theorem oB{k n:Nat}{fA:Addr}{fd:FuncData}{ps:List Str}{cl m:String}{g:Fn}{pl:Sem Bool}(hC:C.cA=cA)(M:Mode C X)(c:Cls X.K (cA cl))(hm:Meth X.K (cA cl) (Str.ofString m) fA)(F:FnOk X.prog X.w X.K X.mg X.base M.CX k fA fd ps (cE cA n g))(hr:Room k X.A)(hb:Binds X.K fd ps [])(hn:ps.length=n)(he:PE X o (ai C fo))
  (ht:eval (.Call (.Attribute o (Str.ofString m) apos) [] [] pos) X.env=(do
   let ov ←eval o X.env
   standAt apos.atName
   let (f,first) ←holding [ov] (getMethod ov (Str.ofString m) pl)
   callWith pos f first (backTo pos (starEach [] X.env)) (backToKw pos (keywordEach [] X.env)))):
  PE X (.Call (.Attribute o (Str.ofString m) apos) [] [] pos) (ai C (cc M.call cl m n fo (aq []) g)):=by
 subst hC hn
 exact KD he c hm F hr hb ht
theorem lD{T:List (String×String)}{n:String}(hC:C.cA=cA)(F:p8 X.K cA T)(he:PE X e (ai C f))(hb:attributeBase e (Str.ofString n) X.env (eval e X.env)=eval e X.env):PE X (.Attribute e (Str.ofString n) pos) (ai C (eB T n f)):=by
 subst hC
 exact M3 F he hb
theorem Ea{T:List (String×String)}{n:String}(hC:C.cA=cA)(F:p8 X.K cA T)(ho:PE X o (ai C fo))(hv:PE X v (ai C fv))(hc:jw v=true):PS X (.Assign [.Attribute o (Str.ofString n) pos'] v pos) (dh C (ni T n fo fv)):=by
 subst hC
 exact JX F ho hv hc
end
abbrev Dx:Type:=He.AlD×Bool
def qM(K:PySem.W.Frag)(x:String):Addr:=He.ga K (Str.ofString x)
def F6(K:PySem.W.Frag)(T:List (String×String)):Bool:=T.all fun p=>(He.Fa.cls (Str.ofString p.1)).ok K&&decide (PySem.W.findIn K (.ref (qM K p.1)) (Str.ofString p.2)=some none)
theorem Iv{K:PySem.W.Frag}{T:List (String×String)}(h:F6 K T=true):p8 K (qM K) T:=fun c f hc=>by
 obtain⟨q1,q2⟩:=Bool.and_eq_true_iff.mp (List.all_eq_true.mp h (c,f) hc)
 have q3:=of_decide_eq_true q2
 exact⟨He.cls_ok q1,q3⟩
def Fm(K:PySem.W.Frag)(C:Addr):Bool:=(match K.lookup C with
  | some ⟨.type "type",_,.cls cd,sl⟩=>(match cd.mro,sl.toList with
   | .ref C'::bm,[_,_,_,_,some (.builtin n),_]=>C'==C&&n=="ValueError.__new__"&& !cd.hasDel&&PySem.HandSPX.refsVE bm&&cd.hasDict
   | _,_=>false)
  | _=>false)&&(decide (PySem.W.findIn K (.ref C) "__setattr__"=some (some (.builtin "object.__setattr__")))&&(decide (PySem.W.subIn K (.ref C) (.type "BaseException")=some true)&&(decide (PySem.W.typeIn K (.ref C)=some (.type "type"))&&PySem.W.keepIn K (.ref C))))
theorem B1{K:PySem.W.Frag}{C:Addr}(h:Fm K C=true):OexC K C:=by
 unfold Fm at h
 obtain⟨h1,h⟩:=Bool.and_eq_true_iff.mp h
 obtain⟨h2,h⟩:=Bool.and_eq_true_iff.mp h
 obtain⟨h3,h⟩:=Bool.and_eq_true_iff.mp h
 obtain⟨h4,h5⟩:=Bool.and_eq_true_iff.mp h
 refine⟨?_,of_decide_eq_true h2,of_decide_eq_true h3,of_decide_eq_true h4,h5⟩
 split at h1
 ·rename_i dd cd sl ho
  split at h1
  ·rename_i C' bm k0 k1 k2 k3 n k5 hm hs
   simp only[Bool.and_eq_true,beq_iff_eq,Bool.not_eq_true']at h1
   obtain⟨⟨⟨⟨rfl,rfl⟩,hdel⟩,hv⟩,hd⟩:=h1
   obtain⟨nm,bs,mro,ns,qn,hdd,sn,sub,ab,col,del⟩:=cd
   dsimp only at hm hdel hd
   subst hm hdel hd
   have hsl:sl= #[k0,k1,k2,k3,some (.builtin "ValueError.__new__"),k5]:=by
    obtain⟨l⟩:=sl
    simp only at hs
    rw[hs]
   subst hsl
   exact⟨nm,qn,ns,bs,bm,sn,sub,ab,col,dd,k0,k1,k2,k3,k5,ho,hv⟩
  ·cases h1
 ·cases h1
def GL(K:PySem.W.Frag)(x:String):Bool:=Fm K (qM K x)&&(decide (PySem.W.findIn K (.ref (qM K x)) "place"=some none)&&(decide (PySem.W.findIn K (.ref (qM K x)) "__init__"=some (some (.ref (He.ma K (qM K x) "__init__"))))&&decide (PySem.W.typeIn K (.ref (He.ma K (qM K x) "__init__"))=some (.type "function"))))
end Vw
namespace L2
open PySem PySem.Spec PyProof.Rows
end L2
namespace Vw
open PySem L2 PyProof.Rows
def OC(x y:RV)(s:State):Res RV:=
 match lv s x,dv s y with
 | some l,some (.int k)=>if-(2^63)≤k∧k<2^63∧l.length*k.toNat≤sizeLine then .ok (.new (.lst (List.replicate k.toNat l).flatten)) s else .stuck
 | _,_=>.stuck
def Ot(x y:RV)(s:State):Res RV:=
 match dv s x,dv s y with
 | some (.bl a),some (.bl b)=>aF (.bl (decide (a=b))) s
 | _,_=>.stuck
def M4(x y:RV)(s:State):Res RV:=
 match dv s x,dv s y with
 | some (.bl a),some (.bl b)=>aF (.bl (!decide (a=b))) s
 | _,_=>.stuck
def Nk(f:State→Res RV)(s:State):Res RV:=(ev f s).bind fun r s=>
 match dv s r with
 | some (.str t)=>if t.length≤sizeLine then aF (.str t.reverse) s else .stuck
 | _=>match lv s r with
  | some l=>.ok (.new (.lst l.reverse)) s
  | none=>.stuck
section
variable{C:Cst}{Z Z' Zc:Hp}{loc loc':List Addr}{s s':State}{sv sv':L2.St}{H H':Hp}
variable{X:Cx}{e a b c o v:Expr}{es:List Expr}{p p2 pos pos' apos pt:Pos}{f fa fb fc fo fi fv:State→Res RV}{fs:State→Res (List RV)}{cA:String→Addr}
theorem cS(hC:C.cA=cA){t:Tg}{tg it:Expr}{b:List Stmt}{sb:State→Res Fl}{src:State→Res (List Val)}(hp:PassesOwn (model X.prog X.w) X.A X.env X.xe)(hc:X.calm=true)(hi:PI X tg it (jB C src))
  (hg:∀ C':Cst,C'.cA=cA→C'.W=C.W→PG X tg (jI C' t)) (hb:∀ C':Cst,C'.cA=cA→C'.W=C.W→PSs X b (dh C' sb)) (hs:cb it=true):PS X (.For tg it b [] pos) (dh C (dc t src sb)):=
 MP hp hc hi (fun C' h=>hg C' (h.ca.trans hC) h.w) (fun C' h=>hb C' (h.ca.trans hC) h.w) hs
def Ci:Val→Option (K0×Val)
 | .d (.tup [k,x])=>(tK k).map fun k=>(k,.d x)
 | .tp [.d k,x]=>(tK k).map fun k=>(k,x)
 | _=>none
def mN:List Val→Option (List (K0×Val))
 | []=>some []
 | x::r=>match Ci x,mN r with
  | some p,some ps=>some (p::ps)
  | _,_=>none
def gE{κ α:Type}[DecidableEq κ](l ps:List (κ×α)):List (κ×α):=ps.foldl (fun l p=>aO l p.1 p.2) l
def t8(rs:List RV)(s:State):Res RV:=
 match rs with
 | [x]=>match (lv s x).bind mN with
  | some ps=>.ok (.new (.dic false (gE [] ps))) s
  | none=>.stuck
 | _=>.stuck
end
def GA:CXT:=fun outer H s E u s'=>∃ P w,L2.CX P w outer H s E u s'
theorem JL(H:Hp)(s:Shared)(e:Value)(s':Shared)(h:GA [] H s (fun _ _ _=>False) e s'):False:=by
 obtain⟨P,w,h⟩:=h
 obtain⟨_,_,_,_,_,_,_,_,_,_,_,_,z⟩:=h
 exact z.elim
theorem KI{P:Program}{w:World}{K:PySem.W.Frag}{mg:Str→Option Value}{base:Heap}{k:Nat}{f:Addr}{fd:FuncData}{ps:List Str}{sp:Sp}(F:FnOk P w K mg base (L2.CX P w) k f fd ps sp):FnOk P w K mg base GA k f fd ps sp:=
 ⟨F.len,fun A outer s H args us vs Q E hr e0 b r h=>codeAny_mono (F.run A outer s H args us vs Q E hr e0 b r h) fun r s' q=>by
  cases r with
  | error e=>exact⟨P,w,q⟩
  | ok fl=>cases fl<;> exact q⟩
end Vw
namespace Vw
open PySem L2
section
variable{C:Cst}{Z Z':Hp}{loc loc':List Addr}{s s':State}{sv sv':L2.St}{H H':Hp}
theorem Gn(K:PySem.W.Frag)(r:SR C Z loc s sv H){x:Val}{v:V}{p:K0×Val}(e:Ci x=some p)(q:bo C.cA Z loc x v):∃ a w,v=.ref a∧SqT K H a [kV (kz p.1),w]∧bo C.cA Z loc p.2 w:=by
 unfold Ci at e
 split at e
 ·rename_i k y
  obtain⟨k0,e1,rfl⟩:=Option.map_eq_some_iff.mp e
  obtain⟨a,vs,rfl,z,v1,t1,rfl,q1,v2,t2,rfl,q2,rfl⟩:=q
  rw[uc e1 q1]at z
  exact⟨a,v2,rfl,.inl (.inl ((r.zh a _ z).at rfl)),q2⟩
 ·rename_i k y
  obtain⟨k0,e1,rfl⟩:=Option.map_eq_some_iff.mp e
  obtain⟨a,vs,rfl,z,v1,t1,rfl,q1,v2,t2,rfl,q2,rfl⟩:=q
  rw[uc e1 q1]at z
  exact⟨a,v2,rfl,.inl (.inl ((r.zh a _ z).at rfl)),q2⟩
 ·cases e
theorem xh(K:PySem.W.Frag)(r:SR C Z loc s sv H):∀ {l:List Val} {vs:List V} {ps:List (K0×Val)},mN l=some ps→aE C.cA Z loc l vs→∃ (as:List Addr) (kvs:List (Key×V)),vs=as.map V.ref∧Paired (fun p kv=>SqT K H p [kV kv.1,kv.2]) as kvs∧bS C.cA Z loc ps kvs
 | [],vs,ps,e,h=>by
  cases e
  exact⟨[],[],h,.nil,rfl⟩
 | x::l,vs,ps,e,⟨v,t,e0,q,h⟩=>by
  rw[e0]
  unfold mN at e
  split at e
  ·rename_i p ps' e1 e2
   cases e
   obtain⟨a,w,rfl,g,qw⟩:=Gn K r e1 q
   obtain⟨as,kvs,rfl,gs,qs⟩:=xh K r e2 h
   exact⟨a::as,(kz p.1,w)::kvs,rfl,.cons g gs,w,kvs,rfl,qw,qs⟩
  ·cases e
theorem xS:∀ {ps:List (K0×Val)} {kvs:List (Key×V)} {l:List (K0×Val)} {ws:List (Key×V)},bS C.cA Z loc ps kvs→bS C.cA Z loc l ws→bS C.cA Z loc (gE l ps) (mergeK ws kvs)
 | [],kvs,l,ws,h,g=>by rw[show kvs=_ from h];exact g
 | (k,x)::ps,kvs,l,ws,⟨v,t,e,q,h⟩,g=>by
  rw[e]
  show bS C.cA Z loc (gE (aO l k x) ps) (mergeK (putK ws (kz k) v) t)
  exact xS h (Hz k g q)
theorem Gk(K:PySem.W.Frag):lj C t8 (fun xs H Q=>∃ (a:Addr) (ps:List Addr) (kvs:List (Key×V)),xs=[.ref a]∧SqL K H a (ps.map V.ref)∧Paired (fun p kv=>SqT K H p [kV kv.1,kv.2]) ps kvs∧
  ∀ p,H p=none→Q (.ref p) (upd H p (.dK (mergeK [] kvs)))):=by
 intro Z loc s sv H rs vs Q r q h
 unfold t8 at h
 split at h
 ·rename_i x
  obtain⟨v,t,rfl,st,q1,q2⟩:=q
  cases q2
  split at h
  ·rename_i ps e
   obtain⟨l,e1,e2⟩:=Option.bind_eq_some_iff.mp e
   obtain⟨a,xs,rfl,h1,h2⟩:=r.lv q1 e1
   obtain⟨as,kvs,rfl,g1,g2⟩:=xh K r e2 h2
   refine⟨a,as,kvs,rfl,.inl h1,g1,fun p np=>h.new r np (by simp) ⟨_,upd_same,xS g2 rfl⟩⟩
  ·exact h.elim
 ·exact h.elim
def nL(s:State)(x:RV):Option (List Val):=
 match x with
 | .new (.lst m)=>some m
 | _=>match ob s x with
  | some (.lst m)=>some m
  | _=>none
def vZ(o:RV)(rs:List RV)(s:State):Res RV:=
 match rs with
 | [x]=>match nL s x,ob s o with
  | some m,some (.lst l)=>if l.length+m.length≤sizeLine then .ok (.val (.d .non)) (wr o (.lst (l++m)) s)else .stuck
  | _,_=>.stuck
 | _=>.stuck
def Od(fo fe:State→Res RV)(s:State):Res RV:=(ev fo s).bind fun o s=>if cf s o then(fe s).bind fun x s=>vZ o [x] s else .stuck
def CH(rs:List RV)(s:State):Res RV:=
 match rs with
 | [x]=>match dv s x with
  | some (.int i)=>aF (.int i) s
  | some (.bl k)=>aF (.int (if k then 1 else 0)) s
  | _=>.stuck
 | _=>.stuck
theorem IJ:lj C CH (fun xs H Q=>(∃ i,xs=[.int i]∧Q (.int i) H)∨∃ k,xs=[.bl k]∧Q (.int (if k then 1 else 0)) H):=by
 intro Z loc s sv H rs vs Q r q h
 unfold CH at h
 split at h
 ·split at h
  ·rename_i i e
   obtain⟨v,rfl,rfl⟩:=D7 r q e
   exact .inl ⟨i,rfl,h.aF r rfl⟩
  ·rename_i k e
   obtain⟨v,rfl,rfl⟩:=D7 r q e
   exact .inr ⟨k,rfl,h.aF r rfl⟩
  ·exact h.elim
 ·exact h.elim
theorem Iy(x:RV)(s:State):t8 [x] s=(match (lv s x).bind mN with
  | some ps=>.ok (.new (.dic false (gE [] ps))) s
  | none=>.stuck):=id rfl
@[simp] theorem NL(o x:RV)(s:State):vZ o [x] s=(match nL s x,ob s o with
  | some m,some (.lst l)=>if l.length+m.length≤sizeLine then .ok (.val (.d .non)) (wr o (.lst (l++m)) s)else .stuck
  | _,_=>.stuck):=id rfl
@[simp] theorem PH(fo fe:State→Res RV)(s:State):Od fo fe s=(ev fo s).bind fun o s=>if cf s o then(fe s).bind fun x s=>vZ o [x] s else .stuck:=id rfl
@[simp] theorem Rp(m:List Val)(s:State):nL s (.new (.lst m))=some m:=id rfl
end
end Vw
namespace Vw
open PySem L2 PyProof.Rows
def d0(f:Val→Option D):List Val→Option (List D)
 | []=>some []
 | x::l=>match f x,d0 f l with
  | some d,some ds=>some (d::ds)
  | _,_=>none
def jo(f:Val→Option D):List (String×Val)→Option (List (String×D))
 | []=>some []
 | (k,x)::l=>match f x,jo f l with
  | some d,some ds=>some ((k,d)::ds)
  | _,_=>none
def wU(f:Val→Option D):Ob→Option D
 | .lst l=>(d0 f l).map .lst
 | .ins c fs=>(jo f fs).map (.ins c)
 | _=>none
def frz:Nat→State→Val→Option D
 | 0,_,v=>match v with
  | .d x=>some x
  | _=>none
 | n+1,s,v=>match v with
  | .d x=>some x
  | .tp l=>(d0 (frz n s) l).map .tup
  | .r m=>match s.st[m]? with
   | some o=>wU (frz n s) o
   | none=>none
def tW(n:Nat)(s:State)(r:RV):Option D:=
 match fj s r with
 | .val v=>frz n s v
 | .own i=>match s.sg[i]? with
  | some (some (.own o))=>wU (frz n s) o
  | _=>none
 | _=>none
def eqQ(n:Nat)(s:State)(x y:RV):Option Bool:=
 match tW n s x,tW n s y with
 | some a,some b=>if dB a b then some (jN a b)else none
 | _,_=>none
def oS(n:Nat)(neg:Bool)(x y:RV)(s:State):Res RV:=
 match eqQ n s x y with
 | some b=>aF (.bl (xor neg b)) s
 | none=>.stuck
section
variable{C:Cst}{Z Z' Zc:Hp}{loc loc':List Addr}{s s':State}{sv sv':L2.St}{H H':Hp}
variable{X:Cx}{e a b c o:Expr}{es:List Expr}{p pos apos:Pos}{f fa fb fc fo fi fv:State→Res RV}
theorem GoodZ.add(g:GoodZ Z H Zc){a:Addr}{u:HO}(z:Z a=none)(h1:H a=some u)(h4:m9 u=false):∃ Zd,Same Zc Zd∧GoodZ Z H Zd∧Zd a=some u:=by
 cases ez:Zc a with
 | none=>
  refine⟨upd Zc a u,bC ez,⟨g.up.trans (bC ez),fun b w hb=>?_⟩,upd_same⟩
  by_cases hba:b=a
  ·subst hba
   rw[upd_same]at hb
   cases hb
   exact .inr ⟨h1,h4⟩
  ·rw[upd_ne hba]at hb
   exact g.at_ b w hb
 | some w=>
  have hw:w=u:=by
   rcases g.at_ a w ez with q | ⟨q,_⟩
   ·rw[z]at q;cases q
   ·rw[h1]at q;cases q;rfl
  subst hw
  exact⟨Zc,Same.refl _,g,ez⟩
def Fz(C:Cst)(Z:Hp)(loc:List Addr)(H:Hp)(f:Val→Option D):Prop:=∀ (Zc:Hp) (x:Val) (v:V) (d:D),GoodZ Z H Zc→bo C.cA Z loc x v→f x=some d→∃ Zd,Same Zc Zd∧GoodZ Z H Zd∧aN C.cA Zd d v
theorem wg{f:Val→Option D}(hf:Fz C Z loc H f):∀ {Zc:Hp} {l:List Val} {vs:List V} {ds:List D},GoodZ Z H Zc→aE C.cA Z loc l vs→d0 f l=some ds→∃ Zd,Same Zc Zd∧GoodZ Z H Zd∧bq C.cA Zd ds vs
 | Zc,[],vs,ds,g,h,e=>by cases e;exact⟨Zc,Same.refl _,g,h⟩
 | Zc,x::l,vs,ds,g,⟨v,t,e1,q,h⟩,e=>by
  unfold d0 at e
  split at e
  ·rename_i d ds' e2 e3
   cases e
   obtain⟨Z1,s1,g1,r1⟩:=hf Zc x v d g q e2
   obtain⟨Z2,s2,g2,r2⟩:=wg hf g1 h e3
   exact⟨Z2,s1.trans s2,g2,v,t,e1,aN.mono s2 d r1,r2⟩
  ·cases e
theorem BZ{f:Val→Option D}(hf:Fz C Z loc H f):∀ {Zc:Hp} {l:List (String×Val)} {vs:List (Str×V)} {ds:List (String×D)},GoodZ Z H Zc→eu C.cA Z loc l vs→jo f l=some ds→∃ Zd,Same Zc Zd∧GoodZ Z H Zd∧fU C.cA Zd ds vs
 | Zc,[],vs,ds,g,h,e=>by cases e;exact⟨Zc,Same.refl _,g,h⟩
 | Zc,(k,x)::l,vs,ds,g,⟨v,t,e1,q,h⟩,e=>by
  unfold jo at e
  split at e
  ·rename_i d ds' e2 e3
   cases e
   obtain⟨Z1,s1,g1,r1⟩:=hf Zc x v d g q e2
   obtain⟨Z2,s2,g2,r2⟩:=BZ hf g1 h e3
   exact⟨Z2,s1.trans s2,g2,v,t,e1,aN.mono s2 d r1,r2⟩
  ·cases e
theorem A9{f:Val→Option D}(hf:Fz C Z loc H f){o:Ob}{a:Addr}{d:D}(g:GoodZ Z H Zc)(cell:Cell C.cA Z loc H a o)(z:Z a=none)(e:wU f o=some d):∃ Zd,Same Zc Zd∧GoodZ Z H Zd∧aN C.cA Zd d (.ref a):=by
 cases o with
 | lst l=>
  obtain⟨ds,e1,rfl⟩:=Option.map_eq_some_iff.mp e
  obtain⟨xs,h1,h2⟩:=cell
  obtain⟨Z1,s1,g1,r1⟩:=wg hf g h2 e1
  obtain⟨Z2,s2,g2,h3⟩:=g1.add z h1 rfl
  exact⟨Z2,s1.trans s2,g2,a,xs,rfl,.inl h3,bq.mono s2 ds r1⟩
 | ins c fs=>
  obtain⟨ds,e1,rfl⟩:=Option.map_eq_some_iff.mp e
  obtain⟨dx,xs,h1,h2⟩:=cell
  obtain⟨Z1,s1,g1,r1⟩:=BZ hf g h2 e1
  obtain⟨Z2,s2,g2,h3⟩:=g1.add z h1 rfl
  exact⟨Z2,s1.trans s2,g2,a,dx,xs,rfl,h3,fU.mono s2 ds r1⟩
 | dic k l=>cases e
 | dit k l=>cases e
 | gone=>cases e
theorem t9(r:SR C Z loc s sv H):∀ n:Nat,Fz C Z loc H (frz n s)
 | 0=>fun Zc x v d g q e=>by
  cases x with
  | d y=>cases e;exact⟨Zc,Same.refl _,g,aN.mono g.up _ q⟩
  | r m=>cases e
  | tp l=>cases e
 | n+1=>fun Zc x v d g q e=>by
  cases x with
  | d y=>cases e;exact⟨Zc,Same.refl _,g,aN.mono g.up _ q⟩
  | r m=>
   have e':(match s.st[m]? with
    | some o=>wU (frz n s) o
    | none=>none)=some d:=e
   split at e'
   ·rename_i o h1
    obtain⟨a,h2,rfl⟩:=q
    have ne:o≠ .gone:=fun z=>by subst z;cases e'
    obtain⟨c1,c2⟩:=r.cl m a o h2 h1 ne
    exact A9 (t9 r n) g c1 c2 e'
   ·cases e'
  | tp l=>
   have e':(d0 (frz n s) l).map D.tup=some d:=e
   obtain⟨ds,e1,rfl⟩:=Option.map_eq_some_iff.mp e'
   obtain⟨a,vs,rfl,h1,h2⟩:=q
   obtain⟨Z1,s1,g1,r1⟩:=wg (t9 r n) g h2 e1
   exact⟨Z1,s1,g1,a,vs,rfl,g1.up _ _ h1,r1⟩
theorem SR.tW(r:SR C Z loc s sv H)(n:Nat)(g:GoodZ Z H Zc){rv:RV}{v:V}{d:D}(h:bH C Z loc s sv H rv v)(e:Vw.tW n s rv=some d):∃ Zd,Same Zc Zd∧GoodZ Z H Zd∧aN C.cA Zd d v:=by
 have q:=r.fj h
 unfold Vw.tW at e
 split at e
 ·rename_i x e1
  rw[e1]at q
  exact t9 r n Zc x v d g q e
 ·rename_i i e1
  rw[e1]at q
  split at e
  ·rename_i o e2
   obtain⟨a,h1,h2,h3,h4,_⟩:=r.ow i _ e2
   rw[show sv[i]? =some (some v)from q]at h1
   cases h1
   exact A9 (t9 r n) g h3 h4 e
  ·cases e
 ·cases e
theorem OB(n:Nat)(neg:Bool):t7 C (oS n neg) (Hg X.K neg):=by
 intro Z loc s sv H x y u v Q r hx hy h
 unfold oS at h
 split at h
 ·rename_i b e
  unfold eqQ at e
  split at e
  ·rename_i d d' e1 e2
   split at e
   ·rename_i hc
    cases e
    simp only[dB,Bool.and_eq_true,decide_eq_true_eq]at hc
    obtain⟨Z1,s1,g1,r1⟩:=r.tW n (GoodZ.refl) hx e1
    obtain⟨Z2,s2,g2,r2⟩:=r.tW n g1 hy e2
    have L:=r.look g2 (fun _ _ _=>False)
    exact⟨pd d,pd d',x4 L d (aN.mono s2 d r1) hc.1.1,x4 L d' r2 hc.1.2,hc.1.1,hc.1.2,hc.2,h.aF r rfl⟩
   ·cases e
  ·cases e
 ·exact h.elim
theorem La{n:Nat}(hu:X.A.units+64<cLine)(ha:PE X a (ai C fa))(hb:PE X b (ai C fb))(hm:cb b=true):PT X (.Compare a [.NotEq] [b] pos) (dV C (b9 (aw fa fb (oS n true)))):=rB (pt_cmpR (L3 hu) ha hb (oK hm)) fun sv H Q q=>uC (OB n true) (toB q)
end
end Vw
namespace Vw
open PySem L2 PyProof.Rows
open Classical in
noncomputable def b7(n:Nat)(L:List Val)(t:Tg)(b:State→Res Fl):List Val→State→Res Fl
 | [],s=>if s.st[n]? =some (.lst L)then .ok .nx s else .stuck
 | x::r,s=>if s.st[n]? =some (.lst L)then(match dA t x s with
  | none=>.stuck
  | some s=>match b s with
   | .ok .nx s=>b7 n L t b r s
   | .ok .cnt s=>b7 n L t b r s
   | .ok .brk s=>.ok .nx s
   | r=>r)else .stuck
noncomputable def jJ(t:Tg)(f:State→Res RV)(b:State→Res Fl)(s:State):Res Fl:=(ev f s).bind fun rv s=>
 match fj s rv with
 | .val (.r n)=>match s.st[n]? with
  | some (.lst l)=>b7 n l t b l s
  | _=>.stuck
 | _=>.stuck
section
variable{C:Cst}{Z Z' Zc:Hp}{loc loc':List Addr}{s s':State}{sv sv':L2.St}{H H':Hp}
variable{X:Cx}{p pos apos:Pos}{f:State→Res RV}
theorem zY{K:PySem.W.Frag}{a:Addr}{n:Nat}:Walk (Itl K a) n (fun H=>∃ xs,SqL K H a xs∧xs.length=n) (fun i H x H'=>H'=H∧∀ xs,SqL K H a xs→xs[i]? =some x):=
 ⟨fun i H hi ⟨xs,q,e⟩=>⟨xs,xs[i],q,by simp[e,hi]⟩,fun H ⟨xs,q,e⟩=>⟨xs,q,Nat.le_of_eq e⟩,fun _ _ _ _ _ _ y=>y⟩
theorem stays{D:Ends}{n:Nat}{L:List Val}{t:Tg}{sb:State→Res Fl}{l:List Val}(h:a0 C Z loc (b7 n L t sb l s) D):s.st[n]? =some (.lst L):=by
 cases l with
 | nil=>
  unfold b7 at h
  split at h
  ·assumption
  ·exact h.elim
 | cons x r=>
  unfold b7 at h
  split at h
  ·assumption
  ·exact h.elim
theorem lP(g:Ext Z loc Z' loc'){n:Nat}{a:Addr}(h:loc[n]? =some a):loc'[n]? =some a:=by
 obtain⟨_,m,rfl⟩:=g
 rw[List.getElem?_append_left (List.getElem?_eq_some_iff.mp h).1]
 exact h
theorem gV(r:SR C Z loc s sv H){n:Nat}{a:Addr}{L:List Val}(hl:loc[n]? =some a)(h:s.st[n]? =some (.lst L)):∃ xs,H a=some (.lst xs)∧aE C.cA Z loc L xs:=
 (r.cl n a _ hl h (by simp)).1
theorem zj{t:Tg}{tg it:Expr}{b:List Stmt}{sb:State→Res Fl}(hp:PassesOwn (model X.prog X.w) X.A X.env X.xe)(hc:X.calm=true)(he:PE X it (ai C f))
  (hg:PG X tg (jI C t)) (hb:PSs X b (dh C sb)) (hs:cb it=true):PS X (.For tg it b [] pos) (dh C (jJ t f sb)):=by
 refine⟨fun pins t0 sv H D I ⟨Z,loc,s,r,q⟩=>?_⟩
 refine(ps_for (g:=jI C t) (tb:=dh C sb) hp hc (pi_list he) hg hb (fold_ok hs)).run pins t0 sv H D I ?_
 unfold jJ at q
 cases e:ev f s with
 | stuck=>rw[e]at q;exact q.elim
 | exc x s1=>rw[e]at q;exact ai.Fq r e fun Z' loc' H' c d=>q Z' loc' sv H' c d
 | ok rv s1=>
  rw[e]at q
  simp only[Res.bind]at q
  refine(ai.FP r e).imp fun v H1 ⟨Z1,l1,g1,r1,st1,rv1⟩=>?_
  split at q
  ·rename_i n e1
   split at q
   ·rename_i L e2
    have q1:=r1.fj rv1
    rw[e1]at q1
    obtain⟨a,h2,rfl⟩:=q1
    obtain⟨xs,h3,h4⟩:=gV r1 h2 e2
    refine⟨a,rfl,⟨xs,.of h3⟩,?_⟩
    refine for_it (n:=L.length) (g:=jI C t) (tb:=dh C sb) (D:=D) zY (fun i sv H=>∃ Z2 l2 s2,Ext Z1 l1 Z2 l2∧SR C Z2 l2 s2 sv H∧a0 C Z2 l2 (b7 n L t sb (L.drop i) s2) D)
     ⟨Z1,l1,s1,Ext.refl _ _,r1,a0.ext q g1⟩ ?_ ?_ ?_
    ·rintro i sv H _ ⟨Z2,l2,s2,g2,r2,q2⟩
     obtain⟨ys,h5,h6⟩:=gV r2 (lP g2 h2) (stays q2)
     exact⟨ys,.of h5,(bD h6).symm⟩
    ·rintro i v sv2 H2 H3 hi ⟨Z2,l2,s2,g2,r2,q2⟩ ⟨rfl,hy⟩
     obtain⟨ys,h5,h6⟩:=gV r2 (lP g2 h2) (stays q2)
     have hst:=stays q2
     rw[List.drop_eq_getElem_cons hi]at q2
     obtain⟨v',h7,h8⟩:=fO h6 (show L[i]? =some L[i] by simp[hi])
     rw[hy ys (.of h5)]at h7
     cases h7
     refine⟨Z2,l2,s2,L[i],r2,h8,?_⟩
     unfold b7 at q2
     rw[if_pos hst]at q2
     cases e1:dA t L[i] s2 with
     | none=>rw[e1]at q2;exact q2
     | some s3=>
      rw[e1]at q2
      intro sv4 _ r4
      refine⟨Z2,l2,s3,r4,?_⟩
      dsimp only at q2
      cases e2:sb s3 with
      | stuck=>rw[e2]at q2;exact q2
      | exc x s5=>
       rw[e2]at q2
       exact q2
      | ok k s5=>
       rw[e2]at q2
       cases k with
       | nx=>exact fun Z5 l5 sv5 H5 g5 r5=>⟨Z5,l5,s5,g2.trans g5,r5,a0.ext q2 g5⟩
       | cnt=>exact fun Z5 l5 sv5 H5 g5 r5=>⟨Z5,l5,s5,g2.trans g5,r5,a0.ext q2 g5⟩
       | brk=>exact fun Z5 l5 sv5 H5 g5 r5=>a0.nx (a0.ext q2 g5) r5
       | ret rv=>exact q2
    ·rintro sv2 H2 ⟨Z2,l2,s2,g2,r2,q2⟩
     have hst:=stays q2
     rw[List.drop_length]at q2
     unfold b7 at q2
     rw[if_pos hst]at q2
     exact a0.nx q2 r2
   ·exact q.elim
  ·exact q.elim
end
end Vw
namespace Vw
open PySem L2 PyProof.Rows
def o4:List Val→Option (List D)
 | []=>some []
 | .d x::r=>(o4 r).map (x:: ·)
 | _::_=>none
def vN(r:Res RV)(s:State):Res RV:=
 match r with
 | .ok (.val (.d x)) _=>.ok (.val (.d x)) s
 | .ok (.new o) _=>if o.toD.isSome then .ok (.new o) s else .stuck
 | _=>.stuck
def Cr(n:Nat)(fs:State→Res (List RV))(g:Fn)(s:State):Res RV:=(fs s).bind fun rs s=>(aI rs s).bind fun args s=>match o4 args with
 | some ds=>if ds.length=n then vN (g (ds.map .d) []) s else .stuck
 | none=>.stuck
theorem tF:∀ {l:List Val} {ds:List D},o4 l=some ds→l=ds.map .d
 | [],ds,h=>by cases h;rfl
 | .d x::r,ds,h=>by
  obtain⟨t,e,rfl⟩:=Option.map_eq_some_iff.mp h
  rw[List.map_cons,←tF e]
 | .r n::r,ds,h=>by cases h
 | .tp l::r,ds,h=>by cases h
section
variable{C:Cst}{Z Z' Zc:Hp}{loc loc' l':List Addr}{s s':State}{sv sv':L2.St}{H H':Hp}
variable{X:Cx}{e a b c o:Expr}{es:List Expr}{p pos apos:Pos}{f fa fb fc fo fi fv:State→Res RV}
theorem vh{cA:String→Addr}:∀ {ds:List D} {vs:List V},aE cA Z loc (ds.map .d) vs→aE cA Z loc' (ds.map .d) vs
 | [],vs,h=>h
 | d::ds,vs,⟨v,t,e,q,h⟩=>⟨v,t,e,q,vh h⟩
theorem ur{cA:String→Addr}:∀ {l:List Val} {vs:List V} {ds:List D},toDs l=some ds→aE cA Z loc l vs→aE cA Z loc' l vs
 | [],vs,ds,e,h=>h
 | .d x::l,vs,ds,e,⟨v,t,e1,q,h⟩=>by
  obtain⟨t',e',_⟩:=Option.map_eq_some_iff.mp e
  exact⟨v,t,e1,q,ur e' h⟩
 | .r n::l,vs,ds,e,h=>by cases e
 | .tp m::l,vs,ds,e,h=>by cases e
theorem sr{cA:String→Addr}:∀ {l:List (K0×Val)} {vs:List (Key×V)} {ds:List (K0×D)},toDK l=some ds→bS cA Z loc l vs→bS cA Z loc' l vs
 | [],vs,ds,e,h=>h
 | (k,.d x)::l,vs,ds,e,⟨v,t,e1,q,h⟩=>by
  obtain⟨t',e',_⟩:=Option.map_eq_some_iff.mp e
  exact⟨v,t,e1,q,sr e' h⟩
 | (k,.r n)::l,vs,ds,e,h=>by cases e
 | (k,.tp m)::l,vs,ds,e,h=>by cases e
theorem sy{cA:String→Addr}:∀ {l:List (List K0×Val)} {vs:List (List Key×V)} {ds:List (List K0×D)},toDK l=some ds→cR cA Z loc l vs→cR cA Z loc' l vs
 | [],vs,ds,e,h=>h
 | (k,.d x)::l,vs,ds,e,⟨v,t,e1,q,h⟩=>by
  obtain⟨t',e',_⟩:=Option.map_eq_some_iff.mp e
  exact⟨v,t,e1,q,sy e' h⟩
 | (k,.r n)::l,vs,ds,e,h=>by cases e
 | (k,.tp m)::l,vs,ds,e,h=>by cases e
theorem sx{cA:String→Addr}:∀ {l:List (String×Val)} {vs:List (Str×V)} {ds:List (String×D)},toDK l=some ds→eu cA Z loc l vs→eu cA Z loc' l vs
 | [],vs,ds,e,h=>h
 | (k,.d x)::l,vs,ds,e,⟨v,t,e1,q,h⟩=>by
  obtain⟨t',e',_⟩:=Option.map_eq_some_iff.mp e
  exact⟨v,t,e1,q,sx e' h⟩
 | (k,.r n)::l,vs,ds,e,h=>by cases e
 | (k,.tp m)::l,vs,ds,e,h=>by cases e
theorem sR{cA:String→Addr}{a:Addr}:∀ {o:Ob} {d:D},o.toD=some d→Cell cA Z loc H a o→Cell cA Z loc' H a o
 | .lst l,d,e,⟨xs,h,q⟩=>by
  obtain⟨ds,e1,_⟩:=Option.map_eq_some_iff.mp e
  exact⟨xs,h,ur e1 q⟩
 | .dic false l,d,e,⟨ws,h,q⟩=>by
  obtain⟨ds,e1,_⟩:=Option.map_eq_some_iff.mp e
  exact⟨ws,h,sr e1 q⟩
 | .dit false l,d,e,⟨ws,h,q⟩=>by
  obtain⟨ds,e1,_⟩:=Option.map_eq_some_iff.mp e
  exact⟨ws,h,sy e1 q⟩
 | .ins c l,d,e,⟨dx,ws,h,q⟩=>by
  obtain⟨ds,e1,_⟩:=Option.map_eq_some_iff.mp e
  exact⟨dx,ws,h,sx e1 q⟩
 | .dic true l,d,e,_=>by cases e
 | .dit true l,d,e,_=>by cases e
 | .gone,d,e,_=>by cases e
theorem SR.n6(r:SR C Z loc s sv H){E:XK}{st:List Ob}(g:Ext Z [] Z' l')(r':SR (cW C.cA (b8 H Z []) C.H0 E) Z' l' ⟨[],st⟩ [] H'):SR C Z' loc s sv H':=by
 have gz:Ext Z loc Z' loc:=⟨g.1,[],by simp⟩
 have z0:∀ {a:Addr} {u:HO},Z a=none→H a=some u→Z' a=none∧H' a=some u:=fun {a u} h1 h2=>by
  have f:=(gA (H:=H) (loc:=[]) h1 (by simp)).trans h2
  exact⟨(r'.gJ (a:=a) f).1,r'.fr a u f⟩
 have ne:∀ {a:Addr},H a≠none→H' a≠none:=fun {a} h=>by
  cases eh:H a with
  | none=>exact absurd eh h
  | some u=>
   cases ez:Z a with
   | none=>rw[(z0 ez eh).2];simp
   | some w=>exact rH (r'.zh a w (g.1 a w ez))
 refine⟨fun a o h=>?_,r'.zh,fun a o h=>?_,r'.lk,r.ln,r.nd,fun a h=>⟨ne (r.lh a h).1,(r.lh a h).2⟩,fun n a o h1 h2 h3=>?_,fun i x h=>?_,fun i o h=>?_,r.oi,r.ls⟩
 ·exact(z0 (r.gJ h).1 (r.fr a o h)).2
 ·cases e:C.Fr a with
  | none=>rfl
  | some u=>rw[(z0 (r.gJ e).1 (r.fr a u e)).1]at h;cases h
 ·obtain⟨q1,q2⟩:=r.cl n a o h1 h2 h3
  cases eh:H a with
  | none=>exact absurd eh (dP h3 q1)
  | some u=>
   obtain⟨w1,w2⟩:=z0 q2 eh
   exact⟨(q1.at (w2.trans eh.symm)).mono gz (Same.refl _),w1⟩
 ·obtain⟨v,q1,q2⟩:=r.vl i x h
  exact⟨v,q1,bo.mono gz x q2⟩
 ·obtain⟨a,q1,q2,q3,q4,q5,q6⟩:=r.ow i o h
  cases eh:H a with
  | none=>exact absurd eh (dP q2 q3)
  | some u=>
   obtain⟨w1,w2⟩:=z0 q4 eh
   exact⟨a,q1,q2,(q3.at (w2.trans eh.symm)).mono gz (Same.refl _),w1,q5,q6⟩
theorem bH.n6(r:SR C Z loc s sv H){E:XK}{st:List Ob}(g:Ext Z [] Z' l')(r':SR (cW C.cA (b8 H Z []) C.H0 E) Z' l' ⟨[],st⟩ [] H'){o:Ob}{v:V}(ho:o.toD.isSome=true)(q:bH (cW C.cA (b8 H Z []) C.H0 E) Z' l' ⟨[],st⟩ [] H' (.new o) v):bH C Z' loc s sv H' (.new o) v:=by
 obtain⟨a,h1,h2,h3,h4⟩:=q
 obtain⟨d,hd⟩:=Option.isSome_iff_exists.mp ho
 have za:Z a=none:=by
  cases e:Z a with
  | none=>rfl
  | some w=>have:=g.1 a w e;rw[h4.z]at this;cases this
 have ha:H a=none:=by
  have:=h4.f
  exact(gA (H:=H) (loc:=[]) za (by simp)).symm.trans this
 refine⟨a,h1,h2,sR hd h3,h4.z,?_,fun z=>(r.lh a z).1 ha,fun i o h e=>?_⟩
 ·cases e:C.Fr a with
  | none=>rfl
  | some u=>have:=r.fr a u e;rw[ha]at this;cases this
 ·obtain⟨b,q1,q2,q3,q4,q5,q6⟩:=r.ow i o h
  rw[e]at q1
  cases q1
  exact dP q2 q3 ha
theorem SR.JC(r:SR C Z loc s sv H)(E:XK):SR (cW C.cA (b8 H Z []) C.H0 E) Z [] ⟨[],[]⟩ [] H:=r.look GoodZ.refl E
theorem JK{g:Fn}{n:Nat}{ds:List D}{vs:List V}{Q:VK}(r:SR C Z loc s sv H)(q:aE C.cA Z loc (ds.map .d) vs)(hn:ds.length=n)(h:EPost C Z loc sv (vN (g (ds.map .d) []) s) Q):cE C.cA n g vs H Q E0:=by
 refine⟨b8 H Z [],C.H0,Z,[],ds.map .d,[],r.JC _,vh q,by simpa using hn,?_⟩
 unfold vN at h
 cases e:g (ds.map .d) []with
 | stuck=>rw[e]at h;exact h
 | exc x s1=>rw[e]at h;exact h.elim
 | ok rv s1=>
  rw[e]at h
  cases rv with
  | own i=>exact h.elim
  | val x=>
   cases x with
   | d x=>exact fun Z' l' H' v g r' q'=>h Z' loc H' v ⟨g.1,[],by simp⟩ (r.n6 g r') q'
   | r n=>exact h.elim
   | tp l=>exact h.elim
  | new o=>
   dsimp only at h
   split at h
   ·rename_i ho
    exact fun Z' l' H' v g r' q'=>h Z' loc H' v ⟨g.1,[],by simp⟩ (r.n6 g r') (bH.n6 r g r' ho q')
   ·exact h.elim
theorem Mq{CX:CXT}{k n:Nat}{fA:Addr}{fd:FuncData}{ps:List Str}{x:Str}{g:Fn}{fs:State→Res (List RV)}{cA:String→Addr}(hC:C.cA=cA)(F:FnOk X.prog X.w X.K X.mg X.base CX k fA fd ps (cE cA n g))(hr:Room k X.A)(hg:Gl X x)(hm:X.mg x=some (.ref fA))(hk:PySem.W.keepIn X.K (.ref fA)=true)
  (hb:Binds X.K fd ps []) (hx:Passes CX X E0) (hn:ps.length=n) (ha:PA X (e::es) (cZ C fs)) (hdb:(x==("__debug__":Str))=false) (hs:(e::es).all notStar=true):
  PE X (.Call (.Name x p) (e::es) [] pos) (ai C (Cr n fs g)):=by
 subst hn hC
 have hs':=hs
 simp only[List.all_cons,Bool.and_eq_true]at hs
 refine aV (pe_call F hr hg hm hk hb .nil hx ha hdb (bt hs.1) (fx hs.2)) fun sv H Q h=>(cZ.at h).imp fun vs H1 ⟨Z,loc,s,xs,r,q,h⟩=>?_
 rw[List.append_nil]
 cases e1:aI xs s with
 | stuck=>rw[e1]at h;exact h.elim
 | exc x s1=>exact absurd e1 fV
 | ok args s1=>
  rw[e1]at h
  simp only[Res.bind]at h
  obtain⟨Z1,g1,r1,q1⟩:=r.aI q e1
  split at h
  ·rename_i ds e2
   split at h
   ·rename_i hn
    exact JK r1 (tF e2▸q1) hn (EPost.ext h g1)
   ·exact h.elim
  ·exact h.elim
def NO(i:Nat)(s:State):State:=match jK i s with
 | .ok _ s'=>s'
 | _=>s
theorem SR.fz(r:SR C Z loc s sv H)(i:Nat):∃ Z',Ext Z loc Z' loc∧SR C Z' loc (NO i s) sv H:=by
 unfold NO
 cases e:Vw.jK i s with
 | exc x s1=>exact⟨Z,Ext.refl _ _,r⟩
 | stuck=>exact⟨Z,Ext.refl _ _,r⟩
 | ok x s1=>
  have e':=e
  unfold Vw.jK at e'
  split at e'
  ·rename_i o ho
   obtain⟨a,h1,_⟩:=r.ow i o ho
   obtain⟨Z',g,r',_⟩:=r.jK h1 e
   exact⟨Z',g,r'⟩
  ·rename_i x' hx
   cases e'
   exact⟨Z,Ext.refl _ _,r⟩
  ·cases e'
end
end Vw
namespace Vw
open PySem L2 PyProof.Rows
def cN(s:State):Res RV:=.ok (.new (.dic false [])) s
def yc(s:State):Res RV:=.ok (.new (.dit false [])) s
def ib(s:State)(r:RV):Bool:=(gF s r).isSome||(qg s r).isSome
def fY(fo fk fd:State→Res RV)(s:State):Res RV:=(ev fo s).bind fun o s=>if ib s o then(ev fk s).bind fun k s=>(ev fd s).bind fun d s=>(match d4 s o k with
 | some (some v)=>.ok (.val v) s
 | some none=>.ok d s
 | none=>.stuck)else .stuck
def Kz(r:RV)(s:State):Res RV:=
 match r with
 | .new _=>ym r s
 | .val (.r n)=>.ok (.val (.r n)) s
 | _=>.stuck
def mu(f:State→Res RV)(s:State):Res RV:=(f s).bind Kz
def sortI(l:List Int):List Int:=l.mergeSort fun a b=>decide (a≤b)
def ju(a b:List Nat):Bool:= !hZ b a
def bI(l:List (List Nat)):List (List Nat):=l.mergeSort ju
def tZ(rs:List RV)(s:State):Res RV:=
 match rs with
 | [x]=>match (lv s x).bind strsOf with
  | some ts=>if ts.length<64 then .ok (.new (.lst ((bI ts).map fun t=>.d (.str t)))) s else .stuck
  | none=>.stuck
 | _=>.stuck
def wi:List (K0×Val)→Option (List Int)
 | []=>some []
 | (.i n,_)::r=>(wi r).map (n:: ·)
 | _::_=>none
def vy:List (K0×Val)→Option (List (List Nat))
 | []=>some []
 | (.s n,_)::r=>(vy r).map (n:: ·)
 | _::_=>none
def lT(rs:List RV)(s:State):Res RV:=
 match rs with
 | [x]=>match (gF s x).bind wi with
  | some ns=>if ns.length<64 then .ok (.new (.lst ((sortI ns).map fun n=>.d (.int n)))) s else .stuck
  | none=>.stuck
 | _=>.stuck
section
variable{C:Cst}{Z Z' Zc:Hp}{loc loc' l':List Addr}{s s':State}{sv sv':L2.St}{H H':Hp}
variable{X:Cx}{e a b c o:Expr}{es:List Expr}{p pos apos cpos:Pos}{f fa fb fc fo fi fv fk fd:State→Res RV}
theorem iL:PE X (.Dict [] [] pos) (ai C cN):=aV pe_dnewK fun sv H Q ⟨Z,loc,s,r,h⟩=>fun p hp=>by
 have h:EPost C Z loc sv (.ok (.new (.dic false [])) s) Q:=h
 exact h.new r hp (by simp) ⟨[],upd_same,rfl⟩
theorem KC:PE X (.Dict [] [] pos) (ai C yc):=aV pe_dnewT fun sv H Q ⟨Z,loc,s,r,h⟩=>fun p hp=>by
 have h:EPost C Z loc sv (.ok (.new (.dit false [])) s) Q:=h
 exact h.new r hp (by simp) ⟨[],upd_same,rfl⟩
theorem SR.ib(r:SR C Z loc s sv H){rv:RV}{v:V}(h:bH C Z loc s sv H rv v)(e:Vw.ib s rv=true):∃ a,v=.ref a∧IsD H a:=by
 unfold Vw.ib at e
 rcases Bool.or_eq_true_iff.mp e with e | e
 ·obtain⟨l,e1⟩:=Option.isSome_iff_exists.mp e
  obtain⟨a,ws,h1,h2,_⟩:=r.gF h e1
  exact⟨a,h1,.inl ⟨ws,h2⟩⟩
 ·obtain⟨l,e1⟩:=Option.isSome_iff_exists.mp e
  obtain⟨a,ws,h1,h2,_⟩:=r.qg h e1
  exact⟨a,h1,.inr ⟨ws,h2⟩⟩
theorem i9{g h:Expr}(hu:X.A.units+64<cLine)(ho:PE X o (ai C fo))(hk:PE X g (ai C fk))(hd:PE X h (ai C fd))(m:M2 X o "get" apos g h cpos):PE X (.Call (.Attribute o "get" apos) [g,h] [] cpos) (ai C (fY fo fk fd)):=by
 refine aV (pe_dget2 (by omega) ho hk hd m) fun sv H Q ⟨Z,loc,s,r,q⟩=>?_
 refine(ai.iZ r q).imp fun x H1 ⟨Z1,l1,s1,y,g1,r1,st1,q1,h1⟩=>?_
 split at h1
 ·rename_i e1
  obtain⟨a,rfl,hd⟩:=r1.ib q1 e1
  refine⟨a,rfl,hd,(ai.iZ r1 h1).imp fun k H2 ⟨Z2,l2,s2,y2,g2,r2,st2,q2,h2⟩=>(ai.iZ r2 h2).imp fun z H3 ⟨Z3,l3,s3,y3,g3,r3,st3,q3,h3⟩=>?_⟩
  have q1':=q1.mono (s':=s3) (H':=H3) (g2.trans g3) st1
  have q2':=q2.mono (s':=s3) (H':=H3) g3 st2
  split at h3
  ·rename_i v e2
   obtain⟨b,w,e3,d,o⟩:=r3.d4 q1' q2' e2
   cases e3
   cases w with
   | none=>exact o.elim
   | some w=>exact⟨some w,d,h3 Z3 l3 H3 w (Ext.refl _ _) r3 o⟩
  ·rename_i e2
   obtain⟨b,w,e3,d,o⟩:=r3.d4 q1' q2' e2
   cases e3
   cases w with
   | none=>exact⟨none,d,h3 Z3 l3 H3 z (Ext.refl _ _) r3 q3⟩
   | some w=>exact o.elim
  ·exact h3.elim
 ·exact h1.elim
theorem De(he:PE X e (ai C f)):PE X e (ai C (mu f)):=by
 refine aV he fun sv H Q ⟨Z,loc,s,r,q⟩=>?_
 refine(ai.oV r q).imp fun v H1 ⟨Z1,l1,s1,y,g1,r1,q1,h1⟩=>?_
 cases y with
 | val x=>
  cases x with
  | r n=>exact h1 Z1 l1 H1 v (Ext.refl _ _) r1 q1
  | d x=>exact h1.elim
  | tp l=>exact h1.elim
 | own i=>exact h1.elim
 | new o=>
  obtain⟨a,h2,h3,h4,h5⟩:=q1
  subst h2
  have key:EPost C Z1 l1 sv (.ok (.val (.r s1.st.length)) ⟨s1.sg,s1.st++[o]⟩) Q:=by
   cases o<;> first | exact h1 | exact absurd rfl h3
  obtain⟨g2,r2,q2⟩:=r1.alloc h3 h4 h5
  exact key Z1 _ H1 _ g2 r2 q2
theorem xw(a b c:List Nat):ju a b=true→ju b c=true→ju a c=true:=by
 unfold ju hZ
 simp only[Bool.not_eq_true',decide_eq_false_iff_not,List.not_lt]
 exact fun h h2=>List.le_trans h h2
theorem DC(a b:List Nat):(ju a b||ju b a)=true:=by
 unfold ju hZ
 simp only[Bool.or_eq_true,Bool.not_eq_true',decide_eq_false_iff_not,List.not_lt]
 exact List.le_total a b
theorem yH{a b:List Nat}(h:ju a b=true)(h2:ju b a=true):a=b:=by
 unfold ju hZ at h h2
 simp only[Bool.not_eq_true',decide_eq_false_iff_not,List.not_lt]at h h2
 exact List.le_antisymm h h2
theorem sQ(l:List (List Nat)):(bI l).Pairwise fun a b=>ju a b=true:=List.pairwise_mergeSort xw DC l
theorem fQ(l:List (List Nat)):(bI l).Perm l:=List.mergeSort_perm l ju
theorem EV(l:List Int):(sortI l).Pairwise (· ≤ ·):=by
 have:=List.pairwise_mergeSort (le:=fun(a b:Int)=>decide (a≤b)) (fun a b c h h2=>by simp at *;omega) (fun a b=>by simp;omega) l
 exact this.imp fun h=>by simpa using h
theorem sortI_perm(l:List Int):(sortI l).Perm l:=List.mergeSort_perm l _
theorem yz{l m:List Int}(h:m.Perm l)(h2:m.Pairwise (· ≤ ·)):m=sortI l:=
 List.Perm.eq_of_pairwise (fun a b _ _ h1 h2=>Int.le_antisymm h1 h2) h2 (EV l) (h.trans (sortI_perm l).symm)
theorem zC{l m:List (List Nat)}(h:m.Perm l)(h2:m.Pairwise fun a b=>ju a b=true):m=bI l:=
 List.Perm.eq_of_pairwise (fun a b _ _ h1 h2=>yH h1 h2) h2 (sQ l) (h.trans (fQ l).symm)
def hJ(t:List Nat):Str:=⟨t.toArray⟩
theorem w9:∀ (ys:List Str) (x:Str),risingS x ys=true→(x::ys).Pairwise fun a b=>ju a.cps.toList b.cps.toList=true
 | [],x,h=>List.pairwise_singleton _ _
 | y::ys,x,h=>by
  unfold risingS at h
  obtain⟨h1,h2⟩:=Bool.and_eq_true_iff.mp h
  have ih:=w9 ys y h2
  have hxy:ju x.cps.toList y.cps.toList=true:=by
   unfold ju hZ
   rw[ltCps_eq]at h1
   exact h1
  refine List.pairwise_cons.mpr ⟨fun z hz=>?_,ih⟩
  rcases List.mem_cons.mp hz with rfl | hz
  ·exact hxy
  ·exact xw _ _ _ hxy ((List.pairwise_cons.mp ih).1 z hz)
theorem C9{ys:List Str}(h:sortedS ys=true):ys.Pairwise fun a b=>ju a.cps.toList b.cps.toList=true:=by
 cases ys with
 | nil=>exact List.Pairwise.nil
 | cons x r=>exact w9 r x h
theorem sorted_strs{ts:List (List Nat)}{ys:List Str}(hp:ys.Perm (ts.map hJ))(h:sortedS ys=true):ys=(bI ts).map hJ:=by
 have e:ys=(ys.map fun y=>y.cps.toList).map hJ:=by
  rw[List.map_map]
  have:(hJ∘fun(y:Str)=>y.cps.toList)=id:=funext fun y=>by cases y;rfl
  rw[this,List.map_id]
 have e2:ys.map (fun y=>y.cps.toList)=bI ts:=by
  refine zC ?_ ?_
  ·have:=hp.map fun(y:Str)=>y.cps.toList
   rw[List.map_map]at this
   have i:((fun(y:Str)=>y.cps.toList)∘hJ)=id:=funext fun y=>by simp[hJ]
   rw[i,List.map_id]at this
   exact this
  ·rw[List.pairwise_map]
   exact C9 h
 rw[e,e2]
theorem uu:∀ (ns:List Int),aE C.cA Z loc (ns.map fun n=>.d (.int n)) (ns.map V.int)
 | []=>rfl
 | n::ns=>⟨.int n,_,rfl,rfl,uu ns⟩
theorem pw:∀ (ts:List (List Nat)),aE C.cA Z loc (ts.map fun t=>.d (.str t)) ((ts.map hJ).map V.str)
 | []=>rfl
 | t::ts=>⟨.str (hJ t),_,rfl,rfl,pw ts⟩
theorem strs_at:∀ {l:List Val} {ts:List (List Nat)} {vs:List V},strsOf l=some ts→aE C.cA Z loc l vs→vs=(ts.map hJ).map V.str
 | [],ts,vs,e,h=>by cases e;exact h
 | .d (.str t)::l,ts,vs,e,⟨v,r,e1,q,h⟩=>by
  obtain⟨ts',e2,rfl⟩:=Option.map_eq_some_iff.mp e
  rw[e1,strs_at e2 h,show v=.str (hJ t)from q]
  rfl
 | .d .non::l,ts,vs,e,h=>by cases e
 | .d (.bl b)::l,ts,vs,e,h=>by cases e
 | .d (.int b)::l,ts,vs,e,h=>by cases e
 | .d (.tup b)::l,ts,vs,e,h=>by cases e
 | .d (.lst b)::l,ts,vs,e,h=>by cases e
 | .d (.dic b)::l,ts,vs,e,h=>by cases e
 | .d (.dit b)::l,ts,vs,e,h=>by cases e
 | .d (.ins b c)::l,ts,vs,e,h=>by cases e
 | .d (.exc b c)::l,ts,vs,e,h=>by cases e
 | .r n::l,ts,vs,e,h=>by cases e
 | .tp n::l,ts,vs,e,h=>by cases e
theorem Eh(K:PySem.W.Frag):lj C tZ (rSortedS K):=by
 intro Z loc s sv H rs vs Q r q h
 unfold tZ at h
 split at h
 ·obtain⟨v,t,rfl,st,q1,q2⟩:=q
  cases q2
  split at h
  ·rename_i ts e
   split at h
   ·rename_i hl
    obtain⟨l,e1,e2⟩:=Option.bind_eq_some_iff.mp e
    obtain⟨a,xs,rfl,h1,h2⟩:=r.lv q1 e1
    rw[strs_at e2 h2]at h1
    refine⟨a,ts.map hJ,rfl,.inl h1,by simpa using hl,fun ys p h3 h4 np=>?_⟩
    rw[sorted_strs h3 h4]
    exact h.new r np (by simp) ⟨_,upd_same,pw _⟩
   ·exact h.elim
  ·exact h.elim
 ·exact h.elim
theorem BC:∀ {l:List (K0×Val)} {ns:List Int} {ws:List (Key×V)},wi l=some ns→bS C.cA Z loc l ws→ws.map (·.1)=ns.map Sum.inl
 | [],ns,ws,e,h=>by cases e;rw[show ws=_ from h];rfl
 | (.i n,x)::l,ns,ws,e,⟨v,t,e1,q,h⟩=>by
  obtain⟨ns',e2,rfl⟩:=Option.map_eq_some_iff.mp e
  rw[e1,List.map_cons,BC e2 h];rfl
 | (.s n,x)::l,ns,ws,e,h=>by cases e
theorem A6:∀ {l:List (K0×Val)} {ns:List (List Nat)} {ws:List (Key×V)},vy l=some ns→bS C.cA Z loc l ws→ws.map (·.1)=(ns.map hJ).map Sum.inr
 | [],ns,ws,e,h=>by cases e;rw[show ws=_ from h];rfl
 | (.s n,x)::l,ns,ws,e,⟨v,t,e1,q,h⟩=>by
  obtain⟨ns',e2,rfl⟩:=Option.map_eq_some_iff.mp e
  rw[e1,List.map_cons,A6 e2 h];rfl
 | (.i n,x)::l,ns,ws,e,h=>by cases e
theorem C2:lj C lT (fun xs H Q=>∃ (a:Addr) (kvs:List (Key×V)) (ks:List Int),xs=[.ref a]∧Rd H a (.dK kvs)∧kvs.map (·.1)=ks.map Sum.inl∧ks.length<64∧∀ (ys:List Int) (p:Addr),ys.Perm ks→ys.Pairwise (· ≤ ·)→H p=none→Q (.ref p) (upd H p (.lst (ys.map V.int)))):=by
 intro Z loc s sv H rs vs Q r q h
 unfold lT at h
 split at h
 ·obtain⟨v,t,rfl,st,q1,q2⟩:=q
  cases q2
  split at h
  ·rename_i ns e
   split at h
   ·rename_i hl
    obtain⟨l,e1,e2⟩:=Option.bind_eq_some_iff.mp e
    obtain⟨a,ws,rfl,h1,h2⟩:=r.gF q1 e1
    refine⟨a,ws,ns,rfl,h1,BC e2 h2,hl,fun ys p h3 h4 np=>?_⟩
    rw[yz h3 h4]
    exact h.new r np (by simp) ⟨_,upd_same,uu _⟩
   ·exact h.elim
  ·exact h.elim
 ·exact h.elim
end
end Vw
namespace Vw
open PySem L2 PyProof.Rows
def x7(o:RV)(rs:List RV)(s:State):Res RV:=
 match rs with
 | [x]=>match (lv s o).bind strsOf,dv s x with
  | some ts,some (.str t)=>match ts.findIdx? (fun y=>decide (y=t))with
   | some j=>aF (.int (j:Nat)) s
   | none=>.stuck
  | _,_=>.stuck
 | _=>.stuck
def Lo(t:List Nat):List Nat:=(Txt.lower ⟨t.toArray⟩).cps.toList
def ug(o:RV)(rs:List RV)(s:State):Res RV:=
 match rs with
 | []=>match dv s o with
  | some (.str t)=>if t.length≤5592405 then aF (.str (Lo t)) s else .stuck
  | _=>.stuck
 | _=>.stuck
def iy(fo fk fd:State→Res RV)(s:State):Res RV:=(ev fo s).bind fun o s=>if ib s o then(ev fk s).bind fun k s=>(fd s).bind fun d s=>(match d4 s o k with
 | some (some v)=>.ok (.val v) s
 | some none=>.ok d s
 | none=>.stuck)else .stuck
section
variable{C:Cst}{Z Z' Zc:Hp}{loc loc' l':List Addr}{s s':State}{sv sv':L2.St}{H H':Hp}
theorem Fs{a b:List Nat}(h:hJ a=hJ b):a=b:=by
 have:=congrArg (fun x:Str=>x.cps.toList) h
 simpa [hJ]using this
theorem BQ(a b:List Nat):eqV (.str (hJ a)) (.str (hJ b))=decide (a=b):=by
 show(hJ a==hJ b)=_
 by_cases h:a=b
 ·subst h;simp
 ·have:¬ hJ a=hJ b:=fun z=>h (Fs z)
  simp[h,this]
theorem FJ(K:PySem.W.Frag):MtS C x7 (rIndex K):=by
 intro Z loc s sv H o v rs vs Q r q qs h
 unfold x7 at h
 split at h
 ·split at h
  ·rename_i ts t e1 e2
   split at h
   ·rename_i j e3
    obtain⟨l,e4,e5⟩:=Option.bind_eq_some_iff.mp e1
    obtain⟨a,xs,rfl,h1,h2⟩:=r.lv q e4
    rw[strs_at e5 h2]at h1
    obtain⟨w,rfl,rfl⟩:=D7 r qs e2
    have hj:=List.findIdx?_eq_some_iff_getElem.mp e3
    obtain⟨hj1,hj2,hj3⟩:=hj
    refine⟨a,(ts.map hJ).map V.str,.str (hJ t),j,.str (hJ ts[j]),rfl,rfl,.inl h1,rfl,?_,?_,?_,fun m z' hm hz=>?_,h.aF r rfl⟩
    ·rw[List.all_eq_true]
     intro x hx
     obtain⟨y,_,rfl⟩:=List.mem_map.mp hx
     rfl
    ·simp[hj1]
    ·rw[BQ];simpa using hj2
    ·have hm':m<ts.length:=by omega
     simp[hm']at hz
     subst hz
     rw[BQ]
     have:=hj3 m hm
     simpa using this
   ·exact h.elim
  ·exact h.elim
 ·exact h.elim
theorem D6:MtS C ug (fun x xs H Q=>∃ a,x=.str a∧xs=[]∧a.length≤5592405∧Q (.str (Txt.lower a)) H):=by
 intro Z loc s sv H o v rs vs Q r q qs h
 unfold ug at h
 split at h
 ·split at h
  ·rename_i t e
   split at h
   ·rename_i hl
    have qa:v=.str ⟨t.toArray⟩:=r.dv q e
    cases qs
    exact⟨_,qa,rfl,by simpa [Str.length]using hl,h.aF r (by show V.str _=V.str _;simp[Lo])⟩
   ·exact h.elim
  ·exact h.elim
 ·exact h.elim
variable{X:Cx}{v o:Expr}{pos pos':Pos}{fo fv:State→Res RV}{cA:String→Addr}
theorem IL{T:List (String×String)}{n:String}(F:p8 X.K C.cA T)(ho:PE X o (ai C fo))(hv:PE X v (ai C fv))(hsw:swapsWith v (some (.Attribute o (Str.ofString n) pos')) pos.line X.env=pure false):PS X (.Assign [.Attribute o (Str.ofString n) pos'] v pos) (dh C (ni T n fo fv)):=by
 refine jr (ps_fld ho hv hsw) fun D sv H ⟨Z,loc,s,r,q⟩=>?_
 refine(ai.wX r q).imp fun x H1 ⟨Z1,l1,s1,y,g1,r1,st1,q1,h1⟩=>?_
 refine(ai.wX r1 h1).imp fun u H2 ⟨Z2,l2,s2,y2,g2,r2,st2,q2,h2⟩=>?_
 have q1':=q1.mono (s':=s2) (H':=H2) g2 st1
 cases e1:bL y s2 with
 | stuck=>rw[e1]at h2;exact h2.elim
 | exc x s4=>rw[e1]at h2;exact h2.elim
 | ok z s4=>
  rw[e1]at h2
  dsimp only at h2
  obtain⟨Z4,g4,r4,q4⟩:=r2.bL q1' e1
  split at h2
  ·rename_i c fs e5
   split at h2
   ·rename_i hT
    simp only[Bool.and_eq_true,decide_eq_true_eq]at hT
    have q2':=q2.mono (s':=s4) (H':=H2) g4 st2
    obtain⟨a,rfl,_,dx,ws,hz,qf⟩:=r4.ob q2' e5
    obtain⟨f1,f2⟩:=F c n (by simpa using hT.1)
    refine⟨a,C.cA c,dx,ws,rfl,hz,f1,f2,by rw[←FO qf];exact hT.2,?_⟩
    have r5:=r4.write (o':=.ins c (xx n z fs)) (u:=.ins (C.cA c) dx (putF (Str.ofString n) x ws)) q2' e5 rfl (by simp) (fun x w z=>by rw[hz]at z;cases z) ⟨dx,_,upd_same,AB q4 qf⟩
    exact a0.nx (a0.ext h2 g4) r5
   ·exact h2.elim
  ·exact h2.elim
theorem IB{T:List (String×String)}{n:String}(hC:C.cA=cA)(F:p8 X.K cA T)(ho:PE X o (ai C fo))(hv:PE X v (ai C fv))(hsw:swapsWith v (some (.Attribute o (Str.ofString n) pos')) pos.line X.env=pure false):PS X (.Assign [.Attribute o (Str.ofString n) pos'] v pos) (dh C (ni T n fo fv)):=by
 subst hC
 exact IL F ho hv hsw
variable{fk fd:State→Res RV}{cpos apos:Pos}
theorem vr{g h:Expr}(hu:X.A.units+64<cLine)(ho:PE X o (ai C fo))(hk:PE X g (ai C fk))(hd:PE X h (ai C fd))(m:M2 X o "get" apos g h cpos):PE X (.Call (.Attribute o "get" apos) [g,h] [] cpos) (ai C (iy fo fk fd)):=by
 refine aV (pe_dget2 (by omega) ho hk hd m) fun sv H Q ⟨Z,loc,s,r,q⟩=>?_
 refine(ai.iZ r q).imp fun x H1 ⟨Z1,l1,s1,y,g1,r1,st1,q1,h1⟩=>?_
 split at h1
 ·rename_i e1
  obtain⟨a,rfl,hd⟩:=r1.ib q1 e1
  refine⟨a,rfl,hd,(ai.iZ r1 h1).imp fun k H2 ⟨Z2,l2,s2,y2,g2,r2,st2,q2,h2⟩=>(ai.oV r2 h2).imp fun z H3 ⟨Z3,l3,s3,y3,g3,r3,q3,h3⟩=>?_⟩
  have q1':=q1.mono (s':=s3) (H':=H3) (g2.trans g3) st1
  have q2':=q2.mono (s':=s3) (H':=H3) g3 st2
  split at h3
  ·rename_i v e2
   obtain⟨b,w,e3,d,o⟩:=r3.d4 q1' q2' e2
   cases e3
   cases w with
   | none=>exact o.elim
   | some w=>exact⟨some w,d,h3 Z3 l3 H3 w (Ext.refl _ _) r3 o⟩
  ·rename_i e2
   obtain⟨b,w,e3,d,o⟩:=r3.d4 q1' q2' e2
   cases e3
   cases w with
   | none=>exact⟨none,d,h3 Z3 l3 H3 z (Ext.refl _ _) r3 q3⟩
   | some w=>exact o.elim
  ·exact h3.elim
 ·exact h1.elim
end
end Vw
namespace L2
open PySem PySem.Spec PyProof.Rows
section
variable{X:Cx}{o:Expr}{td:TE}{p pos apos cpos:Pos}
def Lb(td:TE):TE:=fun σ H Q=>td σ H fun x H1=>∃ (a:Addr) (kvs:List (Key×V)) (ks:List Int),x=.ref a∧Rd H1 a (.dK kvs)∧kvs.map (·.1)=ks.map Sum.inl∧ks.length<64∧
  ∀ (ys:List Int) (q:Addr),ys.Perm ks→ys.Pairwise (· ≤ ·)→H1 q=none→Q (.ref q) (upd H1 q (.lst (ys.map V.int)))
theorem yO(hcalm:X.calm=true)(hg:Gl X "sorted")(hm:X.mg "sorted"=none)(he:PE X o td)(hst:starEach [Expr.Call (.Attribute o "keys" apos) [] [] cpos] X.env=[(false,eval (Expr.Call (.Attribute o "keys" apos) [] [] cpos) X.env)])(hbase:attributeBase o "keys" X.env (eval o X.env)=eval o X.env)(hline:(apos.endLine==cpos.line)=true):PE X (.Call (.Name "sorted" p) [.Call (.Attribute o "keys" apos) [] [] cpos] [] pos) (Lb td):=by
 refine⟨fun pins s σ H Q I h=>?_⟩
 refine wpAny_Call_Name_kw (ld_blt I hg hm (by rfl) ?_ (by decide) (by decide))
 refine PyProof.Rows.callWith_builtin1 ?_ (by rw[hst];rfl) (by rfl)
 rw[hst]
 show wpAny _ _ (spliced ((false,eval (Expr.Call (.Attribute o "keys" apos) [] [] cpos) X.env)::[])) _ _ s
 refine Calls.spliced_cons ?_
 refine wpAny_Call_method (T:="dict") (id:="dict.keys") hbase rfl hline F.plainAttrs_dict F.slot_dict_keys F.type_dict_keys (thn (he.run pins s σ H _ I h) fun u s1 ⟨x,H1,I1,rx,a,kvs,ks,ex,hd,hks,h64,q⟩=>?_)
 subst ex
 obtain rfl:u=Value.ref a:=rx
 obtain⟨z,lo,vs,rel,dd⟩:=dk_rd I1.hok hd
 obtain⟨ep,hat⟩:=dd.dictAt
 refine⟨hat.dictOf.typeIs,hat.dictOf.mapOf.noDict,?_⟩
 have I2:Inv X pins σ H1 { s1 with heap:=s1.heap.push { cls:=.type "dict_keys",data:=.fields #[.ref a] } }:=I1.kept (t':=s1.toks) fun b ob q=>Heap.get?_push_of_some _ q
 have hkeys:vs.map (·.1)=ks.map Sum.inl:=rel.keys.symm.trans hks
 have hl:vs.length=ks.length:=by
  have e:=congrArg List.length hkeys
  rw[List.length_map,List.length_map]at e
  exact e
 have h16:vs.length≤sizeLine:=by rw[hl,sizeLine_eq];omega
 have hok:PySem.W.KdlKeysView (s1.heap.push { cls:=.type "dict_keys",data:=.fields #[.ref a] }) s1.heap.objs.size a∧(s1.heap.push { cls:=.type "dict_keys",data:=.fields #[.ref a] }).DictAt (mixKind X.prog X.w) a vs ep:=⟨⟨_,Heap.get?_push_size _ rfl,rfl,rfl⟩,hat.push _⟩
 have fin:wpAny (model X.prog X.w) X.A (call (.builtin "sorted") [.ref s1.heap.objs.size]) (EP X pins σ Q) X.xe { s1 with heap:=s1.heap.push { cls:=.type "dict_keys",data:=.fields #[.ref a] } }:=by
  refine Calls.call_function_entry PyProof.Rows.kind_sorted PyProof.Rows.plain_sorted PyProof.Rows.entry_sorted (PyProof.Rows.args_sorted1 _) ?_
  unfold Builtin.«sorted»
  refine wpAny_bind (m:=checkCount "sorted" 1 1 _) (wpAny_pure ?_)
  refine wpAny_bind (PySem.W.kdu_collect (A:=X.A.in1) (PySem.W.kdl_keys (knd:=mixKind X.prog X.w) (kvs:=vs) (ep:=ep)) (I2.ok.hd hcalm) hok h16 fun h' tk acc hk hacc=>?_)
  have hal:acc.toList.length=ks.length:=by rw[Array.length_toList,hacc.1,hl]
  have hS:IntsAre acc.toList ks:=ints_each hal fun j v e=>by
   obtain⟨k,x,e1,e2⟩:=hacc.2 j v (by rw[←Array.getElem?_toList];exact e)
   have e3:(vs.map (·.1))[j]? =some k:=by rw[List.getElem?_map,e1];all_goals rfl
   rw[hkeys,List.getElem?_map]at e3
   cases e4:ks[j]? with
   | none=>rw[e4]at e3;cases e3
   | some y=>
    rw[e4]at e3
    have e5:Sum.inl y=k:=Option.some.inj e3
    subst e5
    rcases keyIs_shape (show keyIs (Sum.inl y) v=true from e2)with⟨i,t,ek,ev⟩ | ⟨z,t,ek,ev⟩
    ·cases ek
     exact⟨y,t,rfl,ev⟩
    ·cases ek
  have I3:Inv X pins σ H1 { s1 with heap:=h',toks:=tk }:=I2.kept hk
  refine wpAny_bind (wpAny_newList ?_ (by rw[hal,sizeLine_eq];omega))
  have hoL:(h'.push (seqObj "list" acc.toList.toArray 0)).get? h'.objs.size=some (seqObj "list" acc.toList.toArray 0):=Heap.get?_push_size _ rfl
  show wpAny _ _ _ _ _ { s1 with heap:=h'.push (seqObj "list" acc.toList.toArray 0),toks:=tk }
  refine wpAny_bind (wpAny_holding (wpAny_call_entry PyProof.Rows.slot_list_sort ⟨_,hoL,rfl⟩ PyProof.Rows.entry_list_sort
   (PyProof.Rows.list_sort_tree (s:={ s1 with heap:=h'.push (seqObj "list" acc.toList.toArray 0),toks:=tk }) hoL hS (by rw[hal];exact h64) fun out ys g1 g2 g3=>⟨_,rfl,?_⟩) (PyProof.Rows.args_list_sort _)))
  obtain⟨e',he'⟩:=PyProof.Rows.sortedHeap_at (vs:=acc.toList) (out:=out) hoL
  have hlen:(ys.map V.int).length≤sizeLine:=by
   rw[List.length_map,g2.length_eq]
   exact Nat.le_trans (Nat.le_of_lt h64) (by decide)
  refine wpAny_pure ⟨_,rfl,.ref h'.objs.size,upd H1 h'.objs.size (.lst (ys.map V.int)),I3.laid (t':=tk) (fun b u e=>?_) (Nat.le_refl _)
   (show ObjOk X.prog X.w _ _ _ (.lst (ys.map V.int))from⟨hlen,out.toList,e',vals_of_ints g1,by rw[Array.toArray_toList];exact he'⟩),rfl,q ys _ g2 g3 (I3.hok.fresh (Nat.le_refl _))⟩
  have hb:b<h'.objs.size:=Heap.lt_size e
  rw[PyProof.Rows.sortedHeap_old (Nat.ne_of_lt hb) (by rw[size_push'];exact Nat.lt_succ_of_lt hb)]
  exact Heap.get?_push_of_some _ e
 have fin2:wpAny (model X.prog X.w) X.A (spliced []) (fun vs s₁=>wpAny (model X.prog X.w) X.A (call (.builtin "sorted") (.ref s1.heap.objs.size::vs)) (EP X pins σ Q) X.xe s₁) X.xe { s1 with heap:=s1.heap.push { cls:=.type "dict_keys",data:=.fields #[.ref a] } }:=Calls.spliced_nil fin
 show wpAny _ _ (callWith cpos (.builtin "dict.keys") [.ref a] [] []) _ X.xe s1
 exact method_meetsIn F.slot_dict_keys F.entry_dict_keys rfl (PySem.evalArgs_none ⟨rfl,hat.dictOf.typeIs,F.args_dict_keys_1 _,_,PySem.W.kdl_meets_keys (mixKind X.prog X.w) a lo,⟨vs,hat.dictOf⟩,fin2⟩)
end
end L2
namespace Vw
open PySem L2 PyProof.Rows
section
variable{C:Cst}{X:Cx}{o:Expr}{p pos apos cpos:Pos}{fo:State→Res RV}
theorem xO(s:State)(b:List RV→State→Res RV):(aq [fo] s).bind b=(ev fo s).bind fun x s=>b [x] s:=by
 show((ev fo s).bind fun x s=>(Res.ok [] s).bind fun xs s=>Res.ok (x::xs) s).bind b=_
 cases ev fo s<;> rfl
theorem Fi(hcalm:X.calm=true)(hg:Gl X "sorted")(hm:X.mg "sorted"=none)(he:PE X o (ai C fo))(hst:starEach [Expr.Call (.Attribute o "keys" apos) [] [] cpos] X.env=[(false,eval (Expr.Call (.Attribute o "keys" apos) [] [] cpos) X.env)])(hbase:attributeBase o "keys" X.env (eval o X.env)=eval o X.env)(hline:(apos.endLine==cpos.line)=true):PE X (.Call (.Name "sorted" p) [.Call (.Attribute o "keys" apos) [] [] cpos] [] pos) (ai C (di (aq [fo]) lT)):=by
 refine aV (yO hcalm hg hm he hst hbase hline) fun sv H Q ⟨Z,loc,s,r,q⟩=>?_
 have q:EPost C Z loc sv ((ev fo s).bind fun x s=>lT [x] s) Q:=by rw[←xO];exact q
 refine(ai.iZ r q).imp fun v H1 ⟨Z1,l1,s1,y,g1,r1,st1,q1,h1⟩=>?_
 obtain⟨a,kvs,ks,e,h⟩:=C2 Z1 l1 s1 sv H1 [y] [v] Q r1 ⟨v,[],rfl,st1,q1,rfl⟩ h1
 cases e
 exact⟨a,kvs,ks,rfl,h⟩
end
end Vw
namespace Vw
open PySem L2 PyProof.Rows
def frzK{κ:Type}(f:Val→Option D):List (κ×Val)→Option (List (κ×D))
 | []=>some []
 | (k,x)::l=>match f x,frzK f l with
  | some d,some ds=>some ((k,d)::ds)
  | _,_=>none
def jM(f:Val→Option D):Ob→Option D
 | .lst l=>(d0 f l).map .lst
 | .ins c fs=>(jo f fs).map (.ins c)
 | .dic _ l=>(frzK f l).map .dic
 | .dit _ l=>(frzK f l).map .dit
 | .gone=>none
def bp(ok:Nat→Bool):Nat→List Ob→Val→Option D
 | 0,_,v=>match v with
  | .d x=>some x
  | _=>none
 | n+1,st,v=>match v with
  | .d x=>some x
  | .tp l=>(d0 (bp ok n st) l).map .tup
  | .r m=>if ok m=true then(match st[m]? with
   | some o=>jM (bp ok n st) o
   | none=>none)else none
def bP(_:Nat):Bool:=true
def mP(n:Nat)(s:State)(v:Val):Option D:=bp bP n s.st v
def HC:HO→Prop
 | .frz _ _=>False
 | _=>True
structure GoodY (Z H:Hp) (L:Addr→Prop) (Zc:Hp):Prop where
 up:Same Z Zc
 at_:∀ (a:Addr) (o:HO),Zc a=some o→Z a=some o∨(Z a=none∧Rz H a o∧L a∧HC o)
section
variable{C:Cst}{Z Z' Zc Zd:Hp}{loc loc' l':List Addr}{L:Addr→Prop}{s s':State}{sv sv':L2.St}{H H':Hp}
variable{X:Cx}{e a b c o:Expr}{es:List Expr}{p pos apos:Pos}{f fa fb fc fo fi fv:State→Res RV}
theorem GoodY.refl:GoodY Z H L Z:=⟨Same.refl _,fun a o h=>.inl h⟩
theorem Kn{a:Addr}{u w:HO}(h1:Rz H a u)(h2:Rz H a w)(n1:HC u)(n2:HC w):w=u:=by
 rcases h1 with h1 | ⟨_,o1,h1⟩
 ·rcases h2 with h2 | ⟨_,o2,h2⟩
  ·rw[h1]at h2;cases h2;rfl
  ·rw[h1]at h2;cases h2;exact n1.elim
 ·rcases h2 with h2 | ⟨_,o2,h2⟩
  ·rw[h1]at h2;cases h2;exact n2.elim
  ·rw[h1]at h2;cases h2;rfl
theorem GoodY.add(g:GoodY Z H L Zc){a:Addr}{u:HO}(z:Z a=none)(h1:Rz H a u)(hl:L a)(hn:HC u):∃ Zd,Same Zc Zd∧GoodY Z H L Zd∧Zd a=some u:=by
 cases ez:Zc a with
 | none=>
  refine⟨upd Zc a u,bC ez,⟨g.up.trans (bC ez),fun b w hb=>?_⟩,upd_same⟩
  by_cases hba:b=a
  ·subst hba
   rw[upd_same]at hb
   cases hb
   exact .inr ⟨z,h1,hl,hn⟩
  ·rw[upd_ne hba]at hb
   exact g.at_ b w hb
 | some w=>
  have hw:w=u:=by
   rcases g.at_ a w ez with q | ⟨_,q,_,n⟩
   ·rw[z]at q;cases q
   ·exact Kn h1 q hn n
  subst hw
  exact⟨Zc,Same.refl _,g,ez⟩
def Fy(C:Cst)(Z:Hp)(loc:List Addr)(H:Hp)(L:Addr→Prop)(f:Val→Option D):Prop:=∀ (Zc:Hp) (x:Val) (v:V) (d:D),GoodY Z H L Zc→bo C.cA Z loc x v→f x=some d→∃ Zd,Same Zc Zd∧GoodY Z H L Zd∧aN C.cA Zd d v
theorem zr{f:Val→Option D}(hf:Fy C Z loc H L f):∀ {Zc:Hp} {l:List Val} {vs:List V} {ds:List D},GoodY Z H L Zc→aE C.cA Z loc l vs→d0 f l=some ds→∃ Zd,Same Zc Zd∧GoodY Z H L Zd∧bq C.cA Zd ds vs
 | Zc,[],vs,ds,g,h,e=>by cases e;exact⟨Zc,Same.refl _,g,h⟩
 | Zc,x::l,vs,ds,g,⟨v,t,e1,q,h⟩,e=>by
  unfold d0 at e
  split at e
  ·rename_i d ds' e2 e3
   cases e
   obtain⟨Z1,s1,g1,r1⟩:=hf Zc x v d g q e2
   obtain⟨Z2,s2,g2,r2⟩:=zr hf g1 h e3
   exact⟨Z2,s1.trans s2,g2,v,t,e1,aN.mono s2 d r1,r2⟩
  ·cases e
theorem Ei{f:Val→Option D}(hf:Fy C Z loc H L f):∀ {Zc:Hp} {l:List (String×Val)} {vs:List (Str×V)} {ds:List (String×D)},GoodY Z H L Zc→eu C.cA Z loc l vs→jo f l=some ds→∃ Zd,Same Zc Zd∧GoodY Z H L Zd∧fU C.cA Zd ds vs
 | Zc,[],vs,ds,g,h,e=>by cases e;exact⟨Zc,Same.refl _,g,h⟩
 | Zc,(k,x)::l,vs,ds,g,⟨v,t,e1,q,h⟩,e=>by
  unfold jo at e
  split at e
  ·rename_i d ds' e2 e3
   cases e
   obtain⟨Z1,s1,g1,r1⟩:=hf Zc x v d g q e2
   obtain⟨Z2,s2,g2,r2⟩:=Ei hf g1 h e3
   exact⟨Z2,s1.trans s2,g2,v,t,e1,aN.mono s2 d r1,r2⟩
  ·cases e
theorem Eu{f:Val→Option D}(hf:Fy C Z loc H L f):∀ {Zc:Hp} {l:List (K0×Val)} {vs:List (Key×V)} {ds:List (K0×D)},GoodY Z H L Zc→bS C.cA Z loc l vs→frzK f l=some ds→∃ Zd,Same Zc Zd∧GoodY Z H L Zd∧fG C.cA Zd ds vs
 | Zc,[],vs,ds,g,h,e=>by cases e;exact⟨Zc,Same.refl _,g,h⟩
 | Zc,(k,x)::l,vs,ds,g,⟨v,t,e1,q,h⟩,e=>by
  unfold frzK at e
  split at e
  ·rename_i d ds' e2 e3
   cases e
   obtain⟨Z1,s1,g1,r1⟩:=hf Zc x v d g q e2
   obtain⟨Z2,s2,g2,r2⟩:=Eu hf g1 h e3
   exact⟨Z2,s1.trans s2,g2,v,t,e1,aN.mono s2 d r1,r2⟩
  ·cases e
theorem EE{f:Val→Option D}(hf:Fy C Z loc H L f):∀ {Zc:Hp} {l:List (List K0×Val)} {vs:List (List Key×V)} {ds:List (List K0×D)},GoodY Z H L Zc→cR C.cA Z loc l vs→frzK f l=some ds→∃ Zd,Same Zc Zd∧GoodY Z H L Zd∧iU C.cA Zd ds vs
 | Zc,[],vs,ds,g,h,e=>by cases e;exact⟨Zc,Same.refl _,g,h⟩
 | Zc,(k,x)::l,vs,ds,g,⟨v,t,e1,q,h⟩,e=>by
  unfold frzK at e
  split at e
  ·rename_i d ds' e2 e3
   cases e
   obtain⟨Z1,s1,g1,r1⟩:=hf Zc x v d g q e2
   obtain⟨Z2,s2,g2,r2⟩:=EE hf g1 h e3
   exact⟨Z2,s1.trans s2,g2,v,t,e1,aN.mono s2 d r1,r2⟩
  ·cases e
theorem Hc{H:Hp}{a:Addr}{u:HO}{k:Bool}(h:u6 H a u k)(hd:m9 u=true):Rz H a u:=by
 cases k with
 | false=>exact .inl h
 | true=>exact .inr ⟨hd,h⟩
theorem KZ{f:Val→Option D}(hf:Fy C Z loc H L f){o:Ob}{a:Addr}{d:D}(g:GoodY Z H L Zc)(cell:Cell C.cA Z loc H a o)(z:Z a=none)(hl:L a)(e:jM f o=some d):∃ Zd,Same Zc Zd∧GoodY Z H L Zd∧aN C.cA Zd d (.ref a):=by
 cases o with
 | lst l=>
  obtain⟨ds,e1,rfl⟩:=Option.map_eq_some_iff.mp e
  obtain⟨xs,h1,h2⟩:=cell
  obtain⟨Z1,s1,g1,r1⟩:=zr hf g h2 e1
  obtain⟨Z2,s2,g2,h3⟩:=g1.add z (.inl h1) hl trivial
  exact⟨Z2,s1.trans s2,g2,a,xs,rfl,.inl h3,bq.mono s2 ds r1⟩
 | ins c fs=>
  obtain⟨ds,e1,rfl⟩:=Option.map_eq_some_iff.mp e
  obtain⟨dx,xs,h1,h2⟩:=cell
  obtain⟨Z1,s1,g1,r1⟩:=Ei hf g h2 e1
  obtain⟨Z2,s2,g2,h3⟩:=g1.add z (.inl h1) hl trivial
  exact⟨Z2,s1.trans s2,g2,a,dx,xs,rfl,h3,fU.mono s2 ds r1⟩
 | dic k l=>
  obtain⟨ds,e1,rfl⟩:=Option.map_eq_some_iff.mp e
  obtain⟨ws,h1,h2⟩:=cell
  obtain⟨Z1,s1,g1,r1⟩:=Eu hf g h2 e1
  obtain⟨Z2,s2,g2,h3⟩:=g1.add z (Hc h1 rfl) hl trivial
  exact⟨Z2,s1.trans s2,g2,a,ws,rfl,h3,fG.mono s2 ds r1⟩
 | dit k l=>
  obtain⟨ds,e1,rfl⟩:=Option.map_eq_some_iff.mp e
  obtain⟨ws,h1,h2⟩:=cell
  obtain⟨Z1,s1,g1,r1⟩:=EE hf g h2 e1
  obtain⟨Z2,s2,g2,h3⟩:=g1.add z (Hc h1 rfl) hl trivial
  exact⟨Z2,s1.trans s2,g2,a,ws,rfl,h3,iU.mono s2 ds r1⟩
 | gone=>cases e
theorem um(r:SR C Z loc s sv H)(ok:Nat→Bool):∀ n:Nat,Fy C Z loc H (fun a=>∃ m:Nat,ok m=true∧loc[m]? =some a) (bp ok n s.st)
 | 0=>fun Zc x v d g q e=>by
  cases x with
  | d y=>cases e;exact⟨Zc,Same.refl _,g,aN.mono g.up _ q⟩
  | r m=>cases e
  | tp l=>cases e
 | n+1=>fun Zc x v d g q e=>by
  cases x with
  | d y=>cases e;exact⟨Zc,Same.refl _,g,aN.mono g.up _ q⟩
  | r m=>
   have e':(if ok m=true then(match s.st[m]? with
    | some o=>jM (bp ok n s.st) o
    | none=>none)else none)=some d:=e
   split at e'
   ·rename_i hok
    split at e'
    ·rename_i o h1
     obtain⟨a,h2,rfl⟩:=q
     have ne:o≠ .gone:=fun z=>by subst z;cases e'
     obtain⟨c1,c2⟩:=r.cl m a o h2 h1 ne
     exact KZ (um r ok n) g c1 c2 ⟨m,hok,h2⟩ e'
    ·cases e'
   ·cases e'
  | tp l=>
   have e':(d0 (bp ok n s.st) l).map D.tup=some d:=e
   obtain⟨ds,e1,rfl⟩:=Option.map_eq_some_iff.mp e'
   obtain⟨a,vs,rfl,h1,h2⟩:=q
   obtain⟨Z1,s1,g1,r1⟩:=zr (um r ok n) g h2 e1
   exact⟨Z1,s1,g1,a,vs,rfl,g1.up _ _ h1,r1⟩
theorem SR.CT(r:SR C Z loc s sv H)(k:Same Z Zd)(hn:∀ a u,Zd a=some u→Z a=some u∨(Rz H a u∧C.Fr a=none∧a∉loc∧∀ (i:Nat) (o:Ob),s.sg[i]? =some (some (.own o))→sv[i]? ≠some (some (.ref a)))):SR C Zd loc s sv H:=by
 have g:Ext Z loc Zd loc:=⟨k,[],by simp⟩
 refine⟨r.fr,fun a o h=>(hn a o h).elim (r.zh a o) fun q=>q.1,fun a o h=>(hn a o h).elim (r.zf a o) fun q=>q.2.1,r.lk,r.ln,r.nd,r.lh,fun n a o h1 h2 h3=>?_,fun i x h=>?_,fun i o h=>?_,r.oi,r.ls⟩
 ·obtain⟨q1,q2⟩:=r.cl n a o h1 h2 h3
  refine⟨q1.mono g (Same.refl _),?_⟩
  cases e:Zd a with
  | none=>rfl
  | some u=>
   rcases hn a u e with q | ⟨_,_,q,_⟩
   ·rw[q2]at q;cases q
   ·exact absurd (List.mem_of_getElem? h1) q
 ·obtain⟨v,q1,q2⟩:=r.vl i x h
  exact⟨v,q1,bo.mono g x q2⟩
 ·obtain⟨a,q1,q2,q3,q4,q5,q6⟩:=r.ow i o h
  refine⟨a,q1,q2,q3.mono g (Same.refl _),?_,q5,q6⟩
  cases e:Zd a with
  | none=>rfl
  | some u=>
   rcases hn a u e with q | ⟨_,_,_,q⟩
   ·rw[q4]at q;cases q
   ·exact absurd q1 (q i o h)
end
end Vw
namespace SrtO
open PySem PyProof.Rows Srt
section
variable{prog:Program}{w:World}{A:Around}{E:Value→Shared→Prop}{s:Shared}
def E6(h:Heap)(v:Value)(x:Int):Prop:=∃ a o t u n,v=.ref a∧h.get? a=some o∧o.cls=.type "tuple"∧o.data=.seq #[.int x t,u] n
theorem E6.keeps{h h':Heap}{v:Value}{x:Int}(p:E6 h v x)(k:∀ b o,h.get? b=some o→o.cls=.type "tuple"→h'.get? b=some o):E6 h' v x:=by
 obtain⟨a,o,t,u,n,e,ho,hc,hd⟩:=p
 exact⟨a,o,t,u,n,e,k _ _ ho hc,hc,hd⟩
end
end SrtO
namespace L2
open PySem PySem.Spec PyProof.Rows
end L2
namespace Vw
open PySem L2 PyProof.Rows
def kf:Val→Option Int
 | .d (.tup [.int n,_])=>some n
 | .tp [.d (.int n),_]=>some n
 | _=>none
end Vw
namespace Vw
open PySem L2 PyProof.Rows
end Vw
namespace L2
open PySem PySem.Spec PyProof.Rows
end L2
namespace Vw
open PySem L2 PyProof.Rows
end Vw
namespace Vw
open PySem L2 PyProof.Rows
def Cq(ex:PySem.W.Frag→Bool)(as:List Addr)(fa:List He.Fa)(fn:List He.DefD)(g:Addr→Option Obj):Dx:=(He.obsD fa fn (He.frG g as),rO (He.frG g as)&&ex (He.frG g as))
def G5(ex:PySem.W.Frag→Bool)(as:List Addr)(fa:List He.Fa)(fn:List He.DefD):PySem.W.Hook where
 α:=Dx
 obs:=fun s=>Cq ex as fa fn s.heap.get?
 val:=fun _=>(He.valD fn,true)
 says:=fun _ h=>∃ K:PySem.W.Frag,K.In h∧He.SaysD fa fn K∧rO K=true∧ex K=true
 of:=fun _ _ e=>⟨_,He.frG_in,congrArg (fun z:Dx=>z.1) e,Bool.and_eq_true_iff.mp (congrArg (fun z:Dx=>z.2) e)⟩
 keeps:=fun _ _ _ ⟨K,hK,c⟩ k=>⟨K,PySem.W.Frag.In.keeps hK k,c⟩
theorem I4{ex:PySem.W.Frag→Bool}{as:List Addr}{fa:List He.Fa}{fn:List He.DefD}{g:Addr→Option Obj}{s:Shared}(h:∀ a,g a=s.heap.get? a):Cq ex as fa fn g=(G5 ex as fa fn).obs s:=by
 have e:g=s.heap.get? :=funext h
 rw[e]<;> rfl
theorem oG{α β γ:Type}{e:Option α}{f:α→β}{g:α→γ}{b:β}{c:γ}(h1:e.map f=some b)(h2:e.map g=some c):e.map (fun s=>(f s,g s))=some (b,c):=by
 cases e with
 | none=>cases h1
 | some s=>rw[Option.map_some]at *;cases h1;cases h2;rfl
theorem wN{α:Type}{e:Option α}{f g:α→Bool}(h1:e.map f=some true)(h2:e.map g=some true):e.map (fun s=>f s&&g s)=some true:=by
 cases e with
 | none=>cases h1
 | some s=>rw[Option.map_some]at *;rw[Option.some.inj h1,Option.some.inj h2];rfl
theorem Gg{α:Type}{e:Option α}{ex:PySem.W.Frag→Bool}{as:List Addr}{fa:List He.Fa}{fn:List He.DefD}{g:α→Addr→Option Obj}(h1:e.map (fun s=>fa.all fun f=>f.ok (He.frG (g s) as))=some true)(h2:e.map (fun s=>fn.all fun d=>d.ok (He.frG (g s) as))=some true)
  (h3:e.map (fun s=>fn.map fun d=>He.fnW (He.frG (g s) as) d.at_)=some (fn.map He.DefD.val)) (h4:e.map (fun s=>rO (He.frG (g s) as))=some true) (h5:e.map (fun s=>ex (He.frG (g s) as))=some true):e.map (fun s=>Cq ex as fa fn (g s))=some (He.valD fn,true):=
 oG (oG (wN h1 h2) h3) (wN h4 h5)
end Vw
namespace K06
open PySem L2 PyProof.Rows Vw
def top(i:Nat):Stmt:=PySem.Challenge.pw_findcourt_k06_pieces.main.body.getD i (.Pass ⟨0,0,0,0⟩)
def IT(s:Stmt):List Stmt:=match s with
 | .ClassDef _ _ _ b _ _ _ _ _ _ _=>b
 | _=>[]
def da(i j:Nat):Stmt:=(IT (top i)).getD j (.Pass ⟨0,0,0,0⟩)
def fT:List (String×String):=[("Piece","held_makes"),("Piece","lengths"),("Piece","table")]
def pG:He.DefD:=⟨("_law_draws",none),"_law_draws","_law_draws",defArgs (top 19),defBody (top 19),defScope (top 19),[],[]⟩
def qC:He.DefD:=⟨("_law_text",none),"_law_text","_law_text",defArgs (top 20),defBody (top 20),defScope (top 20),[],[]⟩
def mf:He.DefD:=⟨("_law_document",none),"_law_document","_law_document",defArgs (top 21),defBody (top 21),defScope (top 21),[],[]⟩
def pJ:He.DefD:=⟨("_law_makes",none),"_law_makes","_law_makes",defArgs (top 25),defBody (top 25),defScope (top 25),[],[]⟩
def u7:He.DefD:=⟨("is_name",none),"is_name","is_name",defArgs (top 8),defBody (top 8),defScope (top 8),[],[]⟩
def j1:He.DefD:=⟨("look_at_document",none),"look_at_document","look_at_document",defArgs (top 9),defBody (top 9),defScope (top 9),[],[]⟩
def my:He.DefD:=⟨("look_at_makes",none),"look_at_makes","look_at_makes",defArgs (top 13),defBody (top 13),defScope (top 13),[],[]⟩
def ud:He.DefD:=⟨("lowered",none),"lowered","lowered",defArgs (top 10),defBody (top 10),defScope (top 10),[],[]⟩
def sL:He.DefD:=⟨("words_of",none),"words_of","words_of",defArgs (top 11),defBody (top 11),defScope (top 11),[],[]⟩
def uZ:He.DefD:=⟨("counted",none),"counted","counted",defArgs (top 14),defBody (top 14),defScope (top 14),[],[]⟩
def lr:He.DefD:=⟨("Piece",some "take_in"),"take_in","Piece.take_in",defArgs (da 16 1),defBody (da 16 1),defScope (da 16 1),[],[]⟩
def kU:He.DefD:=⟨("Piece",some "__init__"),"__init__","Piece.__init__",defArgs (da 16 0),defBody (da 16 0),defScope (da 16 0),[],[]⟩
def nv:He.DefD:=⟨("Piece",some "makes"),"makes","Piece.makes",defArgs (da 16 2),defBody (da 16 2),defScope (da 16 2),[],[]⟩
def pE:He.DefD:=⟨("_law_words",none),"_law_words","_law_words",defArgs (top 22),defBody (top 22),defScope (top 22),[],[]⟩
def pL:He.DefD:=⟨("_law_table",none),"_law_table","_law_table",defArgs (top 23),defBody (top 23),defScope (top 23),[],[]⟩
def md:He.DefD:=⟨("Piece",some "fields"),"fields","Piece.fields",defArgs (da 16 3),defBody (da 16 3),defScope (da 16 3),[],[]⟩
def nG:He.DefD:=⟨("Piece",some "words"),"words","Piece.words",defArgs (da 16 4),defBody (da 16 4),defScope (da 16 4),[],[]⟩
def kS:He.DefD:=⟨("copied_postings",none),"copied_postings","copied_postings",defArgs (top 15),defBody (top 15),defScope (top 15),[],[]⟩
def kJ:He.DefD:=⟨("Piece",some "postings"),"postings","Piece.postings",defArgs (da 16 5),defBody (da 16 5),defScope (da 16 5),[],[]⟩
def mw:He.DefD:=⟨("Piece",some "length"),"length","Piece.length",defArgs (da 16 6),defBody (da 16 6),defScope (da 16 6),[],[]⟩
def pH:He.DefD:=⟨("_law_tells",none),"_law_tells","_law_tells",defArgs (top 24),defBody (top 24),defScope (top 24),[],[]⟩
def pK:He.DefD:=⟨("_law_spoil",none),"_law_spoil","_law_spoil",defArgs (top 26),defBody (top 26),defScope (top 26),[],[]⟩
def D8:He.DefD:=⟨("law",none),"law","law",defArgs (top 27),defBody (top 27),defScope (top 27),[],[]⟩
def qm:He.DefD:=⟨("NoField",some "__init__"),"__init__","NoField.__init__",defArgs (da 2 0),defBody (da 2 0),defScope (da 2 0),[],[]⟩
def so:He.DefD:=⟨("NoMake",some "__init__"),"__init__","NoMake.__init__",defArgs (da 3 0),defBody (da 3 0),defScope (da 3 0),[],[]⟩
def xy:List He.DefD:=[pG,qC,mf,pJ,u7,j1,my,ud,sL,uZ,lr,kU,nv,pE,pL,md,nG,kS,kJ,mw,pH,pK,D8,qm,so]
def GU:List He.Fa:=[.glo "_law_draws",.glo "_law_text",.glo "_law_document",.glo "_law_makes",.glo "is_name",.glo "look_at_document",.glo "look_at_makes",.glo "lowered",.glo "words_of",.glo "counted",.meth "Piece" "take_in",.meth "Piece" "makes",.glo "_law_words",.glo "_law_table",.meth "Piece" "fields",.meth "Piece" "words",.glo "copied_postings",.meth "Piece" "postings",.meth "Piece" "length",.glo "_law_tells",.glo "_law_spoil",.glo "law",.free "abs",.free "all",.free "bool",.free "dict",.free "enumerate",.free "int",.free "isinstance",.free "len",.free "list",.free "min",.free "range",.free "sorted",.str "FIGURES" "0123456789",.str "GREAT" "ABCDEFGHIJKLMNOPQRSTUVWXYZ",.str "LETTERS" "abcdefghijklmnopqrstuvwxyz",.glo "NoField",.glo "NoMake",.glo "Piece",.cls "Piece",.mkr "Piece"]
def NR(K:PySem.W.Frag):List Bool:=[GL K "NoField",GL K "NoMake",F6 K fT]
def Ew(K:PySem.W.Frag):Bool:=(NR K).all id
theorem JB{K:PySem.W.Frag}(h:Ew K=true)(i:Nat){b:Bool}(e:(NR K)[i]? =some b):b=true:=List.all_eq_true.mp h b (List.mem_of_getElem? e)
abbrev Rr:PySem.W.OpenRow:=PySem.W.OpenLaw.row PySem.Challenge.rw_findcourt_k06_pieces
def CC:List Addr:=[3,185,190,195,221,70,77,98,84,91,105,129,122,136,202,209,143,150,110,157,164,214,228,233,41,60,44,63,167,184,189,194,220,69,76,97,83,90,104,128,121,135,201,208,142,149,109,156,163,213,227,232,40,59,43,24,62,166,179,180,181,182,183,186,187,188,191,192,193,215,216,217,218,219,66,67,68,71,72,73,74,75,92,93,94,95,96,78,79,80,81,82,85,86,87,88,89,99,100,101,102,103,123,124,125,126,127,118,119,120,130,131,132,133,134,196,197,198,199,200,203,204,205,206,207,137,138,139,140,141,144,145,146,147,148,106,107,108,151,152,153,154,155,158,159,160,161,162,210,211,212,222,223,224,225,226,229,230,231,35,36,37,38,39,54,55,56,57,58,23]
abbrev hk:PySem.W.Hook:=G5 Ew CC GU xy
def K6(s:PySem.W.SharedT):Dx:=Cq Ew CC GU xy (HandSHeadRun.getT s)
theorem Mh(s:PySem.W.SharedT):K6 s=hk.obs s.abs:=I4 (HandSHeadRun.getT_eq s)
theorem yF{α β γ:Type}{e:Option α}{f:α→β}{g:α→γ}{b:β}{c:γ}(h:e.map (fun s=>(f s,g s))=some (b,c)):e.map f=some b∧e.map g=some c:=by
 cases e with
 | none=>cases h
 | some s=>exact⟨congrArg some (congrArg Prod.fst (Option.some.inj h)),congrArg some (congrArg Prod.snd (Option.some.inj h))⟩
abbrev vQ:Program:=PySem.W.view Rr.prog [27]
noncomputable abbrev eE(w:World)(os:OsState):=HandSHeadRun.endF (HandSHeadRun.stepQ (HandSHeadRun.denQ HandSHeadRun.tabQ) Rr.prog w) 6000 Rr.prog w os
noncomputable abbrev kF(s:PySem.W.SharedT):PySem.W.Frag:=He.frG (HandSHeadRun.getT s) CC
theorem Nv(w:World)(os:OsState):(eE w os).map (fun s=>(HandSHeadRun.looksF Rr.prog (PySem.W.boot_heap w.params) s.abs,(HandSHeadRun.seenQ vQ ["FindError","NoField","NoMake","LETTERS","GREAT","FIGURES","is_name","look_at_document","lowered","words_of","look_at_makes","counted","copied_postings","Piece","_law_cell_at","_law_draws","_law_text","_law_document","_law_words","_law_table","_law_tells","_law_makes","_law_spoil"] (importedModules Rr.prog.main.body) (fun s=>PySem.W.xlAt vQ [] s&&PySem.W.recOk Rr.toRowW.records s) s.abs,(rO (kF s),Ew (kF s)))))=some (true,(PySem.W.openGood vQ ["FindError","NoField","NoMake","LETTERS","GREAT","FIGURES","is_name","look_at_document","lowered","words_of","look_at_makes","counted","copied_postings","Piece","_law_cell_at","_law_draws","_law_text","_law_document","_law_words","_law_table","_law_tells","_law_makes","_law_spoil"],(true,true))):=by kernel_rfl
theorem MB(w:World)(os:OsState):(eE w os).map (fun s=>GU.all fun f=>f.ok (kF s))=some true:=by kernel_rfl
theorem JO(w:World)(os:OsState):(eE w os).map (fun s=>(xy.take 11).all fun d=>d.ok (kF s))=some true:=by kernel_rfl
theorem KY(w:World)(os:OsState):(eE w os).map (fun s=>(xy.drop 11).all fun d=>d.ok (kF s))=some true:=by kernel_rfl
theorem Me(w:World)(os:OsState):(eE w os).map (fun s=>xy.all fun d=>d.ok (kF s))=some true:=by
 have h:=wN (JO w os) (KY w os)
 simp only[←List.all_append,List.take_append_drop]at h
 exact h
theorem Nd(w:World)(os:OsState):(eE w os).map (fun s=>xy.map fun d=>He.fnW (kF s) d.at_)=some (xy.map He.DefD.val):=by kernel_rfl
theorem run(w:World):HandSHeadRun.RunEq Rr (PySem.W.view Rr.prog [27]) hk K6 6000 ["FindError","NoField","NoMake","LETTERS","GREAT","FIGURES","is_name","look_at_document","lowered","words_of","look_at_makes","counted","copied_postings","Piece","_law_cell_at","_law_draws","_law_text","_law_document","_law_words","_law_table","_law_tells","_law_makes","_law_spoil"] w:=by
 intro os
 obtain⟨a,b⟩:=yF (Nv w os)
 obtain⟨b,c⟩:=yF b
 obtain⟨c,d⟩:=yF c
 exact oG a (oG b (Gg (g:=HandSHeadRun.getT) (MB w os) (Me w os) (Nd w os) c d))
open PySem.W PySem.Calls in
theorem early(hc:WalkO (view (OpenLaw.row PySem.Challenge.rw_findcourt_k06_pieces).prog [27]) ["FindError","NoField","NoMake","LETTERS","GREAT","FIGURES","is_name","look_at_document","lowered","words_of","look_at_makes","counted","copied_postings","Piece","_law_cell_at","_law_draws","_law_text","_law_document","_law_words","_law_table","_law_tells","_law_makes","_law_spoil"] (XL (view (OpenLaw.row PySem.Challenge.rw_findcourt_k06_pieces).prog [27]) []) hk.says (OpenLaw.row PySem.Challenge.rw_findcourt_k06_pieces).toRowW (HandSHeadRun.topDef (OpenLaw.row PySem.Challenge.rw_findcourt_k06_pieces).prog 27) [] fun f vs=>PySem.call f vs):PySem.Challenge.rw_findcourt_k06_pieces.Holds:=by
 w_on;o_law
 refine HandSHeadRun.head_any (r:=OpenLaw.row PySem.Challenge.rw_findcourt_k06_pieces) (q:=view (OpenLaw.row PySem.Challenge.rw_findcourt_k06_pieces).prog [27]) (H:=hk) (ob:=K6) (M:=6000) (loose:=["FindError","NoField","NoMake","LETTERS","GREAT","FIGURES","is_name","look_at_document","lowered","words_of","look_at_makes","counted","copied_postings","Piece","_law_cell_at","_law_draws","_law_text","_law_document","_law_words","_law_table","_law_tells","_law_makes","_law_spoil"]) (d:=HandSHeadRun.topDef (OpenLaw.row PySem.Challenge.rw_findcourt_k06_pieces).prog 27) (kwd:=[]) Mh
  (by kernel_rfl) (fun s=>by kernel_rfl) run (by kernel_rfl) (by kernel_rfl) (by kernel_rfl) (by rfl) (by first | assumption | decide+kernel) (by decide+kernel) ⟨rfl,rfl,rfl,rfl,rfl,by decide+kernel⟩ ?hw hc
 case hw=>w_witness2
end K06
namespace L2
open PySem PySem.Spec PyProof.Rows
end L2
namespace Vw
open PySem L2 PyProof.Rows
end Vw
namespace Vw
open PySem L2 PyProof.Rows
open Classical in
noncomputable def ia(n:Nat)(L:List Val)(vs:List Nat)(t:Tg)(ft:State→Res Bool)(fe:State→Res RV):List Val→List Val→State→Res (List Val)
 | [],acc,s=>if s.st[n]? =some (.lst L)then .ok acc s else .stuck
 | x::l,acc,s=>if s.st[n]? =some (.lst L)then(match dA t x (bh vs s)with
  | none=>.stuck
  | some s=>match ft s with
   | .ok true s=>match fe s with
    | .ok rv s=>match bL rv s with
     | .ok y s=>if acc.length<sizeLine then ia n L vs t ft fe l (acc++[y]) (bh vs s)else .stuck
     | _=>.stuck
    | _=>.stuck
   | .ok false s=>ia n L vs t ft fe l acc (bh vs s)
   | _=>.stuck)else .stuck
noncomputable def qt(vs:List Nat)(t:Tg)(f:State→Res RV)(ft:State→Res Bool)(fe:State→Res RV)(s:State):Res RV:=(ev f s).bind fun rv s=>
 match fj s rv with
 | .val (.r n)=>match s.st[n]? with
  | some (.lst l)=>(ia n l vs t ft fe l [] (bh vs s)).bind pF
  | _=>.stuck
 | _=>.stuck
section
variable{C:Cst}{Z Z' Zc:Hp}{loc loc':List Addr}{s s':State}{sv sv':L2.St}{H H':Hp}
variable{X:Cx}{elt tg iter:Expr}{ifs:List Expr}{scope:Scope}{own:List (Str×Nat)}{p pos:Pos}{f fe:State→Res RV}{ft:State→Res Bool}
theorem uJ{n:Nat}{L:List Val}{vs:List Nat}{t:Tg}{l acc:List Val}{Q:VK}(h:EPost C Z loc sv ((ia n L vs t ft fe l acc s).bind pF) Q):s.st[n]? =some (.lst L):=by
 cases l with
 | nil=>
  unfold ia at h
  split at h
  ·assumption
  ·exact h.elim
 | cons x r=>
  unfold ia at h
  split at h
  ·assumption
  ·exact h.elim
theorem II{t:Tg}{vs:List Nat}{Q:VK}{K:PySem.W.Frag}(hv:∀ i∈sJ t,i∈vs)(h:ai C (qt vs t f ft fe) sv H Q):tLc (iList K (ai C f)) (yN C t) (An C ft) (zM C fe) vs sv H Q:=by
 obtain⟨Z,loc,s,r,q⟩:=h
 refine(ai.iZ r q).imp fun v H1 ⟨Z1,l1,s1,rv,g1,r1,st1,rv1,q⟩=>?_
 have q1:=r1.fj rv1
 split at q
 ·rename_i n e1
  split at q
  ·rename_i L e2
   rw[e1]at q1
   obtain⟨a,h2,rfl⟩:=q1
   obtain⟨xs0,h3,h4⟩:=gV r1 h2 e2
   refine⟨a,rfl,⟨xs0,.of h3⟩,?_⟩
   intro D hD
   have hf:=((r1.wipe vs).free hD)
   have cF:C.Fr D=none:=hf.f
   refine lc_it (n:=L.length) (g:=yN C t) (tt:=An C ft) (te:=zM C fe) (vs:=vs) (σ:=sv) zY (fun i H=>∃ Z2 l2 s2 acc xs,Ext Z1 l1 Z2 l2∧SR C Z2 l2 s2 (L2.wipe sv vs) H∧H D=some (.lst xs)∧Free C Z2 l2 s2 (L2.wipe sv vs) D∧aE C.cA Z2 l2 acc xs∧EPost C Z2 l2 sv ((ia n L vs t ft fe (L.drop i) acc s2).bind pF) Q)
    ⟨Z1,l1,bh vs s1,[],[],Ext.refl _ _,(r1.wipe vs).grow (bC hD),upd_same,hf,rfl,q⟩ ?_ ?_ ?_
   ·rintro i H _ ⟨Z2,l2,s2,acc,xs,g2,r2,_,_,_,q2⟩
    obtain⟨ys,h5,h6⟩:=gV r2 (lP g2 h2) (uJ q2)
    exact⟨ys,.of h5,(bD h6).symm⟩
   ·rintro i v H2 H3 hi ⟨Z2,l2,s2,acc,xs,g2,r2,hx,f2,ra,q2⟩ ⟨rfl,hy⟩
    obtain⟨ys,h5,h6⟩:=gV r2 (lP g2 h2) (uJ q2)
    have hst:=uJ q2
    rw[List.drop_eq_getElem_cons hi]at q2
    obtain⟨v',h7,h8⟩:=fO h6 (show L[i]? =some L[i] by simp[hi])
    rw[hy ys (.of h5)]at h7
    cases h7
    have f3:=f2.wipe vs
    rw[nz]at f3
    have r3':=r2.wipe vs
    rw[nz]at r3'
    refine⟨jG C D (.lst xs),rfl,Z2,l2,bh vs s2,L[i],r3'.hold hx f3,h8,?_⟩
    unfold ia at q2
    rw[if_pos hst]at q2
    cases e1:dA t L[i] (bh vs s2)with
    | none=>rw[e1]at q2;exact q2
    | some s3=>
     rw[e1]at q2
     intro sv4 off r4
     have we:=sZ off hv
     refine⟨we,jG C D (.lst xs),rfl,Z2,l2,s3,r4,?_⟩
     dsimp only at q2
     have q2':=q2
     cases e2:ft s3 with
     | stuck=>rw[e2]at q2';exact q2'
     | exc x s4=>rw[e2]at q2';exact False.elim q2'
     | ok b s4=>
      rw[e2]at q2'
      intro Z5 l5 H5 g5 r5
      cases b with
      | false=>
       obtain⟨r5',hx5,f5⟩:=r5.held cF
       have r6:=r5'.wipe vs
       have f6:=f5.wipe vs
       rw[we]at r6 f6
       exact⟨Z5,l5,bh vs s4,acc,xs,g2.trans g5,r6,hx5,f6,aE.mono g5 _ ra,EPost.ext q2' g5⟩
      | true=>
       refine⟨jG C D (.lst xs),rfl,Z5,l5,s4,r5,?_⟩
       dsimp only at q2'
       cases e3:fe s4 with
       | stuck=>rw[e3]at q2';exact q2'
       | exc x s5=>rw[e3]at q2';exact False.elim q2'
       | ok rv s5=>
        rw[e3]at q2'
        dsimp only at q2'
        intro Z6 l6 H6 v6 g6 r6 q6
        cases e4:bL rv s5 with
        | stuck=>rw[e4]at q2';exact False.elim q2'
        | exc x s6=>rw[e4]at q2';exact False.elim q2'
        | ok y s6=>
         rw[e4]at q2'
         dsimp only at q2'
         obtain⟨Z7,g7,r7,q7⟩:=r6.bL q6 e4
         obtain⟨r8,hx8,f8⟩:=r7.held cF
         have gg:=g5.trans (g6.trans g7)
         have ra':=aE.mono gg _ ra
         split at q2'
         ·rename_i hlt
          refine⟨xs,hx8,by rw[←bD ra];exact hlt,?_⟩
          have r9:=(r8.GB (u:=.lst (xs++[v6])) hx8 (fun _ _ z=>nomatch z) f8).wipe vs
          have f9:=f8.wipe vs
          rw[we]at r9 f9
          exact⟨Z7,l6,bh vs s6,acc++[y],xs++[v6],g2.trans gg,r9,upd_same,f9,kO ra' ⟨v6,[],rfl,q7,rfl⟩,EPost.ext q2' gg⟩
         ·exact False.elim q2'
   ·rintro H2 ⟨Z2,l2,s2,acc,xs,g2,r2,hx,f2,ra,q2⟩
    have hst:=uJ q2
    rw[List.drop_length]at q2
    unfold ia at q2
    rw[if_pos hst]at q2
    refine q2 Z2 l2 H2 (.ref D) (Ext.refl _ _) r2.EL ⟨D,rfl,by simp,⟨xs,hx,ra⟩,f2.z,f2.f,f2.l,fun i o h e=>?_⟩
    obtain⟨b,q1,_⟩:=r2.ow i o h
    have e1:=(wipe_some q1).1
    rw[e]at e1
    cases e1
    exact f2.o i o h q1
  ·exact q.elim
 ·exact q.elim
theorem ND{t:Tg}(hc:X.calm=true)(hN:X.N.Nodup)(he:PE X iter (ai C f))(ok:BlkOk X.N X.env.scope scope own)(hb:Blk X C scope tg elt ifs t ft fe)(hs:cb iter=true)(hv:∀ i∈sJ t,i∈own.map (·.2)):
  PE X (.ListComp elt [⟨tg,iter,ifs,0⟩] scope pos) (ai C (qt (own.map (·.2)) t f ft fe)):=
 aV (pe_lc (g:=yN C t) (tt:=An C ft) (te:=zM C fe) hc hN (pi_list he) ok
  (fun s H D cl fp=>⟨fun pins s0 sv H0 v u Q I r ⟨C',c,q⟩=>(hb.go s H D cl fp C' c).1.run pins s0 sv H0 v u Q I r q⟩)
  (fun s H D cl fp=>⟨fun pins s0 sv H0 Q I ⟨C',c,q⟩=>(hb.go s H D cl fp C' c).2.1.run pins s0 sv H0 Q I q⟩)
  (fun s H D cl fp=>⟨fun pins s0 sv H0 Q I ⟨C',c,q⟩=>(hb.go s H D cl fp C' c).2.2.run pins s0 sv H0 Q I q⟩) (fold_ok hs)) fun sv H Q h=>II hv h
theorem Mw{cA:String→Addr}{t:Tg}(hC:C.cA=cA)(own:List (Str×Nat)){vs:List Nat}(hvs:own.map (·.2)=vs)(hc:X.calm=true)(hN:X.N.Nodup)(he:PE X iter (ai C f))(ok:blkC X.N X.env.scope scope own=true)
  (hb:∀ (s:Shared) (H:Hp) (D:Addr) (cl:List (Str×Addr)) (fp:List Addr) (C':Cst),C'.cA=cA→PG (X.blk s H scope (compEnvC scope cl D X.env) fp) tg (jI C' t)∧PTs (X.blk s H scope (compEnvC scope cl D X.env) fp) ifs (dV C' ft)∧PE (X.blk s H scope (compEnvC scope cl D X.env) fp) elt (ai C' fe))
  (hs:cb iter=true) (hv:∀ i∈sJ t,i∈vs):PE X (.ListComp elt [⟨tg,iter,ifs,0⟩] scope pos) (ai C (qt vs t f ft fe)):=by
 subst hvs
 exact ND hc hN he (blkOk_by ok) ⟨fun s H D cl fp C' h=>hb s H D cl fp C' (h.trans hC)⟩ hs hv
end
end Vw
namespace L2
open PySem PySem.Spec PyProof.Rows
section
variable{P:Program}{w:World}{K:Type}[DecidableEq K]{knd:PySem.KeyKind P w K}{key:Value→K}
def Fj(knd:PySem.KeyKind P w K)(key:Value→K)(h:Heap)(a:Addr)(S:K→Bool)(n:Nat):Prop:=
 ∃ o es ep t,h.get? a=some o∧o.ExactSet∧o.data=.set es ep t∧ElemsOf knd es.toList∧(es.toList.map fun e=>key e.2).Nodup∧(∀ k,S k=true↔k∈es.toList.map fun e=>key e.2)∧
  es.size<scanBound∧t.fits es.size=true∧es.size=n∧Ris t.place.toList∧(w.params.followText "set-order"=true∨t.led=true)
variable{A:Around}{E:Value→Shared→Prop}{s:Shared}{a:Addr}{S:K→Bool}{n:Nat}{h h':Heap}
theorem Fj.at(R:Fj knd key h a S n)(k:∀ o,h.get? a=some o→h'.get? a=some o):Fj knd key h' a S n:=by
 obtain⟨o,es,ep,t,ho,r⟩:=R
 exact⟨o,es,ep,t,k o ho,r⟩
end
end L2
namespace L2
open PySem PySem.Spec PyProof.Rows
end L2
namespace Vw
open PySem L2 PyProof.Rows
end Vw
namespace L2
open PySem PySem.Spec PyProof.Rows
end L2
namespace L2
open PySem PySem.Spec PyProof.Rows
end L2
namespace Vw
open PySem L2 PyProof.Rows
end Vw
namespace L2
open PySem PySem.Spec PyProof.Rows
end L2
namespace Vw
open PySem L2 PyProof.Rows
end Vw
namespace Vw
open PySem L2 PyProof.Rows
end Vw
namespace L2
open PySem PySem.Spec PyProof.Rows
section
variable{P:Program}{w:World}{A:Around}{E:Value→Shared→Prop}{s:Shared}{κ:Type}[DecidableEq κ]{knd:KeyKind P w κ}
def B6(knd:KeyKind P w κ)(L:List (Addr×List κ)):List (Int×Value):=L.map fun p=>(tupleKeyHash knd p.2,Value.ref p.1)
structure GSet (knd:KeyKind P w κ) (h:Heap) (a:Addr) (L:List (Addr×List κ)) (es:Array (Int×Value)) (ep:Nat) (t:SetTable):Prop where
 o:∃ o,h.get? a=some o∧o.ExactSet∧o.data=.set es ep t
 r:es.toList=B6 knd L
 b:TabOk t (L.map fun p=>tupleKeyHash knd p.2)
 n:(L.map (·.2)).Nodup
 k:∀ p∈L,IsTupleKey knd h p.2 p.1
 l:w.params.followText "set-order"=true∨t.led=true
 m:L.length*5<t.mask*3
 f:L.length<64
variable{a:Addr}{L:List (Addr×List κ)}{es:Array (Int×Value)}{ep:Nat}{t:SetTable}
theorem Ee(h:es.toList=B6 knd L):es.size=L.length:=by
 have q:=congrArg List.length h
 simpa [B6]using q
theorem K7(h1:TabOk t (L.map fun p=>tupleKeyHash knd p.2))(h2:es.size=L.length)(h3:es.size≤t.mask):t.fits es.size=true:=by
 have z:=h1.sz
 rw[List.length_map]at z
 have key:t.place.size=es.size∧t.place.size+t.dummies.size≤t.mask:=by
  rw[h1.dm]
  exact⟨z.trans h2.symm,by show t.place.size+0≤t.mask;omega⟩
 unfold SetTable.fits SetTable.fill
 simp only[Bool.and_eq_true,beq_iff_eq,decide_eq_true_eq]
 rw[h1.dm]at key ⊢
 exact⟨key.1,key.2⟩
theorem GSet.fits(R:GSet knd s.heap a L es ep t):t.fits es.size=true:=by
 have h2:=Ee R.r
 have h3:=R.m
 exact K7 R.b h2 (by omega)
end
end L2
namespace L2
open PySem PySem.Spec PyProof.Rows
end L2
namespace L2
open PySem PySem.Spec PyProof.Rows
end L2
namespace SrtO
open PySem PyProof.Rows Srt L2
section
variable{prog:Program}{w:World}{A:Around}{E:Value→Shared→Prop}{s:Shared}
def EZ(h:Heap)(v:Value)(x:PySem.Str×PySem.Str):Prop:=∃ a o t u n,v=.ref a∧h.get? a=some o∧o.cls=.type "tuple"∧o.data=.seq #[.str x.1 t,.str x.2 u] n
theorem EZ.keeps{h h':Heap}{v:Value}{x:PySem.Str×PySem.Str}(p:EZ h v x)(k:∀ b o,h.get? b=some o→o.cls=.type "tuple"→h'.get? b=some o):EZ h' v x:=by
 obtain⟨a,o,t,u,n,e,ho,hc,hd⟩:=p
 exact⟨a,o,t,u,n,e,k _ _ ho hc,hc,hd⟩
end
end SrtO
namespace L2
open PySem PySem.Spec PyProof.Rows
end L2
namespace Vw
open PySem L2 PyProof.Rows
end Vw
namespace Vw
open PySem L2 PyProof.Rows
end Vw
namespace Vw
open PySem L2 PyProof.Rows
end Vw
namespace Vw
open PySem L2 PyProof.Rows
end Vw
namespace Vw
open PySem L2 PyProof.Rows
end Vw
namespace Vw
open PySem L2 PyProof.Rows
end Vw
namespace L2
open PySem PySem.Spec PyProof.Rows
end L2
namespace Vw
open PySem L2 PyProof.Rows
end Vw
namespace Vw
open PySem L2 PyProof.Rows
def NM(x:Str):Prop:=(x==("__debug__":Str))=false∧(x==("__classdict__":Str))=false
section
variable{C:Cst}{X:Cx}{e a b:Expr}{es:List Expr}{pos:Pos}{f fa fb:State→Res RV}{fr:List (State→Res RV)}
theorem va{i:Nat}{x:Str}(n:NM x)(hN:X.N[i]? =some x:=by exact rfl)(hv:X.env.scope.names.lookup x=some .local:=by exact rfl):PE X (.Name x pos) (ai C (aa i)):=v_var hN (.inl hv) n.1 n.2
theorem vb{i:Nat}{x:Str}(n:NM x)(hN:X.N[i]? =some x:=by exact rfl)(hv:X.env.scope.names.lookup x=some .cell:=by exact rfl):PE X (.Name x pos) (ai C (aa i)):=v_var hN (.inr (.inl hv)) n.1 n.2
theorem vi{i:Int}{j:Nat}:PE X (.Constant (.int i) j pos) (ai C (fD (.int i))):=rG pe_int fun _=>rfl
theorem vt{i:Bool}{j:Nat}:PE X (.Constant (.bool i) j pos) (ai C (fD (.bl i))):=rG pe_bl fun _=>rfl
theorem vc(h:PE X e (ai C f))(hr:PA X es (cZ C (aq fr)))(hs:notStar e=true:=by exact rfl):PA X (e::es) (cZ C (aq (f::fr))):=JY h hr hs
theorem tn{i:Nat}{x:Str}(hN:X.N.Nodup)(hi:X.N[i]? =some x:=by exact rfl)(hx:X.env.scope.names.lookup x=some .local:=by exact rfl):PG X (.Name x pos) (jI C (.nm i)):=MR hN hi (.inl hx) (.inr hx)
theorem vg{i:Nat}{x:Str}{p:Pos}(hN:X.N.Nodup)(h:PE X e (ai C f))(hi:X.N[i]? =some x:=by exact rfl)(hx:X.env.scope.names.lookup x=some .local:=by exact rfl)(hc:jw e=true:=by exact rfl):PS X (.Assign [.Name x p] e pos) (dh C (aR i f)):=uX hN hi (.inl hx) (.inr hx) h hc
theorem vx(hu:X.A.units+64<cLine)(ha:PE X a (ai C fa))(hb:PE X b (ai C fb))(hs:mH b=true:=by exact rfl):PE X (.Subscript a b pos) (ai C (aw fa fb eQ)):=OQ hu ha hb hs
theorem iw{N P:List Str}{sc:Scope}(h1:sc.kind=.function:=by exact rfl)(h2:sc.isCoroutine=false:=by exact rfl)(h3:sc.isGenerator=false:=by exact rfl)(h4:N.Nodup:=by decide+kernel)(h5:N.take P.length=P:=by exact rfl)(h6:∀ x∈P,sc.names.lookup x=some .local∨sc.names.lookup x=some .cell:=by decide+kernel)(h7:∀ y∈sc.names,y.2≠ .free:=by decide+kernel):FnScope N P sc:=⟨h1,h2,h3,h4,h5,h6,h7⟩
end
end Vw
namespace Vw
open PySem L2 PyProof.Rows
end Vw
namespace Vw
open PySem L2 PyProof.Rows
open Classical in
noncomputable def Hk(m:Nat)(l:List Val)(r:Res RV)(s:State):Res RV:=
 match r with
 | .ok (.val (.d .non)) s2=>if s2.st[0]? =some (.lst l)then(match bp (fun k=>decide (k≠0)) m s2.st (.r 1)with
  | some d=>.ok (.val (.d d)) s
  | none=>.stuck)else .stuck
 | .exc x s2=>if s2.st[0]? =some (.lst l)then .exc x s else .stuck
 | _=>.stuck
section
variable{C:Cst}{Z Z' Zc Zd:Hp}{loc loc' l':List Addr}{s s':State}{sv sv':L2.St}{H H':Hp}
variable{X:Cx}{e a b c o:Expr}{es:List Expr}{p pos apos:Pos}{f fa fb fc fo fi fv:State→Res RV}
theorem SR.OU(r:SR C Z loc s sv H)(E:XK){a:Addr}{k:Nat}{l:List Val}{ds:List D}(ha:loc[k]? =some a)(hs:s.st[k]? =some (.lst l))(hd:toDs l=some ds):SR (cW C.cA (b8 H Z [a]) C.H0 E) Z [a] ⟨[],[.lst l]⟩ [] H:=by
 obtain⟨c1,c2⟩:=r.cl k a _ ha hs (by simp)
 have hd':(Ob.lst l).toD=some (.lst ds):=by show(toDs l).map D.lst=_;rw[hd];rfl
 refine⟨fun b o h=>(js h).1,r.zh,fun b o h=>?_,r.lk,rfl,by simp,fun b hb=>?_,fun n b o h1 h2 h3=>?_,fun i x h=>by simp at h,fun i o h=>by simp at h,fun i j o o' b h=>by simp at h,rfl⟩
 ·show b8 H Z [a] b=none
  unfold b8
  rw[if_neg (fun q=>by rw[h]at q;cases q.1)]
 ·rw[List.mem_singleton]at hb
  subst hb
  refine⟨dP (by simp) c1,?_⟩
  show b8 H Z [b] b=none
  unfold b8
  rw[if_neg (fun q=>q.2 (by simp))]
 ·cases n with
  | zero=>
   have h1:some a=some b:=h1
   have h2:some (Ob.lst l)=some o:=h2
   cases h1;cases h2
   exact⟨sR hd' c1,c2⟩
  | succ n=>simp at h1
theorem SR.Ii(r:SR C Z loc s sv H)(E:XK){cl:String}{y dx a:Addr}{k:Nat}{l:List Val}{ds:List D}(ha:loc[k]? =some a)(hs:s.st[k]? =some (.lst l))(hd:toDs l=some ds)(hy:H y=none)(hdx:H dx=none)(ne:dx≠y):SR (cW C.cA (b8 H Z [a]) C.H0 E) Z [a,y] ⟨[],[.lst l,.ins cl []]⟩ [] (upd (upd H dx (.own y)) y (.ins (C.cA cl) dx [])):=by
 have hy':upd H dx (.own y) y=none:=by rw[upd_ne (Ne.symm ne)];exact hy
 have r0:=r.OU E ha hs hd
 have r1:=(r0.grow (bC (o:=.own y) hdx)).grow (bC (o:=.ins (C.cA cl) dx []) hy')
 have fr:Free (cW C.cA (b8 H Z [a]) C.H0 E) Z [a] ⟨[],[.lst l]⟩ [] y:=r0.free hy
 exact(r1.alloc (o:=.ins cl []) (by simp) ⟨dx,[],upd_same,rfl⟩ fr).2.1
theorem SR.yT(r:SR C Z loc s sv H){E:XK}{st:List Ob}{a:Addr}{k:Nat}{l:List Val}{ds:List D}(ha:loc[k]? =some a)(hs:s.st[k]? =some (.lst l))(hd:toDs l=some ds)(g:Ext Z [a] Z' l')(r':SR (cW C.cA (b8 H Z [a]) C.H0 E) Z' l' ⟨[],st⟩ [] H')(h0:st[0]? =some (.lst l)):SR C Z' loc s sv H':=by
 have gz:Ext Z loc Z' loc:=⟨g.1,[],by simp⟩
 have hd':(Ob.lst l).toD=some (.lst ds):=by show(toDs l).map D.lst=_;rw[hd];rfl
 have hl0:l'[0]? =some a:=by obtain⟨_,t,rfl⟩:=g;rfl
 obtain⟨ca,za⟩:=r'.cl 0 a _ hl0 h0 (by simp)
 have ca:Cell C.cA Z' loc H' a (.lst l):=sR hd' ca
 have z0:∀ {b:Addr} {u:HO},Z b=none→b≠a→H b=some u→Z' b=none∧H' b=some u:=fun {b u} h1 hne h2=>by
  have f:=(gA (H:=H) (loc:=[a]) h1 (by simpa using hne)).trans h2
  exact⟨(r'.gJ (a:=b) f).1,r'.fr b u f⟩
 have ne:∀ {b:Addr},H b≠none→H' b≠none:=fun {b} h=>by
  by_cases hba:b=a
  ·subst hba;exact dP (by simp) ca
  ·cases eh:H b with
   | none=>exact absurd eh h
   | some u=>
    cases ez:Z b with
    | none=>rw[(z0 ez hba eh).2];simp
    | some w=>exact rH (r'.zh b w (g.1 b w ez))
 have am:a∈loc:=List.mem_of_getElem? ha
 refine⟨fun b o h=>?_,r'.zh,fun b o h=>?_,r'.lk,r.ln,r.nd,fun b h=>⟨ne (r.lh b h).1,(r.lh b h).2⟩,fun n b o h1 h2 h3=>?_,fun i x h=>?_,fun i o h=>?_,r.oi,r.ls⟩
 ·have hf:=r.gJ h
  exact(z0 hf.1 (fun e=>hf.2 (e▸am)) (r.fr b o h)).2
 ·cases e:C.Fr b with
  | none=>rfl
  | some u=>
   have hf:=r.gJ e
   rw[(z0 hf.1 (fun e=>hf.2 (e▸am)) (r.fr b u e)).1]at h;cases h
 ·by_cases hba:b=a
  ·subst hba
   have hnl:n<loc.length:=(List.getElem?_eq_some_iff.mp h1).1
   have:n=k:=(List.getElem?_inj (j:=k) hnl r.nd).mp (by rw[h1,ha])
   subst this
   rw[hs]at h2
   cases h2
   exact⟨ca,za⟩
  ·obtain⟨q1,q2⟩:=r.cl n b o h1 h2 h3
   cases eh:H b with
   | none=>exact absurd eh (dP h3 q1)
   | some u=>
    obtain⟨w1,w2⟩:=z0 q2 hba eh
    exact⟨(q1.at (w2.trans eh.symm)).mono gz (Same.refl _),w1⟩
 ·obtain⟨v,q1,q2⟩:=r.vl i x h
  exact⟨v,q1,bo.mono gz x q2⟩
 ·obtain⟨b,q1,q2,q3,q4,q5,q6⟩:=r.ow i o h
  cases eh:H b with
  | none=>exact absurd eh (dP q2 q3)
  | some u=>
   obtain⟨w1,w2⟩:=z0 q4 (fun e=>q6 (e▸am)) eh
   exact⟨b,q1,q2,(q3.at (w2.trans eh.symm)).mono gz (Same.refl _),w1,q5,q6⟩
theorem SR.Nm(r:SR C Z loc s sv H){E:XK}{st:List Ob}{a y:Addr}{k m:Nat}{l:List Val}{ds:List D}{d:D}(ha:loc[k]? =some a)(hs:s.st[k]? =some (.lst l))(hd:toDs l=some ds)(g:Ext Z [a,y] Z' l')(r':SR (cW C.cA (b8 H Z [a]) C.H0 E) Z' l' ⟨[],st⟩ [] H')(h0:st[0]? =some (.lst l))(e:bp (fun i=>decide (i≠0)) m st (.r 1)=some d):∃ Zd,Ext Z loc Zd loc∧SR C Zd loc s sv H'∧aN C.cA Zd d (.ref y):=by
 obtain⟨kz,t,rfl⟩:=g
 have r1:=r.yT ha hs hd ⟨kz,[y]++t,rfl⟩ r' h0
 obtain⟨Zd,k2,gy,q⟩:=um r' (fun i=>decide (i≠0)) m Z' (.r 1) (.ref y) d GoodY.refl ⟨y,rfl,rfl⟩ e
 have am:a∈loc:=List.mem_of_getElem? ha
 refine⟨Zd,⟨kz.trans k2,[],by simp⟩,r1.CT k2 fun b u h=>?_,q⟩
 rcases gy.at_ b u h with h | ⟨z1,z2,⟨m0,hm0,z30⟩,_⟩
 ·exact .inl h
 ·have hm0:m0≠0:=of_decide_eq_true hm0
  have z3:=List.mem_of_getElem? z30
  have hba:b≠a:=fun e=>by
   subst e
   have:m0=0:=(List.getElem?_inj (j:=0) (List.getElem?_eq_some_iff.mp z30).1 r'.nd).mp (by rw[z30];rfl)
   exact hm0 this
  have zb:Z b=none:=by
   cases e:Z b with
   | none=>rfl
   | some w=>have:=kz b w e;rw[z1]at this;cases this
  have hb:H b=none:=(gA (H:=H) (loc:=[a]) zb (by simpa using hba)).symm.trans (r'.lh b z3).2
  refine .inr ⟨z2,?_,fun z=>(r.lh b z).1 hb,fun i o h e=>?_⟩
  ·cases e:C.Fr b with
   | none=>rfl
   | some u=>have:=r.fr b u e;rw[hb]at this;cases this
  ·obtain⟨b',q1,q2,q3,q4,q5,q6⟩:=r.ow i o h
   rw[e]at q1
   cases q1
   exact dP q2 q3 hb
theorem LJ{m:Nat}{cl:String}{n k:Nat}{g:Fn}{l:List Val}{ds:List D}{v:V}{Q:VK}(r:SR C Z loc s sv H)(q:bo C.cA Z loc (.r k) v)(hs:s.st[k]? =some (.lst l))(hd:toDs l=some ds)(hn:n=2)
  (h:EPost C Z loc sv (Hk m l (g [.r 1,.r 0] [.lst l,.ins cl []]) s) Q):
  ∀ y dx,H y=none→H dx=none→dx≠y→cE C.cA n g [.ref y,v] (upd (upd H dx (.own y)) y (.ins (C.cA cl) dx [])) (fun v H2=>v=.non∧Q (.ref y) H2) (WE C.W sv):=by
 intro y dx hy hdx ne
 obtain⟨a,ha,rfl⟩:=q
 refine⟨b8 H Z [a],C.H0,Z,[a,y],[.r 1,.r 0],[.lst l,.ins cl []],r.Ii _ ha hs hd hy hdx ne,⟨.ref y,[.ref a],rfl,⟨y,rfl,rfl⟩,.ref a,[],rfl,⟨a,rfl,rfl⟩,rfl⟩,by rw[hn];rfl,?_⟩
 unfold Hk at h
 cases e:g [.r 1,.r 0] [.lst l,.ins cl []]with
 | stuck=>rw[e]at h;exact h
 | exc x s1=>
  rw[e]at h
  dsimp only at h
  split at h
  ·rename_i h0
   intro Z' l' H' c d g r' q'
   have g2:Ext Z [a] Z' l':=by obtain⟨kz,t,rfl⟩:=g;exact⟨kz,[y]++t,rfl⟩
   exact h Z' loc H' c d ⟨g.1,[],by simp⟩ (r.yT ha hs hd g2 r' h0) q'
  ·exact h.elim
 | ok rv s1=>
  rw[e]at h
  cases rv with
  | own i=>exact h.elim
  | new o=>exact h.elim
  | val x=>
   cases x with
   | r n=>exact h.elim
   | tp l=>exact h.elim
   | d d=>
    cases d with
    | non=>
     dsimp only at h
     split at h
     ·rename_i h0
      split at h
      ·rename_i d e2
       intro Z' l' H' v g' r' q'
       obtain⟨Zd,w1,w2,w3⟩:=r.Nm ha hs hd g' r' h0 e2
       exact⟨q',h Zd loc H' _ w1 w2 w3⟩
      ·exact h.elim
     ·exact h.elim
    | _=>exact h.elim
end
end Vw
namespace Vw
open PySem L2 PyProof.Rows
noncomputable def uV(t:Tg)(f:State→Res RV)(b:State→Res Fl)(s:State):Res Fl:=(ev f s).bind fun rv s=>
 match fj s rv with
 | .val (.r n)=>(match s.st[n]? with
  | some (.lst l)=>(match toDs l with
   | some ds=>b7 n l t b (ds.mapIdx fun i x=>.d (.tup [.int i,x])) s
   | none=>.stuck)
  | _=>.stuck)
 | _=>.stuck
def AY(i:Nat)(s:State):Bool:=match s.sg[i]? with
 | some (some (.v (.r _)))=>true
 | _=>false
def xb(i:Nat)(a b:State→Res Fl)(s:State):Res Fl:=if AY i s=true then a s else b s
def oE(i:Nat)(a b:State→Res RV)(s:State):Res RV:=if AY i s=true then a s else b s
section
variable{C:Cst}{Z Z' Zc:Hp}{loc loc':List Addr}{s s':State}{sv sv':L2.St}{H H':Hp}
variable{X:Cx}{p pos apos tpos:Pos}{f:State→Res RV}
theorem HA{st:Stmt}{i:Nat}{a b:State→Res Fl}(h1:PS X st (dh C a))(h2:PS X st (dh C b)):PS X st (dh C (xb i a b)):=
 ⟨fun pins t0 sv H D I ⟨Z,loc,s,r,q⟩=>by
  unfold xb at q
  split at q
  ·exact h1.run pins t0 sv H D I ⟨Z,loc,s,r,q⟩
  ·exact h2.run pins t0 sv H D I ⟨Z,loc,s,r,q⟩⟩
theorem KS{e:Expr}{i:Nat}{a b:State→Res RV}(h1:PE X e (ai C a))(h2:PE X e (ai C b)):PE X e (ai C (oE i a b)):=
 ⟨fun pins t0 sv H Q I ⟨Z,loc,s,r,q⟩=>by
  unfold oE at q
  split at q
  ·exact h1.run pins t0 sv H Q I ⟨Z,loc,s,r,q⟩
  ·exact h2.run pins t0 sv H Q I ⟨Z,loc,s,r,q⟩⟩
theorem D2{K:PySem.W.Frag}{a:Addr}{n:Nat}:Walk (Ite K a) n (fun H=>∃ xs,SqL K H a xs∧xs.length=n) (fun i H v H'=>∃ T x,v=.ref T∧H T=none∧H'=upd H T (.tup [.int (i:Nat),x])∧∀ xs,SqL K H a xs→xs[i]? =some x):=
 ⟨fun i H hi ⟨xs,q,e⟩=>⟨xs,xs[i],q,by simp[e,hi]⟩,fun H ⟨xs,q,e⟩=>⟨xs,q,Nat.le_of_eq e⟩,fun _ _ _ _ _ _ y=>y⟩
theorem Ka{t:Tg}{elts:List Expr}{kk:Nat}{it:Expr}{b:List Stmt}{sb:State→Res Fl}(hp:PassesOwn (model X.prog X.w) X.A X.env X.xe)(hc:X.calm=true)(he:PE X it (ai C f))(hgl:Gl X "enumerate")(hm:X.mg "enumerate"=none)(hns:notStar it=true)
  (hg:PG X (.Tuple elts kk tpos) (jI C t)) (hb:PSs X b (dh C sb)) (hs:cb (.Call (.Name "enumerate" p) [it] [] pos)=true):PS X (.For (.Tuple elts kk tpos) (.Call (.Name "enumerate" p) [it] [] pos) b [] apos) (dh C (uV t f sb)):=by
 have ha:PA X [it] (tCons (ai C f) tNil):=pa_cons he pa_nil (bt hns)
 refine⟨fun pins t0 sv H D I ⟨Z,loc,s,r,q⟩=>?_⟩
 refine(ps_for (g:=jI C t) (tb:=dh C sb) hp hc (pi_enum hgl hm ha (bt hns)) hg hb (fold_ok hs)).run pins t0 sv H D I ?_
 unfold uV at q
 show ai C f sv H _
 cases e:ev f s with
 | stuck=>rw[e]at q;exact q.elim
 | exc x s1=>rw[e]at q;exact ai.Fq r e fun Z' loc' H' c d=>q Z' loc' sv H' c d
 | ok rv s1=>
  rw[e]at q
  simp only[Res.bind]at q
  refine(ai.FP r e).imp fun v H1 ⟨Z1,l1,g1,r1,st1,rv1⟩=>?_
  cases e1:fj s1 rv with
  | own i=>rw[e1]at q;exact q.elim
  | new o=>rw[e1]at q;exact q.elim
  | val x=>
  rw[e1]at q
  cases x with
  | d x=>exact q.elim
  | tp x=>exact q.elim
  | r n=>
  dsimp only at q
  cases e2:s1.st[n]? with
  | none=>rw[e2]at q;exact q.elim
  | some o=>
  rw[e2]at q
  cases o with
  | dic k l=>exact q.elim
  | dit k l=>exact q.elim
  | ins c l=>exact q.elim
  | gone=>exact q.elim
  | lst L=>
  dsimp only at q
  cases ed:toDs L with
  | none=>rw[ed]at q;exact q.elim
  | some ds=>
   rw[ed]at q
   dsimp only at q
   have q1:=r1.fj rv1
   rw[e1]at q1
   obtain⟨a,h2,rfl⟩:=q1
   obtain⟨xs,h3,h4⟩:=gV r1 h2 e2
   have hLl:ds.length=L.length:=by rw[toDs_inv ed,List.length_map]
   refine⟨a,xs,rfl,.of h3,?_⟩
   refine for_it (n:=L.length) (g:=jI C t) (tb:=dh C sb) (D:=D) D2 (fun i sv H=>∃ Z2 l2 s2,Ext Z1 l1 Z2 l2∧SR C Z2 l2 s2 sv H∧a0 C Z2 l2 (b7 n L t sb ((ds.mapIdx fun i x=>Val.d (.tup [.int i,x])).drop i) s2) D)
    ⟨Z1,l1,s1,Ext.refl _ _,r1,a0.ext q g1⟩ ?_ ?_ ?_
   ·rintro i sv H _ ⟨Z2,l2,s2,g2,r2,q2⟩
    obtain⟨ys,h5,h6⟩:=gV r2 (lP g2 h2) (stays q2)
    exact⟨ys,.of h5,(bD h6).symm⟩
   ·rintro i v sv2 H2 H3 hi ⟨Z2,l2,s2,g2,r2,q2⟩ ⟨T,x,y1,y2,y3,y4⟩
    obtain⟨ys,h5,h6⟩:=gV r2 (lP g2 h2) (stays q2)
    have hst:=stays q2
    have hid:i<ds.length:=by omega
    rw[List.drop_eq_getElem_cons (by rw[List.length_mapIdx];exact hid)]at q2
    rw[List.getElem_mapIdx]at q2
    have hy:YPair (fun _=>some (.int (i:Nat))) (fun _=>ys[i]?) i H2 v H3:=⟨T,.int (i:Nat),x,y1,y2,y3,rfl,y4 ys (.of h5)⟩
    obtain⟨Z3,g3,gr3,r3,rep3⟩:=yf (d1:=.int (i:Int)) (d2:=ds[i]) r2 hy (fun u e=>by cases e;rfl) (fun u e=>by
     obtain⟨v',h7,h8⟩:=fO (loc:=l2) h6 (show L[i]? =some L[i] by simp[hi])
     have hLi:L[i]=.d ds[i]:=by
      have h9:=toDs_inv ed
      have:L[i]? =(ds.map Val.d)[i]? :=by rw[←h9]
      rw[List.getElem?_eq_getElem hi,List.getElem?_map,List.getElem?_eq_getElem hid]at this
      exact Option.some.inj this
     rw[hLi]at h8
     rw[h7]at e
     cases e
     exact h8)
    refine⟨Z3,l2,s2,_,r3,rep3,?_⟩
    unfold b7 at q2
    rw[if_pos hst]at q2
    cases e1:dA t (.d (.tup [.int (i:Int),ds[i]])) s2 with
    | none=>rw[e1]at q2;exact q2
    | some s3=>
     rw[e1]at q2
     intro sv4 _ r4
     refine⟨Z3,l2,s3,r4,?_⟩
     dsimp only at q2
     have gg:Ext Z2 l2 Z3 l2:=g3
     cases e2:sb s3 with
     | stuck=>rw[e2]at q2;exact q2
     | exc x s5=>
      rw[e2]at q2
      exact fun Z5 l5 sv5 H5 c d g5=>q2 Z5 l5 sv5 H5 c d (gg.trans g5)
     | ok k s5=>
      rw[e2]at q2
      cases k with
      | nx=>exact fun Z5 l5 sv5 H5 g5 r5=>⟨Z5,l5,s5,(g2.trans gg).trans g5,r5,a0.ext q2 (gg.trans g5)⟩
      | cnt=>exact fun Z5 l5 sv5 H5 g5 r5=>⟨Z5,l5,s5,(g2.trans gg).trans g5,r5,a0.ext q2 (gg.trans g5)⟩
      | brk=>exact fun Z5 l5 sv5 H5 g5 r5=>a0.nx (a0.ext q2 (gg.trans g5)) r5
      | ret rv=>exact fun Z5 l5 sv5 H5 v g5=>q2 Z5 l5 sv5 H5 v (gg.trans g5)
   ·rintro sv2 H2 ⟨Z2,l2,s2,g2,r2,q2⟩
    have hst:=stays q2
    rw[List.drop_of_length_le (by rw[List.length_mapIdx];omega)]at q2
    unfold b7 at q2
    rw[if_pos hst]at q2
    exact a0.nx q2 r2
end
end Vw
namespace Sh
open PySem L2 PyProof.Rows Vw
def yP:State→Res Fl:=(gI (b9 (aw (aa 0) (cu []) (aS .eq))) (ak [(bV (fD (.int 0)))]) (ak []))
def yr:State→Res Fl:=(bV (fX "list" (aa 0) (aq []) KP cf))
def CW:State→Res Fl:=(ak [yP,yr])
def tV:Fn:=dS 1 CW
def wV:State→Res Fl:=(bV (fD (.str (sS " !\"#$&'()*+,-./0123456789:;<=>?@ABCDEFGHIJKLMNOPQRSTUVWXYZ[\\]^_`abcdefghijklmnopqrstuvwxyz{|}~"))))
def zE:State→Res Fl:=(ak [wV])
def zS:Fn:=dS 0 zE
def kY:State→Res Fl:=(aR 2 (cw 1 (aq [(aa 0)]) tV))
def k7:State→Res Fl:=(aR 3 (fD (.str (sS ""))))
def vk:State→Res Fl:=(ak [(aR 5 (cw 1 (aq [(aa 0)]) tV)),(aR 6 (aw (cu [(cw 0 (aq []) zS),(fD (.str (sS "abA19 "))),(fD (.str (sS "abzAZ09 ' ")))]) (aw (aa 5) (fD (.int 3)) (binop .mod)) eQ)),(aR 3 (aw (aa 3) (aw (aa 6) (aw (aw (aa 5) (fD (.int 3)) (binop .fdiv)) (di (aq [(aa 6)]) j8) (binop .mod)) eQ) (binop .add)))])
def lb:State→Res Fl:=(dc (.nm 4) (lY (aq [(aw (aa 2) (aw (aa 1) (fD (.int 1)) (binop .add)) (binop .mod))]) mU) vk)
def k4:State→Res Fl:=(bV (aa 3))
def kB:State→Res Fl:=(ak [kY,k7,lb,k4])
def hU:Fn:=dS 7 kB
def kn:State→Res Fl:=(aR 3 (aw (yq (aa 0) .no (.ex (fD (.int 63)))) (cu [(aa 1)]) (binop .add)))
def kd:State→Res Fl:=(aR 4 (cu []))
def ux:State→Res RV:=(aw (aa 10) (fD (.int 100000)) (binop .fdiv))
def jF:State→Res Fl:=(ak [(aR 9 (aw (aa 5) (di (aq [(aa 6)]) j8) (binop .mod))),(gI (b9 (aw (aa 5) (aa 1) (aS .ge))) (ak [(dw (fX "list" (aa 4) (aq [(aw (aw (aa 6) (aa 9) eQ) (fD (.int 2147483587)) (binop .mod))]) bAppend cf))]) (ak [])),(fu (aa 6) (aa 9) (aw (aw (aa 6) (aa 9) eQ) (fD (.int 2147483587)) (binop .fdiv)))])
def j7:State→Res Fl:=(gI (b9 (aw (aw (aw (aw (aa 3) (fD (.int 0)) eQ) (fD (.int 50000)) (binop .fdiv)) (fD (.int 2)) (binop .mod)) (fD (.int 1)) (aS .eq))) (ak [(aR 6 (fq [10] (.nm 10) (sD (aa 3) itemsOf) bZ ux)),(dc (.nm 5) (lY (aq [(aw (aa 1) (aa 2) (binop .add))]) mU) jF),(bV (aa 4))]) (ak []))
def uN:State→Res Fl:=(ak [(aR 7 (aw (aw (aw (aw (aa 5) (aa 1) (binop .add)) (aw (aa 5) (aa 1) (binop .add)) (binop .mul)) (fD (.int 7919)) (binop .mul)) (fD (.int 104729)) (binop .add))),(aR 8 (aw (aw (aw (aw (aw (aa 3) (aw (aa 5) (di (aq [(aa 3)]) j8) (binop .mod)) eQ) (fD (.int 2147483647)) (binop .mod)) (aa 7) (binop .add)) (fD (.int 48271)) (binop .mul)) (fD (.int 2147483647)) (binop .mod))),(aR 8 (aw (aw (aw (aa 8) (aa 8) (binop .mul)) (aw (fD (.int 69621)) (aa 5) (binop .mul)) (binop .add)) (fD (.int 2147483629)) (binop .mod))),(dw (fX "list" (aa 4) (aq [(aw (aw (aa 8) (aa 8) (binop .mul)) (fD (.int 2147483587)) (binop .mod))]) bAppend cf))])
def kj:State→Res Fl:=(dc (.nm 5) (lY (aq [(aa 2)]) mU) uN)
def vL:State→Res Fl:=(bV (aa 4))
def jD:State→Res Fl:=(ak [kn,kd,j7,kj,vL])
def c9:Fn:=dS 11 jD
@[simp] theorem Pg(a b:List D)(s:State):oC (.val (.d (.lst a))) (.val (.d (.lst b))) s=(if a.length+b.length≤sizeLine then .ok (.new (.lst (a.map .d++b.map .d))) s else .stuck):=by
 show(if(a.map Val.d).length+(b.map Val.d).length≤sizeLine then _ else _)=_
 rw[List.length_map,List.length_map]
@[simp] theorem HQ(a b:List Nat)(s:State):oC (.val (.d (.str a))) (.val (.d (.str b))) s=(if a.length+b.length≤sizeLine then .ok (.val (.d (.str (a++b)))) s else .stuck):=id rfl
theorem Iu{n:Nat}{i:Int}(h0:0≤i)(h1:i<n):ixN n i=some i.toNat:=by
 unfold ixN
 rw[if_pos h0,if_pos h1]
@[simp] theorem O8(l:List D):jN (.lst l) (.lst [])=l.isEmpty:=by
 show PyData.eqv (.list (dR l)) (.list (dR []))=_
 cases l<;> simp[dR,PyData.eqv,PyData.eqvAll]
end Sh
namespace Vw
open PySem L2 PyProof.Rows
def ze(sg:Slots)(r:Res RV):Res RV:=
 match r with
 | .ok r s2=>.ok r ⟨sg,s2.st⟩
 | .exc x s2=>.exc x ⟨sg,s2.st⟩
 | .stuck=>.stuck
def vm(r:Res Fl):Res Fl:=
 match r with
 | .ok .cnt s=>.ok .nx s
 | r=>r
def QK(t:Tg)(b:State→Res Fl)(v:Val)(s:State):Res Fl:=
 match dA t v s with
 | some s=>vm (b s)
 | none=>.stuck
section
variable(sg:Slots)(st:List Ob)(s s':State)(i j n:Nat)(d d':D)(x y:Val)(o:Ob)(f g h fa fb fc fo:State→Res RV)(fs:State→Res (List RV))(r r':RV)(N:List String)(T c:String)(e:Exn)(k:Fl)(gg:Fn)(b:State→Res Fl)(t:Tg)(args:List Val)
@[simp] theorem NH:ze sg (.ok r s)=.ok r ⟨sg,s.st⟩:=id rfl
@[simp] theorem Nr:ze sg (.exc e s)=.exc e ⟨sg,s.st⟩:=id rfl
@[simp] theorem O5:oN gg args ⟨sg,st⟩=ze sg (gg args st):=id rfl
@[simp] theorem Ox:jL n fs gg s=(fs s).bind fun rs s=>(aI rs s).bind fun args s=>if args.length=n then oN gg args s else .stuck:=id rfl
@[simp] theorem OP:oh c f s=(ev f s).bind fun r s=>match bL r s with
 | .ok (.d x) s=>.exc ⟨c,some x⟩ s
 | _=>.stuck:=id rfl
@[simp] theorem QM:Oa N T f s=(ev f s).bind fun r s=>match dv s r with
 | some (.exc c _)=>(match Lg N c T with
  | some b=>aF (.bl b) s
  | none=>.stuck)
 | some .non=>aF (.bl false) s
 | _=>.stuck:=id rfl
@[simp] theorem Rm:P9 N f s=(ev f s).bind fun r s=>match dv s r with
 | some (.exc c [p])=>if N.contains c then aF p s else .stuck
 | _=>.stuck:=id rfl
@[simp] theorem Qg:Ot r r' s=(match dv s r,dv s r' with
 | some (.bl a),some (.bl b)=>aF (.bl (decide (a=b))) s
 | _,_=>.stuck):=id rfl
@[simp] theorem O9:M4 r r' s=(match dv s r,dv s r' with
 | some (.bl a),some (.bl b)=>aF (.bl (!decide (a=b))) s
 | _,_=>.stuck):=id rfl
@[simp] theorem QG:OC r r' s=(match lv s r,dv s r' with
 | some l,some (.int k)=>if-(2^63)≤k∧k<2^63∧l.length*k.toNat≤sizeLine then .ok (.new (.lst (List.replicate k.toNat l).flatten)) s else .stuck
 | _,_=>.stuck):=id rfl
@[simp] theorem Qy:Nk f s=(ev f s).bind fun r s=>match dv s r with
 | some (.str t)=>if t.length≤sizeLine then aF (.str t.reverse) s else .stuck
 | _=>match lv s r with
  | some l=>.ok (.new (.lst l.reverse)) s
  | none=>.stuck:=id rfl
@[simp] theorem PR:w5 s (.val (.d d))=(match d with
 | .non=>some "NoneType" | .bl _=>some "bool" | .int _=>some "int" | .str _=>some "str" | .lst _=>some "list" | .tup _=>some "tuple" | .dic _=>some "dict" | _=>none):=by cases d<;> rfl
@[simp] theorem Qm:rJ r [r'] s=(match dv s r,(sq s r').bind strsOf with
  | some (.str a),some ys=>if(ys.map (·.length)).sum+ys.length*a.length≤16777216 then aF (.str (o5 a ys)) s else .stuck
  | _,_=>.stuck):=id rfl
@[simp] theorem Qf:gT .isin s (.val (.d (.str a))) (.val (.d (.str b')))=some (subIn a b'):=id rfl
@[simp] theorem Pj:gT .notin s r r'=(inD s r r').map not:=id rfl
@[simp] theorem Qa:gT .isin s r r'=inD s r r':=id rfl
@[simp] theorem P8(a b:List Nat):inD s (.val (.d (.str a))) (.val (.d (.str b)))=some (subIn a b):=id rfl
@[simp] theorem P2:gT .isn s (.val (.d d)) (.val (.d .non))=some (match d with | .non=>false | _=>true):=by cases d<;> rfl
@[simp] theorem QZ:gT .is s (.val (.d d)) (.val (.d .non))=some (match d with | .non=>true | _=>false):=by cases d<;> rfl
@[simp] theorem Rf(s:State)(r:RV):oP s r=(match dv s r with | some (.str _)=>true | _=>false):=id rfl
@[simp] theorem P0(o x:List Nat)(s:State):bIndex (.val (.d (.str o))) [.val (.d (.str x))] s=(match Builtin.Str.occurrences (Vw.st o) (Vw.st x) 0 o.length 1 with | i::_=>.ok (.val (.d (.int (i:Nat)))) s | []=>.stuck):=id rfl
@[simp] theorem O7(a:List Nat)(j:Int):Ao (.val (.d (.str a))) (.val (.d (.int j))) s=if 0≤j∧j<1000000∧a.length*j.toNat≤1000000 then aF (.str (List.replicate j.toNat a).flatten) s else .stuck:=id rfl
@[simp] theorem OW:vm (.ok .nx s)=.ok .nx s:=id rfl
@[simp] theorem OH:vm (.ok .cnt s)=.ok .nx s:=id rfl
@[simp] theorem N8:vm (.ok (.ret r) s)=.ok (.ret r) s:=id rfl
@[simp] theorem OT:vm (.exc e s)=.exc e s:=id rfl
@[simp] theorem QU(v:Val):QK t b v s=(match dA t v s with | some s=>vm (b s) | none=>.stuck):=id rfl
end
@[simp] theorem Rl(s:State)(a b:List Nat):uh s (.val (.d (.str a))) (.val (.d (.str b)))=some (decide (a=b)):=by
 show(if dB (.str a) (.str b)then some (jN (.str a) (.str b))else none)=_
 rw[if_pos (by rfl)]
 show some (Vw.st a==Vw.st b)=_
 by_cases h:a=b
 ·subst h;simp
 ·have h':Vw.st a≠Vw.st b:=fun z=>h (by
   have:=congrArg (fun x:Str=>x.cps.toList) z
   simpa [Vw.st]using this)
  have:(Vw.st a==Vw.st b)=false:=beq_eq_false_iff_ne.mpr h'
  rw[this];simp[h]
def Ft(vs:List Nat)(r:Res Val):Res (Option Val):=
 match r with
 | .ok y s=>.ok (some y) (bh vs s)
 | _=>.stuck
def Nn(vs:List Nat)(t:Tg)(ft:State→Res Bool)(fe:State→Res RV)(v:Val)(s:State):Res (Option Val):=
 match dA t v (bh vs s)with
 | none=>.stuck
 | some s=>(ft s).bind fun b s=>if b=true then(fe s).bind fun r s=>Ft vs (bL r s)else .ok none (bh vs s)
@[simp] theorem OV(vs:List Nat)(t:Tg)(ft:State→Res Bool)(fe:State→Res RV)(v:Val)(s:State):Nn vs t ft fe v s=(match dA t v (bh vs s)with
 | none=>.stuck
 | some s=>(ft s).bind fun b s=>if b=true then(fe s).bind fun r s=>Ft vs (bL r s)else .ok none (bh vs s)):=id rfl
@[simp] theorem OY(vs:List Nat)(y:Val)(s:State):Ft vs (.ok y s)=.ok (some y) (bh vs s):=id rfl
theorem AW(i j:Int):jN (.int i) (.int j)=decide (i=j):=by
 show(i==j)=_
 by_cases h:i=j<;> simp[h]
theorem Bz(a b:List Nat):jN (.str a) (.str b)=decide (a=b):=by
 show(Vw.st a==Vw.st b)=_
 by_cases h:a=b
 ·subst h;simp
 ·have h':Vw.st a≠Vw.st b:=fun z=>h (by
   have:=congrArg (fun x:Str=>x.cps.toList) z
   simpa [Vw.st]using this)
  rw[beq_eq_false_iff_ne.mpr h'];simp[h]
theorem Lq(a b:Bool):jN (.bl a) (.bl b)=decide (a=b):=by cases a<;> cases b<;> rfl
def nW(l:List D)(x:D):Option Bool:=if(pd x).plain&&PyData.plainAll (dR l)&&decide (min (PyData.depthAll (dR l)) (pd x).depth≤60)then some (l.any fun y=>jN y x)else none
def wA(m:List Val)(x:D):Option Bool:=(toDs m).bind fun l=>nW l x
theorem th{α:Type}[DecidableEq α](F:α→D)(l:List α)(x:α)(p:∀ y,eZ (F y)=true)(q:∀ y,gQ 40 (F y)=true)(e:∀ y z,jN (F y) (F z)=decide (y=z)):nW (l.map F) (F x)=some (decide (x∈l)):=by
 unfold nW
 have h1:=ji F l (fun y _=>p y)
 have h2:=n9 40 _ h1 (kq 40 F l fun y _=>q y)
 have h3:=qr 40 _ (p x) (q x)
 rw[if_pos (by simp[rD _ (p x),qe _ h1];omega)]
 congr 1
 induction l with
 | nil=>rfl
 | cons a l ih=>
  have h1':=ji F l (fun y _=>p y)
  rw[List.map_cons,List.any_cons,ih h1' (n9 40 _ h1' (kq 40 F l fun y _=>q y)),e]
  by_cases h:a=x
  ·simp[h]
  ·have h':¬ x=a:=fun z=>h z.symm
   simp[h,h']
@[simp] theorem E5(l:List Int)(i:Int):nW (l.map .int) (.int i)=some (decide (i∈l)):=(th D.int l i (fun _=>rfl) (fun _=>rfl) AW).trans (by congr)
@[simp] theorem Om(l:List (List Nat))(i:List Nat):nW (l.map .str) (.str i)=some (decide (i∈l)):=(th D.str l i (fun _=>rfl) (fun _=>rfl) Bz).trans (by congr)
@[simp] theorem O1(l:List Bool)(i:Bool):nW (l.map .bl) (.bl i)=some (decide (i∈l)):=(th D.bl l i (fun _=>rfl) (fun _=>rfl) Lq).trans (by congr)
@[simp] theorem Pl(l:List Int)(i:Int):wA (l.map vI) (.int i)=some (decide (i∈l)):=by
 unfold wA;rw[toDs_vI];exact E5 l i
@[simp] theorem QD(l:List D)(i:D):wA (l.map .d) i=nW l i:=by
 unfold wA;rw[toDs_map];rfl
def Oy(s:State)(x:RV)(j:Nat):Option Bool:=inD s x (.own j)
@[simp] theorem Pr(s:State)(x:D)(l:List D):inD s (.val (.d x)) (.val (.d (.lst l)))=nW l x:=by
 cases x<;> rfl
@[simp] theorem Qv(sg:Slots)(st:List Ob)(x:D)(j:Nat):inD ⟨sg,st⟩ (.val (.d x)) (.own j)=(match sg[j]? with | some (some (.own (.lst m)))=>wA m x | some (some (.v (.d (.lst l))))=>nW l x | _=>Oy ⟨sg,st⟩ (.val (.d x)) j):=by
 split
 ·rename_i m e
  unfold inD d4 gF qg
  simp only[Cm,uY,qi,e,JU]
  unfold wA
  cases e3:toDs m with
  | none=>cases x<;> simp
  | some l=>cases x<;> simp[nW]
 ·rename_i l e
  unfold inD d4 gF qg
  simp only[Cm,uY,qi,e,JU]
  cases x<;> rfl
 ·rfl
theorem og(c:Nat)(t:List Nat):subIn [c] t=decide (c∈t):=by
 have:=PySem.StrLaws.found_one (Vw.st t) c
 unfold subIn
 have e:(Vw.st t).length=t.length:=by simp[Vw.st,Str.length]
 rw[←e]
 have e2:Vw.st [c]=⟨#[c]⟩:=rfl
 rw[e2]
 rw[this]
 have h:c∈(Vw.st t).cps.toList↔c∈t:=by simp[Vw.st]
 by_cases hc:c∈t
 ·rw[decide_eq_true hc,decide_eq_true (h.mpr hc)]
 ·rw[decide_eq_false hc,decide_eq_false (fun z=>hc (h.mp z))]
theorem Gm(a:List Nat)(ys:List (List Nat)):o5 a ys=TL.joinL a ys:=by
 unfold o5
 rw[TL.join_eq]
 have h:=TL.tl_join (Vw.st a) (ys.map Vw.st)
 have e1:TL.tl (Vw.st a)=a:=by simp[TL.tl,Vw.st]
 have e2:(ys.map Vw.st).map TL.tl=ys:=by
  rw[List.map_map]
  have:(TL.tl∘Vw.st)=(id:List Nat→List Nat):=by funext x;simp[TL.tl,Vw.st]
  rw[this,List.map_id]
 rw[e1,e2]at h
 exact h
end Vw
namespace Vw
open PySem L2
inductive M (α:Type) where
 | ok (a:α)
 | exc (x:Exn)
 | bad
def M.bind{α β:Type}:M α→(α→M β)→M β
 | .ok a,k=>k a
 | .exc x,_=>.exc x
 | .bad,_=>.bad
@[simp] theorem M.ae{α β:Type}(a:α)(k:α→M β):(M.ok a).bind k=k a:=id rfl
@[simp] theorem M.FI{α β:Type}(x:Exn)(k:α→M β):(M.exc x:M α).bind k=.exc x:=id rfl
@[simp] theorem M.OE{α β:Type}(k:α→M β):(M.bad:M α).bind k=.bad:=id rfl
def gd(b:Bool):M Unit:=if b then .ok ()else .bad
@[simp] theorem i2:gd true=.ok ():=id rfl
abbrev Pt:=List (Option Sl)
def Fits(p:Pt)(g:Slots):Prop:=p.length=g.length∧∀ (i:Nat) (s:Sl),p[i]? =some (some s)→g[i]? =some (some s)
def cV:Pt→Pt→Prop
 | [],[]=>True
 | none::p,_::q=>cV p q
 | some s::p,t::q=>t=some s∧cV p q
 | _,_=>False
theorem cV.imp:∀ {p q:Pt},cV p q→p.length=q.length∧∀ (i:Nat) (s:Sl),p[i]? =some (some s)→q[i]? =some (some s)
 | [],[],_=>⟨rfl,fun i s h=>by simp at h⟩
 | [],_::_,h=>by simp[cV]at h
 | none::p,[],h=>by simp[cV]at h
 | some s::p,[],h=>by simp[cV]at h
 | none::p,t::q,h=>by
  have ih:=cV.imp (p:=p) (q:=q) h
  refine⟨by simp[ih.1],fun i s e=>?_⟩
  cases i with
  | zero=>simp at e
  | succ i=>exact ih.2 i s (by simpa using e)
 | some s::p,t::q,h=>by
  have ih:=cV.imp (p:=p) (q:=q) h.2
  refine⟨by simp[ih.1],fun i s' e=>?_⟩
  cases i with
  | zero=>simp at e ⊢;rw[h.1,e]
  | succ i=>exact ih.2 i s' (by simpa using e)
theorem Fits.weak{p q:Pt}{g:Slots}(h:Fits q g)(w:cV p q):Fits p g:=⟨w.imp.1.trans h.1,fun i s e=>h.2 i s (w.imp.2 i s e)⟩
theorem Fits.set{p:Pt}{g:Slots}(h:Fits p g)(i:Nat)(s:Sl):Fits (p.set i (some s)) (g.set i (some s)):=by
 refine⟨by simp[h.1],fun j s' e=>?_⟩
 rw[List.getElem?_set]at e ⊢
 split at e
 ·rename_i hij
  rw[if_pos hij]
  split at e
  ·rename_i hl
   rw[if_pos (h.1▸hl)]
   exact e
  ·cases e
 ·rename_i hij
  rw[if_neg hij]
  exact h.2 j s' e
theorem Fits.wipe{p:Pt}{g:Slots}(h:Fits p g):∀ vs:List Nat,(vs.all fun v=>(p.getD v none).isNone)=true→Fits p (cY g vs)
 | [],_=>h
 | v::vs,hv=>by
  have hv:(p.getD v none).isNone=true∧(vs.all fun v=>(p.getD v none).isNone)=true:=by simpa using hv
  have ih:=Fits.wipe h vs hv.2
  refine⟨by simp[cY,ih.1],fun j s e=>?_⟩
  show((cY g vs).set v none)[j]? =_
  rw[List.getElem?_set]
  split
  ·rename_i hvj
   subst hvj
   have:=hv.1
   rw[List.getD_eq_getElem?_getD,e]at this
   cases this
  ·exact ih.2 j s e
def Rn{α T:Type}(R:List Ob→Prop)(r:Res α)(m:M T)(post:T→α×Pt×List Ob):Prop:=
 match m with
 | .ok v=>∃ sg,r=.ok (post v).1 ⟨sg,(post v).2.2⟩∧Fits (post v).2.1 sg
 | .exc x=>∃ s,r=.exc x s∧R s.st
 | .bad=>True
def Ev{α T:Type}(R:List Ob→Prop)(p:Pt)(σ:List Ob)(f:State→Res α)(m:M T)(post:T→α×Pt×List Ob):Prop:=∀ sg,Fits p sg→Rn R (f ⟨sg,σ⟩) m post
section
variable{R:List Ob→Prop}{p p':Pt}{σ σ':List Ob}{α β γ T U W:Type}
theorem Ev.bind{f:State→Res α}{k:α→State→Res β}{m:M T}{mk:T→M U}{post:T→α×Pt×List Ob}{post2:U→β×Pt×List Ob}(h:Ev R p σ f m post)(hk:∀ v,Ev R (post v).2.1 (post v).2.2 (k (post v).1) (mk v) post2):Ev R p σ (fun s=>(f s).bind k) (m.bind mk) post2:=by
 intro sg hf
 have:=h sg hf
 cases m with
 | ok v=>
  obtain⟨sg',e,hf'⟩:=this
  have h2:=hk v sg' hf'
  simp only[M.ae]
  rw[e,Res.ae]
  exact h2
 | exc x=>
  obtain⟨s,e,r⟩:=this
  refine⟨s,?_,r⟩
  show(f ⟨sg,σ⟩).bind k=_
  rw[e];rfl
 | bad=>trivial
theorem Ev.aZ{f:State→Res α}{k:α→State→Res β}{a:T}{m:M U}{post:T→α×Pt×List Ob}{post2:U→β×Pt×List Ob}(h:Ev R p σ f (.ok a) post)(hk:Ev R (post a).2.1 (post a).2.2 (k (post a).1) m post2):Ev R p σ (fun s=>(f s).bind k) m post2:=by
 intro sg hf
 obtain⟨sg',e,hf'⟩:=h sg hf
 have h2:=hk sg' hf'
 dsimp only
 rw[e,Res.ae]
 exact h2
theorem Ev.pure{a:T}{r:T→α}:Ev R p σ (fun s=>.ok (r a) s) (.ok a) (fun v=>(r v,p,σ)):=fun sg hf=>⟨sg,rfl,hf⟩
theorem Ev.map{f:State→Res α}{m:M T}{post:T→α×Pt×List Ob}(φ:T→U)(post2:U→α×Pt×List Ob)(h:Ev R p σ f m post)(e:∀ v,post v=post2 (φ v)):Ev R p σ f (m.bind fun v=>.ok (φ v)) post2:=by
 intro sg hf
 have:=h sg hf
 cases m with
 | ok v=>
  obtain⟨sg',e',hf'⟩:=this
  rw[e v]at e' hf'
  exact⟨sg',e',hf'⟩
 | exc x=>exact this
 | bad=>trivial
theorem Ev.cI{f:State→Res α}{a:T}{post:T→α×Pt×List Ob}{b:U}{post2:U→α×Pt×List Ob}(h:Ev R p σ f (.ok a) post)(e:post a=post2 b):Ev R p σ f (.ok b) post2:=by
 intro sg hf
 obtain⟨sg',e',hf'⟩:=h sg hf
 rw[e]at e' hf'
 exact⟨sg',e',hf'⟩
theorem Ev.weak{f:State→Res α}{m:M T}{post:T→α×Pt×List Ob}(h:Ev R p σ f m post)(w:cV p p'):Ev R p' σ f m post:=fun sg hf=>h sg (hf.weak w)
theorem Ev.is{f g:State→Res α}{m:M T}{post:T→α×Pt×List Ob}(h:Ev R p σ f m post)(e:∀ s,g s=f s):Ev R p σ g m post:=fun sg hf=>by rw[e];exact h sg hf
theorem Ev.bad{f:State→Res α}{post:T→α×Pt×List Ob}:Ev R p σ f .bad post:=fun _ _=>trivial
theorem Ev.at{f:State→Res α}{a:T}{r:T→α}(h:∀ sg,Fits p sg→f ⟨sg,σ⟩=.ok (r a) ⟨sg,σ⟩):Ev R p σ f (.ok a) (fun v=>(r v,p,σ)):=fun sg hf=>⟨sg,h sg hf,hf⟩
theorem Ev.gd{f:State→Res α}{a:T}{r:T→α}{b:Bool}(h:b=true→∀ sg,Fits p sg→f ⟨sg,σ⟩=.ok (r a) ⟨sg,σ⟩):Ev R p σ f ((gd b).bind fun _=>.ok a) (fun v=>(r v,p,σ)):=by
 intro sg hf
 cases b with
 | true=>exact⟨sg,h rfl sg hf,hf⟩
 | false=>trivial
theorem Ev.op{f:State→Res α}{o:Option T}{r:T→α}(h:∀ a,o=some a→∀ sg,Fits p sg→f ⟨sg,σ⟩=.ok (r a) ⟨sg,σ⟩):Ev R p σ f (match o with | some a=>.ok a | none=>.bad) (fun v=>(r v,p,σ)):=by
 intro sg hf
 cases o with
 | some a=>exact⟨sg,h a rfl sg hf,hf⟩
 | none=>trivial
end
abbrev eL{T:Type}(e:T→D):List T→D:=fun l=>.lst (l.map e)
abbrev aj{A B:Type}(a:A→D)(b:B→D):A×B→D:=fun p=>.tup [a p.1,b p.2]
abbrev nZ{A B C:Type}(a:A→D)(b:B→D)(c:C→D):A×B×C→D:=fun p=>.tup [a p.1,b p.2.1,c p.2.2]
abbrev eN:Unit→D:=fun _=>.non
abbrev bx{T:Type}(e:T→D):List (Int×T)→D:=fun l=>.dic (l.map fun p=>(.i p.1,e p.2))
abbrev az{T:Type}(e:T→D):List (List Nat×T)→D:=fun l=>.dic (l.map fun p=>(.s p.1,e p.2))
abbrev oL{T:Type}(e:T→D):List T→Ob:=fun l=>.lst (l.map fun x=>.d (e x))
abbrev iK{T:Type}(e:T→D):List (Int×T)→Ob:=fun l=>.dic false (l.map fun p=>(.i p.1,.d (e p.2)))
abbrev bG{T:Type}(e:T→D):List (List Nat×T)→Ob:=fun l=>.dic false (l.map fun p=>(.s p.1,.d (e p.2)))
theorem bc{T:Type}(e:T→D)(l:List T):(oL e l).toD=some (eL e l):=by
 show(toDs _).map _=_
 rw[toDs_mapF];rfl
theorem toDK_mapF{κ α:Type}(F:α→D):∀ l:List (κ×α),toDK (l.map fun p=>(p.1,Val.d (F p.2)))=some (l.map fun p=>(p.1,F p.2))
 | []=>rfl
 | (k,x)::l=>by simp[toDK,toDK_mapF F l]
theorem Mc{T:Type}(e:T→D)(l:List (Int×T)):(iK e l).toD=some (bx e l):=by
 have h:=toDK_mapF (κ:=K0) e (l.map fun p=>(K0.i p.1,p.2))
 rw[List.map_map,List.map_map]at h
 show(toDK _).map _=_
 rw[show(l.map fun p=>(K0.i p.1,Val.d (e p.2)))=_ from rfl]at *
 exact(congrArg (Option.map D.dic) h).trans rfl
theorem oU{T:Type}(e:T→D)(l:List (List Nat×T)):(bG e l).toD=some (az e l):=by
 have h:=toDK_mapF (κ:=K0) e (l.map fun p=>(K0.s p.1,p.2))
 rw[List.map_map,List.map_map]at h
 show(toDK _).map _=_
 exact(congrArg (Option.map D.dic) h).trans rfl
def Lv{T:Type}(p:Pt)(σ:List Ob)(r:RV)(e:T→D)(l:List T):Prop:=∀ sg,Fits p sg→lv ⟨sg,σ⟩ r=some (l.map fun x=>.d (e x))∧j3 ⟨sg,σ⟩ r=some (eL e l)∧tv ⟨sg,σ⟩ r=none∧∀ k,d4 ⟨sg,σ⟩ r k=none
end Vw
namespace Vw
open PySem L2
section
variable{R:List Ob→Prop}{p p':Pt}{σ σ':List Ob}{α β γ T U W:Type}{i j n:Nat}
theorem dY{e:T→D}{l:List T}:Lv p σ (.val (.d (eL e l))) e l:=fun sg _=>⟨by simp[Function.comp_def],rfl,rfl,fun k=>rfl⟩
theorem jS{e:T→D}{l:List T}(h:p[i]? =some (some (.own (oL e l)))):Lv p σ (.own i) e l:=fun sg hf=>by
 have h:=hf.2 _ _ h
 refine⟨by simp[h],by simp[h,Function.comp_def],?_,fun k=>?_⟩
 ·unfold tv;simp[h]
 ·unfold d4 gF qg;simp[h]
def Pv(p:Pt)(σ:List Ob)(r:RV)(d:D):Prop:=∀ sg,Fits p sg→j3 ⟨sg,σ⟩ r=some d
theorem cB{d:D}:Pv p σ (.val (.d d)) d:=fun _ _=>rfl
theorem ao{a:T}{e:T→D}(h:p[i]? =some (some (.v (.d (e a))))):Ev R p σ (aa i) (.ok a) (fun v=>(.val (.d (e v)),p,σ)):=Ev.at (r:=fun v=>RV.val (Val.d (e v))) fun sg hf=>by
 rw[nh,hf.2 _ _ h]
theorem j5{a:T}{o:Ob}(h:p[i]? =some (some (.own o))):Ev R p σ (aa i) (.ok a) (fun _=>(.own i,p,σ)):=Ev.at (r:=fun _=>RV.own i) fun sg hf=>by
 rw[nh,hf.2 _ _ h]
theorem mI{a:T}(h:p[i]? =some (some (.v (.r n)))):Ev R p σ (aa i) (.ok a) (fun _=>(.val (.r n),p,σ)):=Ev.at (r:=fun _=>RV.val (Val.r n)) fun sg hf=>by
 rw[nh,hf.2 _ _ h]
theorem cD(e:T→D)(a:T):Ev R p σ (fD (e a)) (.ok a) (fun v=>(.val (.d (e v)),p,σ)):=Ev.at (r:=fun v=>RV.val (Val.d (e v))) fun sg hf=>rfl
theorem sv{f:State→Res RV}{m:M T}{x:T→Val}{P:T→Pt}{S:T→List Ob}(h:Ev R p σ f m (fun v=>(.val (x v),P v,S v))):Ev R p σ (ev f) m (fun v=>(.val (x v),P v,S v)):=fun sg hf=>by
 have:=h sg hf
 cases m with
 | ok v=>obtain⟨sg',e,hf'⟩:=this;exact⟨sg',by rw[nS,e];rfl,hf'⟩
 | exc x=>obtain⟨s,e,r⟩:=this;exact⟨s,by rw[nS,e];rfl,r⟩
 | bad=>trivial
theorem jW{f:State→Res RV}{m:M T}{P:T→Pt}{S:T→List Ob}(h:Ev R p σ f m (fun v=>(.own i,P v,S v))):Ev R p σ (ev f) m (fun v=>(.own i,P v,S v)):=fun sg hf=>by
 have:=h sg hf
 cases m with
 | ok v=>obtain⟨sg',e,hf'⟩:=this;exact⟨sg',by rw[nS,e];rfl,hf'⟩
 | exc x=>obtain⟨s,e,r⟩:=this;exact⟨s,by rw[nS,e];rfl,r⟩
 | bad=>trivial
theorem sn{f:State→Res RV}{m:M T}{o:T→Ob}{d:T→D}{P:T→Pt}{S:T→List Ob}(h:Ev R p σ f m (fun v=>(.new (o v),P v,S v)))(hd:∀ v,(o v).toD=some (d v)):Ev R p σ (ev f) m (fun v=>(.val (.d (d v)),P v,S v)):=fun sg hf=>by
 have:=h sg hf
 cases m with
 | ok v=>obtain⟨sg',e,hf'⟩:=this;exact⟨sg',by rw[nS,e,Res.ae,Oj,hd v],hf'⟩
 | exc x=>obtain⟨s,e,r⟩:=this;exact⟨s,by rw[nS,e];rfl,r⟩
 | bad=>trivial
theorem x1{fa:State→Res RV}{k:RV→State→Res α}{ma:M T}{mk:T→M W}{pa:T→RV×Pt×List Ob}{post:W→α×Pt×List Ob}(ha:Ev R p σ (ev fa) ma pa)(hk:∀ a,Ev R (pa a).2.1 (pa a).2.2 (k (pa a).1) (mk a) post):Ev R p σ (fun s=>(ev fa s).bind k) (ma.bind mk) post:=Ev.bind ha hk
abbrev pD(e:T→D)(p:Pt)(σ:List Ob):T→RV×Pt×List Ob:=fun v=>(.val (.d (e v)),p,σ)
abbrev Bh(e:T→D)(p:Pt)(σ:List Ob):List T→RV×Pt×List Ob:=fun v=>(.new (oL e v),p,σ)
def mulM(a b:Int):M Int:=(gd (F5 a b)).bind fun _=>.ok (a*b)
def tO(a b:Int):M Int:=(gd (wq b)).bind fun _=>.ok (a/b)
def pf(a b:Int):M Int:=(gd (decide (0<b))).bind fun _=>.ok (a%b)
def o3(a b:Int):M Int:=(gd (decide (0≤b∧b≤1000000∧a.natAbs<2^64))).bind fun _=>.ok (a^b.toNat)
theorem lO{a b:Int}:Ev R p σ (binop .add (.val (.d (.int a))) (.val (.d (.int b)))) (.ok (a+b)) (pD .int p σ):=Ev.at (r:=fun v=>RV.val (Val.d (D.int v))) fun sg _=>rfl
theorem GS{a b:Int}:Ev R p σ (binop .sub (.val (.d (.int a))) (.val (.d (.int b)))) (.ok (a-b)) (pD .int p σ):=Ev.at (r:=fun v=>RV.val (Val.d (D.int v))) fun sg _=>rfl
theorem yg{a b:Int}:Ev R p σ (binop .mul (.val (.d (.int a))) (.val (.d (.int b)))) (mulM a b) (pD .int p σ):=Ev.gd (r:=fun v=>RV.val (Val.d (D.int v))) fun h sg _=>by rw[MQ,I6,if_pos h];rfl
theorem DV{a b:Int}:Ev R p σ (binop .fdiv (.val (.d (.int a))) (.val (.d (.int b)))) (tO a b) (pD .int p σ):=Ev.gd (r:=fun v=>RV.val (Val.d (D.int v))) fun h sg _=>by rw[zU,if_pos h];rfl
theorem CS{a b:Int}:Ev R p σ (binop .mod (.val (.d (.int a))) (.val (.d (.int b)))) (pf a b) (pD .int p σ):=Ev.gd (r:=fun v=>RV.val (Val.d (D.int v))) fun h sg _=>by rw[BH,if_pos (of_decide_eq_true h)];rfl
theorem C7{a b:Int}:Ev R p σ (binop .pow (.val (.d (.int a))) (.val (.d (.int b)))) (o3 a b) (pD .int p σ):=Ev.gd (r:=fun v=>RV.val (Val.d (D.int v))) fun h sg _=>by rw[Ia,if_pos (of_decide_eq_true h)];rfl
theorem m4{a b:Int}(h:0<b):Ev R p σ (binop .mod (.val (.d (.int a))) (.val (.d (.int b)))) (.ok (a%b)) (pD .int p σ):=Ev.at (r:=fun v=>RV.val (Val.d (D.int v))) fun sg _=>by rw[BH,if_pos h];rfl
theorem uO{a b:Int}(h:wq b=true):Ev R p σ (binop .fdiv (.val (.d (.int a))) (.val (.d (.int b)))) (.ok (a/b)) (pD .int p σ):=Ev.at (r:=fun v=>RV.val (Val.d (D.int v))) fun sg _=>by rw[zU,if_pos h];rfl
theorem JQ{f:State→Res RV}{m:M Int}{P:Pt}{S:List Ob}(h:Ev R p σ (ev f) m (pD .int P S)):Ev R p σ (tj f) (m.bind fun a=>.ok (-a)) (pD .int P S):=Ev.bind h fun a=>Ev.at (r:=fun v=>RV.val (Val.d (D.int v))) fun sg _=>rfl
def jA(a b:List Nat):M (List Nat):=(gd (decide (a.length+b.length≤sizeLine))).bind fun _=>.ok (a++b)
def gp(a b:List T):M (List T):=(gd (decide (a.length+b.length≤sizeLine))).bind fun _=>.ok (a++b)
theorem uU{a b:List Nat}:Ev R p σ (binop .add (.val (.d (.str a))) (.val (.d (.str b)))) (jA a b) (pD .str p σ):=Ev.gd (r:=fun v=>RV.val (Val.d (D.str v))) fun h sg _=>by rw[GV,Sh.HQ,if_pos (of_decide_eq_true h)]
theorem JF{s:State}{x y:RV}{l m:List Val}(h1:lv s x=some l)(h2:lv s y=some m):oC x y s=if l.length+m.length≤sizeLine then .ok (.new (.lst (l++m))) s else .stuck:=by
 unfold oC
 have hx:∀ d,dv s x=some d→∃ l,d=.lst l:=fun d e=>by
  rw[yV,e]at h1
  cases d<;> simp at h1
  exact⟨_,rfl⟩
 split
 ·rename_i e _;obtain⟨_,z⟩:=hx _ e;cases z
 ·rename_i e _;obtain⟨_,z⟩:=hx _ e;cases z
 ·rw[h1,h2]
theorem add_l{e:T→D}{a b:List T}{x y:RV}(hx:Lv p σ x e a)(hy:Lv p σ y e b):Ev R p σ (binop .add x y) (gp a b) (Bh e p σ):=Ev.gd (r:=fun v=>RV.new (oL e v)) fun h sg hf=>by
 rw[GV,JF (hx sg hf).1 (hy sg hf).1,if_pos (by simpa using of_decide_eq_true h),←List.map_append]
theorem Ou{a b:Int}:Ev R p σ (aS .lt (.val (.d (.int a))) (.val (.d (.int b)))) (.ok (decide (a<b))) (pD .bl p σ):=Ev.at (r:=fun v=>RV.val (Val.d (D.bl v))) fun sg _=>rfl
theorem FL{a b:Int}:Ev R p σ (aS .le (.val (.d (.int a))) (.val (.d (.int b)))) (.ok (decide (a≤b))) (pD .bl p σ):=Ev.at (r:=fun v=>RV.val (Val.d (D.bl v))) fun sg _=>rfl
theorem Of{a b:Int}:Ev R p σ (aS .gt (.val (.d (.int a))) (.val (.d (.int b)))) (.ok (decide (b<a))) (pD .bl p σ):=Ev.at (r:=fun v=>RV.val (Val.d (D.bl v))) fun sg _=>rfl
theorem N2{a b:Int}:Ev R p σ (aS .ge (.val (.d (.int a))) (.val (.d (.int b)))) (.ok (decide (b≤a))) (pD .bl p σ):=Ev.at (r:=fun v=>RV.val (Val.d (D.bl v))) fun sg _=>rfl
theorem OM{a b:List Nat}:Ev R p σ (aS .le (.val (.d (.str a))) (.val (.d (.str b)))) (.ok (!hZ b a)) (pD .bl p σ):=Ev.at (r:=fun v=>RV.val (Val.d (D.bl v))) fun sg _=>rfl
def eqB{T:Type}[DecidableEq T](a b:T):Bool:=decide (a=b)
@[simp] theorem O0{T:Type}[DecidableEq T](a b:T):eqB a b=decide (a=b):=id rfl
structure EqE {T:Type} [DecidableEq T] (e:T→D) (n:Nat):Prop where
 pl:∀ x,eZ (e x)=true
 dp:∀ x,gQ n (e x)=true
 eq:∀ x y,jN (e x) (e y)=decide (x=y)
theorem EqE.cmp{T:Type}[DecidableEq T]{e:T→D}{n:Nat}(E:EqE e n)(h:n≤60)(x y:T):dB (e x) (e y)=true:=by
 have h1:=qr n _ (E.pl x) (E.dp x)
 unfold dB
 simp[rD _ (E.pl x),rD _ (E.pl y)]
 omega
theorem Dh[DecidableEq T]{e:T→D}{a b:T}{x y:RV}(hx:Pv p σ x (e a))(hy:Pv p σ y (e b))(E:EqE e n)(hn:n≤60):Ev R p σ (aS .eq x y) (.ok (eqB a b)) (pD .bl p σ):=Ev.at (r:=fun v=>RV.val (Val.d (D.bl v))) fun sg hf=>by
 rw[yJ,Og,HB,hx sg hf,hy sg hf]
 dsimp only
 rw[if_pos (E.cmp hn a b),E.eq];rfl
theorem ke[DecidableEq T]{e:T→D}{a b:T}{x y:RV}(hx:Pv p σ x (e a))(hy:Pv p σ y (e b))(E:EqE e n)(hn:n≤60):Ev R p σ (aS .ne x y) (.ok (!eqB a b)) (pD .bl p σ):=Ev.at (r:=fun v=>RV.val (Val.d (D.bl v))) fun sg hf=>by
 rw[yJ,N7,HB,hx sg hf,hy sg hf]
 dsimp only
 rw[if_pos (E.cmp hn a b),E.eq];rfl
def vW{T:Type}[DecidableEq T](a:T)(l:List T):Bool:=decide (a∈l)
@[simp] theorem Oo{T:Type}[DecidableEq T](a:T)(l:List T):vW a l=decide (a∈l):=id rfl
theorem DL[DecidableEq T]{e:T→D}(E:EqE e n)(l:List T):hE (l.map e)=true:=ji e l fun x _=>E.pl x
theorem Md[DecidableEq T]{e:T→D}(E:EqE e n)(l:List T)(a:T):((l.map e).any fun y=>jN y (e a))=decide (a∈l):=by
 rw[List.any_map]
 have:(fun y=>jN (e y) (e a))=fun y=>decide (y=a):=funext fun y=>E.eq y a
 rw[show((fun y=>jN y (e a))∘e)=fun y=>decide (y=a)from this]
 rw[Bool.eq_iff_iff]
 simp
theorem Nw[DecidableEq T]{e:T→D}{a:T}{l:List T}{x y:RV}(hx:Pv p σ x (e a))(hy:Lv p σ y e l)(E:EqE e n)(hn:n≤60){sg:Slots}(hf:Fits p sg):inD ⟨sg,σ⟩ x y=some (decide (a∈l)):=by
 obtain⟨h1,h2,h3,h4⟩:=hy sg hf
 unfold inD
 rw[h4 x]
 have hs:∀ b,dv ⟨sg,σ⟩ y≠some (.str b):=fun b e=>by rw[yV,e]at h1;cases h1
 dsimp only
 split
 ·rename_i e;exact absurd e (hs _)
 ·rw[hx sg hf,h2]
  dsimp only
  have d1:=qr n _ (E.pl a) (E.dp a)
  have d2:=qe _ (DL E l)
  rw[if_pos (by
   simp[rD _ (E.pl a),d2]
   omega)]
  rw[Md E]
theorem ON[DecidableEq T]{e:T→D}{a:T}{l:List T}{x y:RV}(hx:Pv p σ x (e a))(hy:Lv p σ y e l)(E:EqE e n)(hn:n≤60):Ev R p σ (aS .isin x y) (.ok (vW a l)) (pD .bl p σ):=Ev.at (r:=fun v=>RV.val (Val.d (D.bl v))) fun sg hf=>by
 rw[yJ]
 show(match inD _ _ _ with | some b=>aF (.bl b) _ | none=>Res.stuck)=_
 rw[Nw hx hy E hn hf];rfl
theorem yX{a b:List Nat}:Ev R p σ (aS .isin (.val (.d (.str a))) (.val (.d (.str b)))) (.ok (subIn a b)) (pD .bl p σ):=Ev.at (r:=fun v=>RV.val (Val.d (D.bl v))) fun sg hf=>rfl
def i7(l:List T)(i:Int):M T:=match atI l i with | some a=>.ok a | none=>.bad
def zB(t:List Nat)(i:Int):M (List Nat):=(gd (decide (t.length≤sizeLine))).bind fun _=>match atI t i with | some c=>.ok [c] | none=>.bad
theorem sW{e:T→D}{l:List T}{k:Int}{x:RV}(h:Lv p σ x e l):Ev R p σ (eQ x (.val (.d (.int k)))) (i7 l k) (pD e p σ):=Ev.op (r:=fun v=>RV.val (Val.d (e v))) fun a h' sg hf=>by
 obtain⟨h1,h2,h3,h4⟩:=h sg hf
 unfold eQ
 rw[h4]
 dsimp only
 split
 ·rename_i e' _;rw[yV,e']at h1;cases h1
 ·rename_i i e'' e'
  cases (show some (D.int k)=some (D.int i)from e'')
  rw[h1]
  dsimp only
  rw[wd,h'];rfl
 ·rename_i h5 h6
  exact absurd rfl (h5 k)
theorem LB{t:List Nat}{k:Int}:Ev R p σ (eQ (.val (.d (.str t))) (.val (.d (.int k)))) (zB t k) (pD .str p σ):=fun sg hf=>by
 unfold zB
 by_cases h:t.length≤sizeLine
 ·rw[show decide (t.length≤sizeLine)=true from decide_eq_true h,i2,M.ae,MF,if_pos h]
  cases atI t k with
  | some c=>exact⟨sg,rfl,hf⟩
  | none=>trivial
 ·rw[show decide (t.length≤sizeLine)=false from decide_eq_false h];trivial
end
end Vw
namespace Vw
open PySem L2
section
variable{R:List Ob→Prop}{p p':Pt}{σ σ':List Ob}{α β γ T U W A B:Type}{i j n:Nat}
abbrev pB(p:Pt)(σ:List Ob):Bool→Bool×Pt×List Ob:=fun v=>(v,p,σ)
theorem tB{f:State→Res RV}{m:M T}{b:T→Bool}{P:T→Pt}{S:T→List Ob}(h:Ev R p σ (ev f) m (fun v=>(.val (.d (.bl (b v))),P v,S v))):Ev R p σ (b9 f) m (fun v=>(b v,P v,S v)):=fun sg hf=>by
 have:=h sg hf
 cases m with
 | ok v=>obtain⟨sg',e,hf'⟩:=this;exact⟨sg',by rw[G1,e];rfl,hf'⟩
 | exc x=>obtain⟨s,e,r⟩:=this;exact⟨s,by rw[G1,e];rfl,r⟩
 | bad=>trivial
def andM(a b:M Bool):M Bool:=a.bind fun x=>if x=true then b else .ok false
def orM(a b:M Bool):M Bool:=a.bind fun x=>if x=true then .ok true else b
@[simp] theorem rM(x:Bool)(b:M Bool):andM (.ok x) b=if x=true then b else .ok false:=id rfl
@[simp] theorem Er(x:Bool)(b:M Bool):orM (.ok x) b=if x=true then .ok true else b:=id rfl
theorem Dg{x:Bool}{f g:State→Res α}{m1 m2:M T}{post:T→α×Pt×List Ob}(h1:x=true→Ev R p σ f m1 post)(h2:x=false→Ev R p σ g m2 post):Ev R p σ (fun s=>if x=true then f s else g s) (if x=true then m1 else m2) post:=by
 cases x with
 | true=>intro sg hf;exact h1 rfl sg hf
 | false=>intro sg hf;exact h2 rfl sg hf
theorem Dl{f g:State→Res Bool}{fs:List (State→Res Bool)}{m1 m2:M Bool}(h1:Ev R p σ f m1 (pB p σ))(h2:Ev R p σ (jd (g::fs)) m2 (pB p σ)):Ev R p σ (jd (f::g::fs)) (andM m1 m2) (pB p σ):=Ev.bind h1 fun x=>Dg (fun _=>h2) (fun _=>Ev.pure (r:=fun v:Bool=>v))
theorem Lw{f g:State→Res Bool}{fs:List (State→Res Bool)}{m1 m2:M Bool}(h1:Ev R p σ f m1 (pB p σ))(h2:Ev R p σ (kT (g::fs)) m2 (pB p σ)):Ev R p σ (kT (f::g::fs)) (orM m1 m2) (pB p σ):=Ev.bind h1 fun x=>Dg (fun _=>Ev.pure (r:=fun v:Bool=>v)) (fun _=>h2)
theorem Eb{f:State→Res Bool}{m1:M Bool}(h1:Ev R p σ f m1 (pB p σ)):Ev R p σ (jd [f]) m1 (pB p σ):=h1
theorem x3{f:State→Res Bool}{m1:M Bool}(h1:Ev R p σ f m1 (pB p σ)):Ev R p σ (kT [f]) m1 (pB p σ):=h1
theorem Ho{f:State→Res Bool}{m:M T}{b:T→Bool}{P:T→Pt}{S:T→List Ob}(h:Ev R p σ f m (fun v=>(b v,P v,S v))):Ev R p σ (rg f) m (fun v=>(!b v,P v,S v)):=fun sg hf=>by
 have:=h sg hf
 cases m with
 | ok v=>obtain⟨sg',e,hf'⟩:=this;exact⟨sg',by rw[G6,e];rfl,hf'⟩
 | exc x=>obtain⟨s,e,r⟩:=this;exact⟨s,by rw[G6,e];rfl,r⟩
 | bad=>trivial
theorem DT{f g:State→Res RV}{fs:List (State→Res RV)}{m1 m2:M Bool}(h1:Ev R p σ (ev f) m1 (pD .bl p σ))(h2:Ev R p σ (ie (g::fs)) m2 (pD .bl p σ)):Ev R p σ (ie (f::g::fs)) (andM m1 m2) (pD .bl p σ):=Ev.bind (tB (b:=fun v=>v) h1) fun x=>Dg (fun _=>h2) (fun _=>cD D.bl false)
theorem A5{f:State→Res RV}{m1:M T}{post:T→RV×Pt×List Ob}(h1:Ev R p σ (ev f) m1 post):Ev R p σ (ie [f]) m1 post:=h1
theorem au:Ev R p σ (aq []) (.ok ()) (fun _=>(([]:List RV),p,σ)):=Ev.pure (r:=fun _=>([]:List RV))
theorem dt{f:State→Res RV}{fs:List (State→Res RV)}{m1:M A}{m2:A→M B}{r1:A→RV}{P1:A→Pt}{S1:A→List Ob}{rs:A→B→List RV}{P:A→B→Pt}{S:A→B→List Ob}(h1:Ev R p σ (ev f) m1 (fun v=>(r1 v,P1 v,S1 v)))(h2:∀ v,Ev R (P1 v) (S1 v) (aq fs) (m2 v) (fun w=>(rs v w,P v w,S v w))):Ev R p σ (aq (f::fs)) (m1.bind fun v=>(m2 v).bind fun w=>.ok (v,w)) (fun z=>(r1 z.1::rs z.1 z.2,P z.1 z.2,S z.1 z.2)):=
 Ev.bind h1 fun v=>Ev.bind (h2 v) fun w=>(Ev.pure (a:=(v,w)) (r:=fun z:A×B=>r1 z.1::rs z.1 z.2)).cI rfl
inductive AllD:List RV→List Val→Prop
 | nil:AllD [] []
 | d {x:Val} {rs:List RV} {vs:List Val}:AllD rs vs→AllD (.val x::rs) (x::vs)
theorem AllD.bL{s:State}:∀ {rs:List RV} {vs:List Val},AllD rs vs→aI rs s=.ok vs s
 | _,_,.nil=>rfl
 | _,_,.d h=>by rw[Fg,ic,Res.ae,AllD.bL h,Res.ae]
inductive Cap (σ:List Ob):Pt→List RV→List Val→Pt→Prop
 | nil {p:Pt}:Cap σ p [] [] p
 | d {p q:Pt} {x:Val} {rs:List RV} {vs:List Val}:Cap σ p rs vs q→Cap σ p (.val x::rs) (x::vs) q
 | o {p q:Pt} {i:Nat} {o:Ob} {d:D} {rs:List RV} {vs:List Val}:p[i]? =some (some (.own o))→o.toD=some d→Cap σ (p.set i (some (.v (.d d)))) rs vs q→Cap σ p (.own i::rs) (.d d::vs) q
theorem Cap.run{σ:List Ob}:∀ {p q:Pt} {rs:List RV} {vs:List Val},Cap σ p rs vs q→∀ sg,Fits p sg→∃ sg',aI rs ⟨sg,σ⟩=.ok vs ⟨sg',σ⟩∧Fits q sg'
 | _,_,_,_,.nil,sg,hf=>⟨sg,rfl,hf⟩
 | _,_,_,_,.d h,sg,hf=>by
  obtain⟨sg',e,hf'⟩:=Cap.run h sg hf
  exact⟨sg',by rw[Fg,ic,Res.ae,e,Res.ae],hf'⟩
 | _,_,_,_,.o h1 h2 h,sg,hf=>by
  obtain⟨sg',e,hf'⟩:=Cap.run h _ (hf.set _ _)
  refine⟨sg',?_,hf'⟩
  rw[Fg,LV,hf.2 _ _ h1]
  dsimp only
  rw[h2]
  dsimp only
  rw[Res.ae,e,Res.ae]
theorem ja{fs:List (State→Res RV)}{m:M A}{rs:A→List RV}{P:A→Pt}{S:A→List Ob}{vs:A→List Val}{Q:A→Pt}{ds:A→List D}(h:Ev R p σ (aq fs) m (fun v=>(rs v,P v,S v)))(hc:∀ v,Cap (S v) (P v) (rs v) (vs v) (Q v))(hd:∀ v,toDs (vs v)=some (ds v))(hl:∀ v,Nat.ble (vs v).length 1000=true):Ev R p σ (gi fs) m (fun v=>(.val (.d (.tup (ds v))),Q v,S v)):=fun sg hf=>by
 have:=h sg hf
 cases m with
 | ok v=>
  obtain⟨sg',e,hf'⟩:=this
  obtain⟨sg2,e2,hf2⟩:=(hc v).run sg' hf'
  refine⟨sg2,?_,hf2⟩
  rw[GW,e,Res.ae,JG]
  dsimp only
  rw[e2,Res.ae,if_pos (small _ (by have:=Nat.le_of_ble_eq_true (hl v);omega)),Jh,hd v]
 | exc x=>obtain⟨s,e,r⟩:=this;exact⟨s,by rw[GW,e];rfl,r⟩
 | bad=>trivial
theorem cq{fs:List (State→Res RV)}{m:M A}{rs:A→List RV}{P:A→Pt}{S:A→List Ob}{vs:A→List Val}{Q:A→Pt}{e:T→D}{l:A→List T}(h:Ev R p σ (aq fs) m (fun v=>(rs v,P v,S v)))(hc:∀ v,Cap (S v) (P v) (rs v) (vs v) (Q v))(hd:∀ v,vs v=(l v).map fun x=>.d (e x))(hl:∀ v,Nat.ble (vs v).length 1000=true):Ev R p σ (cu fs) m (fun v=>(.new (oL e (l v)),Q v,S v)):=fun sg hf=>by
 have:=h sg hf
 cases m with
 | ok v=>
  obtain⟨sg',e,hf'⟩:=this
  obtain⟨sg2,e2,hf2⟩:=(hc v).run sg' hf'
  refine⟨sg2,?_,hf2⟩
  rw[Hr,e,Res.ae,Kq]
  dsimp only
  rw[e2,Res.ae,if_pos (small _ (by have:=Nat.le_of_ble_eq_true (hl v);omega)),hd v]
 | exc x=>obtain⟨s,e,r⟩:=this;exact⟨s,by rw[Hr,e];rfl,r⟩
 | bad=>trivial
theorem pe{f:State→Res RV}{m:M Int}(h:Ev R p σ (ev f) m (pD .int p σ)):Ev R p σ (mZ (.ex f)) m (fun v=>(some v,p,σ)):=fun sg hf=>by
 have:=h sg hf
 cases m with
 | ok v=>obtain⟨sg',e,hf'⟩:=this;exact⟨sg',by rw[Hm,e];rfl,hf'⟩
 | exc x=>obtain⟨s,e,r⟩:=this;exact⟨s,by rw[Hm,e];rfl,r⟩
 | bad=>trivial
theorem FR{e:T→D}{l:List T}{r:RV}{lo hi:Option Int}(h:Lv p σ r e l):Ev R p σ (Br r lo hi) (.ok (dF l lo hi)) (Bh e p σ):=Ev.at (r:=fun v=>RV.new (oL e v)) fun sg hf=>by
 obtain⟨h1,h2,h3,h4⟩:=h sg hf
 rw[Na]
 split
 ·rename_i e';rw[yV,e']at h1;cases h1
 ·rw[h1]
  dsimp only
  rw[Fp]
theorem GC{fs:List (State→Res RV)}{b:List RV→State→Res RV}{m:M A}{rs:A→List RV}{P:A→Pt}{S:A→List Ob}{mk:A→M T}{post:T→RV×Pt×List Ob}(h:Ev R p σ (aq fs) m (fun v=>(rs v,P v,S v)))(hb:∀ v,Ev R (P v) (S v) (b (rs v)) (mk v) post):Ev R p σ (di (aq fs) b) (m.bind mk) post:=Ev.bind h hb
def qx(t:List Nat):M Int:=(gd (decide (t.length≤sizeLine))).bind fun _=>.ok t.length
theorem Co{t:List Nat}:Ev R p σ (j8 [.val (.d (.str t))]) (qx t) (pD .int p σ):=Ev.gd (r:=fun v=>RV.val (Val.d (D.int v))) fun h sg _=>by
 show(if t.length≤sizeLine then _ else _)=_
 rw[if_pos (of_decide_eq_true h)];rfl
theorem Lv.sq{e:T→D}{l:List T}{r:RV}(h:Lv p σ r e l){sg:Slots}(hf:Fits p sg):Vw.sq ⟨sg,σ⟩ r=some (l.map fun x=>.d (e x)):=by rw[N9,(h sg hf).1]
theorem G7{e:T→D}{l:List T}{r:RV}(h:Lv p σ r e l):Ev R p σ (j8 [r]) (.ok (l.length:Int)) (pD .int p σ):=Ev.at (r:=fun v=>RV.val (Val.d (D.int v))) fun sg hf=>by
 have h1:=(h sg hf).1
 rw[MW]
 split
 ·rename_i e';rw[yV,e']at h1;cases h1
 ·rw[h.sq hf];simp
theorem LH{e:T→D}{l:List T}{r:RV}(h:Lv p σ r e l):Ev R p σ (lM [r]) (.ok l) (Bh e p σ):=Ev.at (r:=fun v=>RV.new (oL e v)) fun sg hf=>by
 rw[Lf,h.sq hf]
theorem Nh{a:Int}:Ev R p σ (yD [.val (.d (.int a))]) (.ok (if a<0 then-a else a)) (pD .int p σ):=Ev.at (r:=fun v=>RV.val (Val.d (D.int v))) fun sg _=>rfl
theorem Mx{a b:Int}:Ev R p σ (yb [.val (.d (.int a)),.val (.d (.int b))]) (.ok (if b<a then b else a)) (pD .int p σ):=Ev.at (r:=fun v=>RV.val (Val.d (D.int v))) fun sg _=>rfl
theorem BD:∀ l:List Bool,nP (l.map fun x=>.d (.bl x))=some l
 | []=>rfl
 | x::r=>by simp[nP,BD r]
theorem oF:∀ l:List (List Nat),strsOf (l.map fun x=>.d (.str x))=some l
 | []=>rfl
 | x::r=>by simp[strsOf,oF r]
theorem MI{l:List Bool}{r:RV}(h:Lv p σ r .bl l):Ev R p σ (CO [r]) (.ok (l.all id)) (pD .bl p σ):=Ev.at (r:=fun v=>RV.val (Val.d (D.bl v))) fun sg hf=>by
 show(match (lv _ r).bind nP with | some ns=>aF (.bl (ns.all id)) _ | _=>Res.stuck)=_
 rw[(h sg hf).1,Option.bind_some,BD];rfl
theorem Nj{a:Bool}:Ev R p σ (CH [.val (.d (.bl a))]) (.ok (if a=true then 1 else 0)) (pD .int p σ):=Ev.at (r:=fun v=>RV.val (Val.d (D.int v))) fun sg _=>rfl
theorem tw{e:T→D}{l:List T}{r:RV}(h:Lv p σ r e l){sg:Slots}(hf:Fits p sg):cf ⟨sg,σ⟩ r=true:=by rw[MY,(h sg hf).1];rfl
def gx(l:List T)(x:T):M (List T):=(gd (decide (l.length<sizeLine))).bind fun _=>.ok (l++[x])
theorem rK{e:T→D}{l:List T}{x:T}(h:p[i]? =some (some (.own (oL e l)))):Ev R p σ (bAppend (.own i) [.val (.d (e x))]) (gx l x) (fun v=>(.val (.d .non),p.set i (some (.own (oL e v))),σ)):=fun sg hf=>by
 unfold gx
 by_cases hl:l.length<sizeLine
 ·rw[show decide (l.length<sizeLine)=true from decide_eq_true hl,i2,M.ae]
  refine⟨_,?_,hf.set i _⟩
  have h:=hf.2 _ _ h
  simp[h,hl,oL]
 ·rw[show decide (l.length<sizeLine)=false from decide_eq_false hl];trivial
def joinM(a:List Nat)(ys:List (List Nat)):M (List Nat):=(gd (decide ((ys.map (·.length)).sum+ys.length*a.length≤16777216))).bind fun _=>.ok (o5 a ys)
theorem DD{a:List Nat}{l:List (List Nat)}{r:RV}(h:Lv p σ r .str l):Ev R p σ (rJ (.val (.d (.str a))) [r]) (joinM a l) (pD .str p σ):=Ev.gd (r:=fun v=>RV.val (Val.d (D.str v))) fun hb sg hf=>by
 show(match dv _ _,(Vw.sq _ r).bind strsOf with | some (.str a),some ys=>_ | _,_=>Res.stuck)=_
 rw[h.sq hf,Option.bind_some,oF]
 simp only[qi]
 rw[if_pos (of_decide_eq_true hb)];rfl
def FQ(a b:List Nat):M Int:=match Builtin.Str.occurrences (Vw.st a) (Vw.st b) 0 a.length 1 with
 | i::_=>.ok (i:Nat)
 | []=>.bad
theorem MK{a b:List Nat}:Ev R p σ (bIndex (.val (.d (.str a))) [.val (.d (.str b))]) (FQ a b) (pD .int p σ):=fun sg hf=>by
 unfold FQ
 show Rn R (match Builtin.Str.occurrences (Vw.st a) (Vw.st b) 0 a.length 1 with | i::_=>aF (.int (i:Nat)) _ | []=>Res.stuck) _ _
 split
 ·exact⟨sg,rfl,hf⟩
 ·trivial
end
end Vw
namespace Vw
open PySem L2
def nox{T:Type}:M T→M T
 | .ok a=>.ok a
 | _=>.bad
@[simp] theorem i6{T:Type}(a:T):nox (.ok a)=.ok a:=id rfl
@[simp] theorem O3{T:Type}:nox (.bad:M T)=.bad:=id rfl
def dW{T:Type}(R:List Ob→Prop)(g:Fn)(args:List Val)(σ:List Ob)(m:M T)(post:T→RV×List Ob):Prop:=
 match m with
 | .ok v=>g args σ=.ok (post v).1 ⟨[],(post v).2⟩
 | .exc x=>∃ s,g args σ=.exc x s∧R s.st
 | .bad=>True
section
variable{R R':List Ob→Prop}{p p':Pt}{σ σ':List Ob}{α β γ T U W A B C:Type}{i j n:Nat}
theorem dW.up{g:Fn}{args:List Val}{m:M T}{post:T→RV×List Ob}(h:dW R g args σ m post)(w:∀ s,R s→R' s):dW R' g args σ m post:=by
 cases m with
 | ok v=>exact h
 | exc x=>obtain⟨s,e,r⟩:=h;exact⟨s,e,w _ r⟩
 | bad=>trivial
theorem rP{k:Nat}{fs:List (State→Res RV)}{g:Fn}{mA:M A}{rs:A→List RV}{P:A→Pt}{S:A→List Ob}{vs:A→List Val}{Q:A→Pt}{mg:A→M T}{pg:A→T→RV×List Ob}{post:T→RV×Pt×List Ob}(h:Ev R p σ (aq fs) mA (fun v=>(rs v,P v,S v)))(hc:∀ v,Cap (S v) (P v) (rs v) (vs v) (Q v))(hl:∀ v,(vs v).length=k)(hg:∀ v,dW R' g (vs v) (S v) (mg v) (pg v))(hp:∀ v w,post w=((pg v w).1,Q v,(pg v w).2)):Ev R p σ (cw k (aq fs) g) (mA.bind fun v=>nox (mg v)) post:=by
 refine Ev.bind h fun v sg hf=>?_
 obtain⟨sg2,e2,hf2⟩:=(hc v).run sg hf
 have hg:=hg v
 show Rn R ((aI (rs v) ⟨sg,S v⟩).bind fun args s=>if args.length=k then bF g args s else .stuck) (nox (mg v)) post
 rw[e2,Res.ae,if_pos (hl v),BP]
 cases hm:mg v with
 | ok w=>
  rw[hm]at hg
  rw[show g (vs v) (S v)=_ from hg,zP]
  exact⟨sg2,by rw[hp v w],by rw[hp v w];exact hf2⟩
 | exc x=>trivial
 | bad=>trivial
theorem FC{k:Nat}{fs:List (State→Res RV)}{g:Fn}{mA:M A}{rs:A→List RV}{P:A→Pt}{S:A→List Ob}{vs:A→List Val}{Q:A→Pt}{mg:A→M T}{pg:A→T→RV×List Ob}{post:T→RV×Pt×List Ob}(h:Ev R p σ (aq fs) mA (fun v=>(rs v,P v,S v)))(hc:∀ v,Cap (S v) (P v) (rs v) (vs v) (Q v))(hl:∀ v,(vs v).length=k)(hg:∀ v,dW R g (vs v) (S v) (mg v) (pg v))(hp:∀ v w,post w=((pg v w).1,Q v,(pg v w).2)):Ev R p σ (jL k (aq fs) g) (mA.bind mg) post:=by
 refine Ev.bind h fun v sg hf=>?_
 obtain⟨sg2,e2,hf2⟩:=(hc v).run sg hf
 have hg:=hg v
 show Rn R ((aI (rs v) ⟨sg,S v⟩).bind fun args s=>if args.length=k then oN g args s else .stuck) (mg v) post
 rw[e2,Res.ae,if_pos (hl v)]
 show Rn R (match g (vs v) (S v)with | .ok r s2=>.ok r ⟨sg2,s2.st⟩ | .exc x s2=>.exc x ⟨sg2,s2.st⟩ | .stuck=>.stuck) (mg v) post
 cases hm:mg v with
 | ok w=>
  rw[hm]at hg
  rw[show g (vs v) (S v)=_ from hg]
  exact⟨sg2,by rw[hp v w],by rw[hp v w];exact hf2⟩
 | exc x=>
  rw[hm]at hg
  obtain⟨s,e,r⟩:=hg
  rw[e]
  exact⟨_,rfl,r⟩
 | bad=>trivial
def yC(p:Pt)(σ:List Ob)(x:Val)(c m:String):Prop:=∃ fl,(∀ sg,Fits p sg→uI ⟨sg,σ⟩ (.val x)=some (c,fl))∧fl.contains m=false
theorem iz{c m:String}{fs:List (String×D)}(h:(fs.map (·.1)).contains m=false):yC p σ (.d (.ins c fs)) c m:=⟨_,fun _ _=>rfl,h⟩
theorem D1{c m:String}{fs:List (String×Val)}(hσ:σ[n]? =some (.ins c fs))(h:(fs.map (·.1)).contains m=false):yC p σ (.r n) c m:=⟨_,fun sg hf=>by
 unfold uI
 simp[hσ],h⟩
theorem JN{c m:String}{k:Nat}{fo:State→Res RV}{fs:List (State→Res RV)}{g:Fn}{mo:M B}{xo:B→Val}{Po:B→Pt}{So:B→List Ob}{mA:B→M A}{rs:B→A→List RV}{P:B→A→Pt}{S:B→A→List Ob}{vs:B→A→List Val}{Q:B→A→Pt}{mg:B→A→M T}{pg:B→A→T→RV×List Ob}{post:T→RV×Pt×List Ob}(ho:Ev R p σ (ev fo) mo (fun b=>(.val (xo b),Po b,So b)))(hi:∀ b,yC (Po b) (So b) (xo b) c m)(h:∀ b,Ev R (Po b) (So b) (aq fs) (mA b) (fun v=>(rs b v,P b v,S b v)))(hc:∀ b v,Cap (S b v) (P b v) (rs b v) (vs b v) (Q b v))(hl:∀ b v,(vs b v).length+1=k)(hg:∀ b v,dW R' g (xo b::vs b v) (S b v) (mg b v) (pg b v))(hp:∀ b v w,post w=((pg b v w).1,Q b v,(pg b v w).2)):Ev R p σ (cc bF c m k fo (aq fs) g) (mo.bind fun b=>(mA b).bind fun v=>nox (mg b v)) post:=by
 refine Ev.bind ho fun b sg hf=>?_
 obtain⟨fl,hi,hfl⟩:=hi b
 dsimp only
 rw[hi sg hf]
 dsimp only
 rw[if_pos ⟨rfl,hfl⟩]
 refine Ev.bind (h b) (fun v sg hf=>?_) sg hf
 obtain⟨sg2,e2,hf2⟩:=(hc b v).run sg hf
 have hg:=hg b v
 show Rn R ((aI (rs b v) ⟨sg,S b v⟩).bind fun args s=>if args.length+1=k then bF g (xo b::args) s else .stuck) (nox (mg b v)) post
 rw[e2,Res.ae,if_pos (hl b v),BP]
 cases hm:mg b v with
 | ok w=>
  rw[hm]at hg
  rw[show g (xo b::vs b v) (S b v)=_ from hg,zP]
  exact⟨sg2,by rw[hp b v w],by rw[hp b v w];exact hf2⟩
 | exc x=>trivial
 | bad=>trivial
abbrev pS(E:T→Val)(p:Pt)(σ:List Ob):List T→List Val×Pt×List Ob:=fun l=>(l.map E,p,σ)
def chars(t:List Nat):List (List Nat):=t.map fun c=>[c]
def eI(l:List T):List (Int×T):=l.mapIdx fun i x=>((i:Int),x)
theorem gU{f:State→Res RV}{m:M (List T)}{e:T→D}{P:Pt}{S:List Ob}(h:Ev R p σ (ev f) m (pD (eL e) P S)):Ev R p σ (sD f itemsOf) m (pS (fun x=>.d (e x)) P S):=fun sg hf=>by
 have:=h sg hf
 cases m with
 | ok v=>obtain⟨sg',e1,hf'⟩:=this;exact⟨sg',by rw[mF,e1,Res.ae];simp[Function.comp_def],hf'⟩
 | exc x=>obtain⟨s,e,r⟩:=this;exact⟨s,by rw[mF,e];rfl,r⟩
 | bad=>trivial
theorem FW{sg:Slots}{st:List Ob}{o:Ob}{d:D}(h:sg[i]? =some (some (.own o)))(hd:o.toD=some d):mG (.own i) ⟨sg,st⟩=.ok d ⟨sg.set i (some (.v (.d d))),st⟩:=by
 rw[uF,LV,h]
 dsimp only
 rw[hd]
theorem Mj{l:List T}{e:T→D}(h:p[i]? =some (some (.own (oL e l)))):Ev R p σ (sD (aa i) itemsOf) (.ok l) (pS (fun x=>.d (e x)) (p.set i (some (.v (.d (eL e l))))) σ):=fun sg hf=>by
 refine⟨_,?_,hf.set i _⟩
 have h:=hf.2 _ _ h
 rw[mF,nS,nh,h]
 dsimp only
 rw[Res.ae,Oc,Res.ae,FW h (bc e l),Res.ae]
 simp[Function.comp_def]
theorem GO{f:State→Res RV}{m:M (List Nat)}{P:Pt}{S:List Ob}(h:Ev R p σ (ev f) m (pD .str P S)):Ev R p σ (sD f itemsOf) (m.bind fun t=>.ok (chars t)) (pS (fun x=>.d (.str x)) P S):=fun sg hf=>by
 have:=h sg hf
 cases m with
 | ok v=>obtain⟨sg',e1,hf'⟩:=this;exact⟨sg',by rw[mF,e1,Res.ae];simp[Function.comp_def,chars],hf'⟩
 | exc x=>obtain⟨s,e,r⟩:=this;exact⟨s,by rw[mF,e];rfl,r⟩
 | bad=>trivial
theorem u9{f:State→Res RV}{m:M (List T)}{e:T→D}{P:Pt}{S:List Ob}(h:Ev R p σ (ev f) m (pD (eL e) P S)):Ev R p σ (sD f gG) (m.bind fun l=>.ok (eI l)) (pS (fun x=>.d (aj .int e x)) P S):=fun sg hf=>by
 have:=h sg hf
 cases m with
 | ok v=>
  obtain⟨sg',e1,hf'⟩:=this
  refine⟨sg',?_,hf'⟩
  rw[mF,e1,Res.ae]
  simp only[uF,ic,Res.ae,EF]
  congr 1
  unfold eI
  apply List.ext_getElem?
  intro i
  simp only[List.getElem?_mapIdx,List.getElem?_map]
  cases v[i]? <;> rfl
 | exc x=>obtain⟨s,e,r⟩:=this;exact⟨s,by rw[mF,e];rfl,r⟩
 | bad=>trivial
end
end Vw
namespace Vw
open PySem L2
section
variable{R R':List Ob→Prop}{p p':Pt}{σ σ':List Ob}{α β γ T U W A B C:Type}{i j n:Nat}
theorem Ik{f:State→Res RV}{m:M (List Nat)}{P:Pt}{S:List Ob}(h:Ev R p σ (ev f) m (pD .str P S)):Ev R p σ (sD f gG) (m.bind fun t=>.ok (eI (chars t))) (pS (fun x=>.d (aj .int .str x)) P S):=fun sg hf=>by
 have:=h sg hf
 cases m with
 | ok v=>
  obtain⟨sg',e1,hf'⟩:=this
  refine⟨sg',?_,hf'⟩
  rw[mF,e1,Res.ae]
  simp only[uF,ic,Res.ae,EF]
  congr 1
  unfold eI chars
  apply List.ext_getElem?
  intro i
  simp only[List.getElem?_mapIdx,List.getElem?_map]
  cases v[i]? <;> rfl
 | exc x=>obtain⟨s,e,r⟩:=this;exact⟨s,by rw[mF,e];rfl,r⟩
 | bad=>trivial
def vG(lo hi:Int):M (List Int):=(gd (decide (-(2^62)≤lo∧lo<2^62∧ -(2^62)≤hi∧hi<2^62))).bind fun _=>.ok ((List.range (hi-lo).toNat).map fun(i:Nat)=>lo+(i:Int))
theorem Jx{lo hi:Int}:Ev R p σ (oI lo hi) (vG lo hi) (pS (fun x=>.d (.int x)) p σ):=fun sg hf=>by
 unfold vG oI
 by_cases h: -(2^62)≤lo∧lo<2^62∧ -(2^62)≤hi∧hi<2^62
 ·rw[decide_eq_true h,i2,M.ae,if_pos h]
  exact⟨sg,by simp[Function.comp_def],hf⟩
 ·rw[decide_eq_false h];trivial
theorem NY{a:Int}:Ev R p σ (mU [.val (.d (.int a))]) (vG 0 a) (pS (fun x=>.d (.int x)) p σ):=Jx
def x8(i j c:Int):M (List Int):=(gd (decide ((0<c∧c<2^30)∧ -(2^61)≤i∧i<2^61∧ -(2^61)≤j∧j<2^61))).bind fun _=>.ok ((List.range ((j-i+c- 1)/c).toNat).map fun(k:Nat)=>i+(k:Int)*c)
theorem OO{a b c:Int}:Ev R p σ (uz [.val (.d (.int a)),.val (.d (.int b)),.val (.d (.int c))]) (x8 a b c) (pS (fun x=>.d (.int x)) p σ):=fun sg hf=>by
 show Rn R (Dm a b c _) _ _
 unfold x8 Dm
 by_cases h:(0<c∧c<2^30)∧ -(2^61)≤a∧a<2^61∧ -(2^61)≤b∧b<2^61
 ·rw[decide_eq_true h,i2,M.ae,if_pos h]
  exact⟨sg,by simp[Function.comp_def],hf⟩
 ·rw[decide_eq_false h];trivial
def j0(p:Pt)(t:Tg)(v:Val)(q:Pt):Prop:=∀ sg σ,Fits p sg→∃ sg',dA t v ⟨sg,σ⟩=some ⟨sg',σ⟩∧Fits q sg'
def Cd(p:Pt)(t:List Tg)(v:List Val)(q:Pt):Prop:=∀ sg σ,Fits p sg→∃ sg',lN t v ⟨sg,σ⟩=some ⟨sg',σ⟩∧Fits q sg'
theorem bb{v:Val}:j0 p (.nm i) v (p.set i (some (.v v))):=fun sg σ hf=>⟨_,rfl,hf.set i _⟩
theorem e8{ts:List Tg}{l:List D}{vs:List Val}{q:Pt}(hv:vs=l.map .d)(hl:l.length=ts.length)(h:Cd p ts vs q):j0 p (.tp ts) (.d (.tup l)) q:=fun sg σ hf=>by
 obtain⟨sg',e,hf'⟩:=h sg σ hf
 refine⟨sg',?_,hf'⟩
 subst hv
 rw[IY,Ny]
 dsimp only
 rw[if_pos (by simpa using hl)]
 exact e
theorem du:Cd p [] [] p:=fun sg σ hf=>⟨sg,rfl,hf⟩
theorem aW{t:Tg}{ts:List Tg}{v:Val}{vs:List Val}{q q':Pt}(h1:j0 p t v q)(h2:Cd q ts vs q'):Cd p (t::ts) (v::vs) q':=fun sg σ hf=>by
 obtain⟨sg1,e1,hf1⟩:=h1 sg σ hf
 obtain⟨sg2,e2,hf2⟩:=h2 sg1 σ hf1
 exact⟨sg2,by rw[I9,e1];exact e2,hf2⟩
def eJ(mt:T→M Bool)(me:T→M U):List U→List T→M (List U)
 | acc,[]=>.ok acc
 | acc,x::l=>(mt x).bind fun b=>if b=true then(me x).bind fun y=>(gd (decide (acc.length<sizeLine))).bind fun _=>eJ mt me (acc++[y]) l else eJ mt me acc l
def cX(mt:T→M Bool)(me:T→M U)(l:List T):M (List U):=nox (eJ mt me [] l)
theorem oW{f:State→Res RV}{m:M T}{e:T→D}{P:T→Pt}{S:T→List Ob}(h:Ev R p σ f m (fun v=>(.val (.d (e v)),P v,S v))):Ev R p σ (fun s=>(f s).bind bL) m (fun v=>(Val.d (e v),P v,S v)):=fun sg hf=>by
 have:=h sg hf
 cases m with
 | ok v=>obtain⟨sg',e,hf'⟩:=this;exact⟨sg',by show(f _).bind bL=_;rw[e];rfl,hf'⟩
 | exc x=>obtain⟨s,e,r⟩:=this;exact⟨s,by show(f _).bind bL=_;rw[e];rfl,r⟩
 | bad=>trivial
def kD(mt:T→C→M Bool)(me:T→C→M (U×C)):List U→List T→C→M (List U×C)
 | acc,[],c=>.ok (acc,c)
 | acc,x::l,c=>(mt x c).bind fun b=>if b=true then(me x c).bind fun y=>(gd (decide (acc.length<sizeLine))).bind fun _=>kD mt me (acc++[y.1]) l y.2 else kD mt me acc l c
def x6(mt:T→C→M Bool)(me:T→C→M (U×C))(l:List T)(c:C):M (List U×C):=nox (kD mt me [] l c)
theorem vD{vs:List Nat}{t:Tg}{ft:State→Res Bool}{fe:State→Res RV}{E:T→Val}{e:U→D}{S:C→List Ob}{mt:T→C→M Bool}{me:T→C→M (U×C)}{p2 p3:T→Pt}(hv:(vs.all fun v=>(p.getD v none).isNone)=true)
  (hb:∀ x c,j0 p t (E x) (p2 x)∧Ev R (p2 x) (S c) ft (mt x c) (fun b=>(b,p2 x,S c))∧Ev R (p2 x) (S c) (fun s=>(fe s).bind bL) (me x c) (fun y=>(.d (e y.1),p3 x,S y.2))) (hw2:∀ x,cV p (p2 x)) (hw3:∀ x,cV p (p3 x)):
  ∀ (l:List T) (acc:List U) (c:C) (sg:Slots),Fits p sg→match kD mt me acc l c with
   | .ok r=>∃ sg',j2 vs t ft fe (l.map E) (acc.map fun x=>.d (e x)) ⟨sg,S c⟩=.ok (r.1.map fun x=>.d (e x)) ⟨sg',S r.2⟩∧Fits p sg'
   | _=>True
 | [],acc,c,sg,hf=>⟨sg,rfl,hf⟩
 | x::l,acc,c,sg,hf=>by
  obtain⟨h1,h2,h3⟩:=hb x c
  have ew:bh vs ⟨sg,S c⟩=⟨cY sg vs,S c⟩:=rfl
  obtain⟨sg1,e1,f1⟩:=h1 _ (S c) (hf.wipe vs hv)
  have h2:=h2 sg1 f1
  unfold kD
  rw[List.map_cons]
  have step:j2 vs t ft fe (E x::l.map E) (acc.map fun x=>.d (e x)) ⟨sg,S c⟩=(match ft ⟨sg1,S c⟩with
   | .ok true s=>match fe s with
    | .ok rv s=>match bL rv s with
     | .ok y s=>if(acc.map fun x=>Val.d (e x)).length<sizeLine then j2 vs t ft fe (l.map E) ((acc.map fun x=>Val.d (e x))++[y]) (bh vs s)else .stuck
     | _=>.stuck
    | _=>.stuck
   | .ok false s=>j2 vs t ft fe (l.map E) (acc.map fun x=>.d (e x)) (bh vs s)
   | _=>.stuck):=by
   show(match dA t (E x) (bh vs ⟨sg,S c⟩)with | none=>Res.stuck | some s=>_)=_
   rw[ew,e1]
   try rfl
  rw[step]
  cases hm:mt x c with
  | ok b=>
   rw[hm]at h2
   obtain⟨sg2,e2,f2⟩:=h2
   rw[M.ae,e2]
   cases b with
   | true=>
    have h3:=h3 sg2 f2
    rw[if_pos rfl]
    cases hy:me x c with
    | ok y=>
     rw[hy]at h3
     obtain⟨sg3,e3,f3⟩:=h3
     rw[M.ae]
     by_cases ha:acc.length<sizeLine
     ·rw[decide_eq_true ha,i2,M.ae]
      have e3:(fe ⟨sg2,S c⟩).bind bL=.ok (.d (e y.1)) ⟨sg3,S y.2⟩:=e3
      cases hfe:fe ⟨sg2,S c⟩with
      | ok rv s=>
       rw[hfe,Res.ae]at e3
       dsimp only
       rw[hfe]
       dsimp only
       rw[e3]
       dsimp only
       rw[if_pos (by simpa using ha)]
       have ih:=vD hv hb hw2 hw3 l (acc++[y.1]) y.2 (cY sg3 vs) ((f3.weak (hw3 x)).wipe vs hv)
       rw[List.map_append]at ih
       exact ih
      | exc z s=>rw[hfe]at e3;cases e3
      | stuck=>rw[hfe]at e3;cases e3
     ·rw[decide_eq_false ha];trivial
    | exc z=>trivial
    | bad=>trivial
   | false=>
    rw[if_neg (by simp)]
    dsimp only
    exact vD hv hb hw2 hw3 l acc c (cY sg2 vs) ((f2.weak (hw2 x)).wipe vs hv)
  | exc z=>trivial
  | bad=>trivial
theorem NC{vs:List Nat}{t:Tg}{src:State→Res (List Val)}{ft:State→Res Bool}{fe:State→Res RV}{ml:M A}{lA:A→List T}{E:T→Val}{q:Pt}{e:U→D}{S:C→List Ob}{cA:A→C}{mt:T→C→M Bool}{me:T→C→M (U×C)}{p2 p3:T→Pt}(hs:Ev R p σ src ml (fun a=>((lA a).map E,q,S (cA a))))(hv:(vs.all fun v=>(q.getD v none).isNone)=true)
  (hb:∀ x c,j0 q t (E x) (p2 x)∧Ev R (p2 x) (S c) ft (mt x c) (fun b=>(b,p2 x,S c))∧Ev R (p2 x) (S c) (fun s=>(fe s).bind bL) (me x c) (fun y=>(.d (e y.1),p3 x,S y.2))) (hw2:∀ x,cV q (p2 x)) (hw3:∀ x,cV q (p3 x)):
  Ev R p σ (fq vs t src ft fe) (ml.bind fun a=>x6 mt me (lA a) (cA a)) (fun r=>(.new (oL e r.1),q,S r.2)):=Ev.bind hs fun a sg hf=>by
 have:=vD (R:=R) (fe:=fe) (ft:=ft) (me:=me) (mt:=mt) hv hb hw2 hw3 (lA a) [] (cA a) (cY sg vs) (hf.wipe vs hv)
 unfold x6
 cases hc:kD mt me [] (lA a) (cA a)with
 | ok r=>
  rw[hc]at this
  obtain⟨sg',e1,f1⟩:=this
  refine⟨sg',?_,f1⟩
  have e1:j2 vs t ft fe ((lA a).map E) [] (bh vs ⟨sg,S (cA a)⟩)=_:=e1
  show(j2 vs t ft fe ((lA a).map E) [] (bh vs ⟨sg,S (cA a)⟩)).bind pF=_
  rw[e1];rfl
 | exc x=>trivial
 | bad=>trivial
theorem vj(mt:T→M Bool)(me:T→M U):∀ (l:List T) (acc:List U),kD (C:=Unit) (fun x _=>mt x) (fun x _=>(me x).bind fun y=>.ok (y,())) acc l ()=(eJ mt me acc l).bind fun r=>.ok (r,())
 | [],acc=>rfl
 | x::l,acc=>by
  unfold kD eJ
  cases mt x with
  | ok b=>
   cases b with
   | true=>
    simp only[M.ae,if_pos]
    cases me x with
    | ok y=>
     simp only[M.ae]
     cases decide (acc.length<sizeLine)with
     | true=>simp only[i2,M.ae];exact vj mt me l _
     | false=>rfl
    | exc z=>rfl
    | bad=>rfl
   | false=>
    simp only[M.ae]
    exact vj mt me l acc
  | exc z=>rfl
  | bad=>rfl
theorem o8{vs:List Nat}{t:Tg}{src:State→Res (List Val)}{ft:State→Res Bool}{fe:State→Res RV}{ml:M (List T)}{E:T→Val}{q:Pt}{τ:List Ob}{e:U→D}{mt:T→M Bool}{me:T→M U}{p2 p3:T→Pt}(hs:Ev R p σ src ml (fun l=>(l.map E,q,τ)))(hv:(vs.all fun v=>(q.getD v none).isNone)=true)
  (hb:∀ x,j0 q t (E x) (p2 x)∧Ev R (p2 x) τ ft (mt x) (fun b=>(b,p2 x,τ))∧Ev R (p2 x) τ (fun s=>(fe s).bind bL) (me x) (fun y=>(.d (e y),p3 x,τ))) (hw2:∀ x,cV q (p2 x)) (hw3:∀ x,cV q (p3 x)):
  Ev R p σ (fq vs t src ft fe) (ml.bind fun l=>cX mt me l) (fun r=>(.new (oL e r),q,τ)):=by
 have h:=NC (R:=R) (C:=Unit) (S:=fun _=>τ) (cA:=fun _=>()) (lA:=fun l=>l) (mt:=fun x _=>mt x) (me:=fun x _=>(me x).bind fun y=>.ok (y,())) (e:=e) (p3:=p3) hs hv (fun x c=>⟨(hb x).1,(hb x).2.1,Ev.map (fun y=>(y,())) _ (hb x).2.2 fun v=>rfl⟩) hw2 hw3
 intro sg hf
 have h:=h sg hf
 cases ml with
 | ok l=>
  show Rn R _ (cX mt me l) _
  have h:Rn R _ (x6 (C:=Unit) (fun x _=>mt x) (fun x _=>(me x).bind fun y=>.ok (y,())) l ()) _:=h
  unfold x6 at h
  unfold cX
  rw[vj]at h
  revert h
  cases eJ mt me [] l<;> intro h<;> exact h
 | exc x=>exact h
 | bad=>trivial
theorem kI:Ev R p σ bZ (.ok true) (pB p σ):=Ev.pure (r:=fun v:Bool=>v)
end
end Vw
namespace Vw
open PySem L2
@[simp] theorem M.bind_pure{α:Type}(m:M α):(m.bind fun v=>.ok v)=m:=by cases m<;> rfl
inductive OutS where
 | nx (p:Pt) (σ:List Ob)
 | go (p:Pt) (σ:List Ob)
 | brk (p:Pt) (σ:List Ob)
 | ret (rv:RV) (σ:List Ob)
def GN(r:Res Fl):OutS→Prop
 | .nx p σ=>∃ sg,r=.ok .nx ⟨sg,σ⟩∧Fits p sg
 | .go p σ=>∃ sg,(r=.ok .nx ⟨sg,σ⟩∨r=.ok .cnt ⟨sg,σ⟩)∧Fits p sg
 | .brk p σ=>∃ sg,r=.ok .brk ⟨sg,σ⟩∧Fits p sg
 | .ret rv σ=>∃ r0 sg,r=.ok (.ret r0) ⟨sg,σ⟩∧mT ⟨sg,σ⟩ r0=some rv
def Sg{T:Type}(w:Bool)(R:List Ob→Prop)(p:Pt)(σ:List Ob)(b:State→Res Fl)(m:M T)(post:T→OutS):Prop:=∀ sg,Fits p sg→match m with
 | .ok v=>GN (b ⟨sg,σ⟩) (post v)∧(w=true→∀ s,b ⟨sg,σ⟩≠ .ok .nx s)
 | .exc x=>∃ s,b ⟨sg,σ⟩=.exc x s∧R s.st
 | .bad=>True
inductive Lp (C Q:Type) where
 | go (c:C)
 | brk (c:C)
 | ret (q:Q)
def foldM{C T:Type}(f:C→T→M C):C→List T→M C
 | c,[]=>.ok c
 | c,x::l=>(f c x).bind fun c=>foldM f c l
def gY{C T Q:Type}(f:C→T→M (Lp C Q)):C→List T→M (C ⊕ Q)
 | c,[]=>.ok (.inl c)
 | c,x::l=>(f c x).bind fun o=>match o with
  | .go c=>gY f c l
  | .brk c=>.ok (.inl c)
  | .ret q=>.ok (.inr q)
@[simp] theorem NV{C T:Type}(f:C→T→M C)(c:C):foldM f c []=.ok c:=id rfl
@[simp] theorem d6{C T:Type}(f:C→T→M C)(c:C)(x:T)(l:List T):foldM f c (x::l)=(f c x).bind fun c=>foldM f c l:=id rfl
@[simp] theorem NX{C T Q:Type}(f:C→T→M (Lp C Q))(c:C):gY f c []=.ok (.inl c):=id rfl
theorem Cp{C T Q:Type}(f:C→T→M (Lp C Q))(c:C)(x:T)(l:List T):gY f c (x::l)=(f c x).bind fun o=>match o with
  | .go c=>gY f c l
  | .brk c=>.ok (.inl c)
  | .ret q=>.ok (.inr q):=rfl
def qP{C Q U:Type}(k:C→M U)(ι:Q→U):C ⊕ Q→M U
 | .inl c=>k c
 | .inr q=>.ok (ι q)
@[simp] theorem K3{C Q U:Type}(k:C→M U)(ι:Q→U)(c:C):qP k ι (.inl c)=k c:=id rfl
@[simp] theorem JI{C Q U:Type}(k:C→M U)(ι:Q→U)(q:Q):qP k ι (.inr q)=.ok (ι q):=id rfl
section
variable{R R':List Ob→Prop}{p p' q:Pt}{σ σ':List Ob}{α β γ T U W A B C Q:Type}{i j n:Nat}{w:Bool}
theorem gu{v:T}{post:T→OutS}(hp:post v=.nx p' σ)(hw:cV p' p):Sg false R p σ (ak []) (.ok v) post:=fun sg hf=>⟨by rw[hp];exact⟨sg,rfl,hf.weak hw⟩,fun h=>by cases h⟩
theorem eU{v:T}{post:T→OutS}(hp:post v=.go p' σ)(hw:cV p' p):Sg false R p σ (ak []) (.ok v) post:=fun sg hf=>⟨by rw[hp];exact⟨sg,.inl rfl,hf.weak hw⟩,fun h=>by cases h⟩
theorem jm{s:State→Res Fl}{rest:List (State→Res Fl)}{m:M A}{P:A→Pt}{S:A→List Ob}{k:A→M T}{post:T→OutS}(hs:Ev R p σ s m (fun v=>(.nx,P v,S v)))(hr:∀ v,Sg w R (P v) (S v) (ak rest) (k v) post):Sg w R p σ (ak (s::rest)) (m.bind k) post:=fun sg hf=>by
 have:=hs sg hf
 cases m with
 | ok v=>
  obtain⟨sg',e,f⟩:=this
  have h2:=hr v sg' f
  rw[M.ae,EH e]
  exact h2
 | exc x=>
  obtain⟨s',e,r⟩:=this
  exact⟨s',by rw[kA,e,zp],r⟩
 | bad=>trivial
theorem E3{r:Res Fl}{k:State→Res Fl}(h:∀ s,r≠ .ok .nx s):o7 r k=r:=by
 cases r with
 | ok f s=>
  cases f with
  | nx=>exact absurd rfl (h s)
  | ret r=>rfl
  | brk=>rfl
  | cnt=>rfl
 | exc x s=>rfl
 | stuck=>rfl
theorem cm{s:State→Res Fl}{rest:List (State→Res Fl)}{m:M T}{post:T→OutS}(hs:Sg true R p σ s m post):Sg w R p σ (ak (s::rest)) m post:=fun sg hf=>by
 have:=hs sg hf
 cases m with
 | ok v=>
  have h2:=this.2 rfl
  rw[kA,E3 h2]
  exact⟨this.1,fun _=>h2⟩
 | exc x=>
  obtain⟨s',e,r⟩:=this
  exact⟨s',by rw[kA,e,zp],r⟩
 | bad=>trivial
theorem Sg.weak{b:State→Res Fl}{m:M T}{post:T→OutS}(h:Sg true R p σ b m post):Sg w R p σ b m post:=fun sg hf=>by
 have:=h sg hf
 cases m with
 | ok v=>exact⟨this.1,fun _=>this.2 rfl⟩
 | exc x=>exact this
 | bad=>trivial
theorem Bv{f:State→Res RV}{m:M A}{x:A→Val}{P:A→Pt}{S:A→List Ob}{φ:A→T}{post:T→OutS}(h:Ev R p σ f m (fun v=>(.val (x v),P v,S v)))(hp:∀ v,post (φ v)=.ret (.val (x v)) (S v)):Sg true R p σ (bV f) (m.bind fun v=>.ok (φ v)) post:=fun sg hf=>by
 have:=h sg hf
 cases m with
 | ok v=>
  obtain⟨sg',e,f⟩:=this
  refine⟨?_,fun _ s h=>?_⟩
  ·rw[hp]
   exact⟨.val (x v),sg',by rw[m6,e];rfl,rfl⟩
  ·rw[m6,e]at h
   cases h
 | exc x=>
  obtain⟨s',e,r⟩:=this
  exact⟨s',by rw[m6,e];rfl,r⟩
 | bad=>trivial
theorem A8{f:State→Res RV}{m:M A}{x:A→Ob}{P:A→Pt}{S:A→List Ob}{φ:A→T}{post:T→OutS}(h:Ev R p σ f m (fun v=>(.new (x v),P v,S v)))(hp:∀ v,post (φ v)=.ret (.new (x v)) (S v)):Sg true R p σ (bV f) (m.bind fun v=>.ok (φ v)) post:=fun sg hf=>by
 have:=h sg hf
 cases m with
 | ok v=>
  obtain⟨sg',e,f⟩:=this
  refine⟨?_,fun _ s h=>?_⟩
  ·rw[hp]
   exact⟨.new (x v),sg',by rw[m6,e];rfl,rfl⟩
  ·rw[m6,e]at h
   cases h
 | exc x=>
  obtain⟨s',e,r⟩:=this
  exact⟨s',by rw[m6,e];rfl,r⟩
 | bad=>trivial
theorem Es{o:Ob}{a:T}{post:T→OutS}(h:p[i]? =some (some (.own o)))(hp:post a=.ret (.new o) σ):Sg true R p σ (bV (aa i)) (.ok a) post:=fun sg hf=>by
 have h:=hf.2 _ _ h
 refine⟨?_,fun _ s h'=>?_⟩
 ·rw[hp]
  exact⟨.own i,sg,by rw[m6,nh,h];rfl,by rw[J6,h]⟩
 ·rw[m6,nh,h]at h'
  cases h'
theorem sN{c:String}{f:State→Res RV}{m:M A}{e:A→D}{S:A→List Ob}{P:A→Pt}{post:T→OutS}(h:Ev R p σ (ev f) m (fun v=>(.val (.d (e v)),P v,S v)))(hr:∀ v,R (S v)):Sg true R p σ (oh c f) (m.bind fun v=>.exc ⟨c,some (e v)⟩) post:=fun sg hf=>by
 have:=h sg hf
 cases m with
 | ok v=>
  obtain⟨sg',e1,f⟩:=this
  refine⟨⟨sg',S v⟩,?_,hr v⟩
  show(ev _ _).bind _=_
  rw[e1];rfl
 | exc x=>
  obtain⟨s',e1,r⟩:=this
  refine⟨s',?_,r⟩
  show(ev _ _).bind _=_
  rw[e1];rfl
 | bad=>trivial
theorem yy{as bs:List (State→Res Fl)}{s:State}:o7 (ak as s) (ak bs)=ak (as++bs) s:=by
 induction as generalizing s with
 | nil=>rfl
 | cons a as ih=>
  rw[List.cons_append,kA,kA]
  cases a s with
  | ok f s'=>
   cases f with
   | nx=>rw[rS,rS];exact ih
   | ret r=>rfl
   | brk=>rfl
   | cnt=>rfl
  | exc x s'=>rfl
  | stuck=>rfl
theorem tP{t:State→Res Bool}{As Bs rest:List (State→Res Fl)}{mt:M A}{b:A→Bool}{P:A→Pt}{S:A→List Ob}{mA mB:A→M T}{post:T→OutS}(ht:Ev R p σ t mt (fun v=>(b v,P v,S v)))(hA:∀ v,Sg w R (P v) (S v) (ak (As++rest)) (mA v) post)(hB:∀ v,Sg w R (P v) (S v) (ak (Bs++rest)) (mB v) post):Sg w R p σ (ak (gI t (ak As) (ak Bs)::rest)) (mt.bind fun v=>if b v=true then mA v else mB v) post:=fun sg hf=>by
 have:=ht sg hf
 cases mt with
 | ok v=>
  obtain⟨sg',e,f⟩:=this
  rw[M.ae,kA,C5,e,Res.ae]
  dsimp only
  by_cases hb:b v=true
  ·have h2:=hA v sg' f
   simp only[if_pos hb,yy]
   exact h2
  ·have h2:=hB v sg' f
   simp only[if_neg hb,yy]
   exact h2
 | exc x=>
  obtain⟨s',e,r⟩:=this
  exact⟨s',by rw[kA,C5,e];rfl,r⟩
 | bad=>trivial
theorem Cv{t:State→Res Bool}{As Bs rest:List (State→Res Fl)}{mt:M A}{b:A→Bool}{P:A→Pt}{S:A→List Ob}{mA mB:A→M C}{Pc:C→Pt}{Sc:C→List Ob}{k:C→M T}{post:T→OutS}(ht:Ev R p σ t mt (fun v=>(b v,P v,S v)))(hA:∀ v,Sg false R (P v) (S v) (ak As) (mA v) (fun c=>.nx (Pc c) (Sc c)))(hB:∀ v,Sg false R (P v) (S v) (ak Bs) (mB v) (fun c=>.nx (Pc c) (Sc c)))(hr:∀ c,Sg w R (Pc c) (Sc c) (ak rest) (k c) post):Sg w R p σ (ak (gI t (ak As) (ak Bs)::rest)) ((mt.bind fun v=>if b v=true then mA v else mB v).bind k) post:=by
 refine jm (P:=Pc) (S:=Sc) (fun sg hf=>?_) hr
 have:=ht sg hf
 cases mt with
 | ok v=>
  obtain⟨sg',e,f⟩:=this
  rw[M.ae,C5,e,Res.ae]
  dsimp only
  by_cases hb:b v=true
  ·have h2:=hA v sg' f
   simp only[if_pos hb]
   cases hm:mA v with
   | ok c=>rw[hm]at h2;exact h2.1
   | exc x=>rw[hm]at h2;exact h2
   | bad=>trivial
  ·have h2:=hB v sg' f
   simp only[if_neg hb]
   cases hm:mB v with
   | ok c=>rw[hm]at h2;exact h2.1
   | exc x=>rw[hm]at h2;exact h2
   | bad=>trivial
 | exc x=>
  obtain⟨s',e,r⟩:=this
  exact⟨s',by rw[C5,e];rfl,r⟩
 | bad=>trivial
theorem e6{f:State→Res RV}{m:M A}{x:A→Val}{P:A→Pt}{S:A→List Ob}(h:Ev R p σ f m (fun v=>(.val (x v),P v,S v))):Ev R p σ (aR i f) m (fun v=>(.nx,(P v).set i (some (.v (x v))),S v)):=fun sg hf=>by
 have:=h sg hf
 cases m with
 | ok v=>obtain⟨sg',e,f⟩:=this;exact⟨_,by rw[rR,e];rfl,f.set i _⟩
 | exc x=>obtain⟨s',e,r⟩:=this;exact⟨s',by rw[rR,e];rfl,r⟩
 | bad=>trivial
theorem pI{f:State→Res RV}{m:M A}{x:A→Ob}{P:A→Pt}{S:A→List Ob}(h:Ev R p σ f m (fun v=>(.new (x v),P v,S v))):Ev R p σ (aR i f) m (fun v=>(.nx,(P v).set i (some (.own (x v))),S v)):=fun sg hf=>by
 have:=h sg hf
 cases m with
 | ok v=>obtain⟨sg',e,f⟩:=this;exact⟨_,by rw[rR,e];rfl,f.set i _⟩
 | exc x=>obtain⟨s',e,r⟩:=this;exact⟨s',by rw[rR,e];rfl,r⟩
 | bad=>trivial
theorem Nc{op:Bop}{g:Int→Int→Int}{f:State→Res RV}{m:M Int}{a:Int}(hg:AA op=some g)(hi:p[i]? =some (some (.v (.d (.int a)))))(h:Ev R p σ (ev f) m (pD .int p σ)):Ev R p σ (pk i op f) (m.bind fun b=>.ok (g a b)) (fun v=>(.nx,p.set i (some (.v (.d (.int v)))),σ)):=fun sg hf=>by
 have:=h sg hf
 have hi:=hf.2 _ _ hi
 have e0:pk i op f ⟨sg,σ⟩=(ev f ⟨sg,σ⟩).bind fun y s=>match dv s y with
   | some (.int b)=>.ok .nx { s with sg:=s.sg.set i (some (.v (.d (.int (g a b))))) }
   | _=>.stuck:=by
  unfold pk sl
  rw[hg]
  dsimp only
  rw[hi]
  try rfl
 cases m with
 | ok v=>
  obtain⟨sg',e,f⟩:=this
  refine⟨_,?_,f.set i _⟩
  rw[e0,e];rfl
 | exc x=>obtain⟨s',e,r⟩:=this;exact⟨s',by rw[e0,e];rfl,r⟩
 | bad=>trivial
theorem mY{f:State→Res RV}{m:M A}{r:A→RV}{P:A→Pt}{S:A→List Ob}(h:Ev R p σ f m (fun v=>(r v,P v,S v))):Ev R p σ (dw f) m (fun v=>(.nx,P v,S v)):=fun sg hf=>by
 have:=h sg hf
 cases m with
 | ok v=>obtain⟨sg',e,f⟩:=this;exact⟨sg',by rw[D9,e];rfl,f⟩
 | exc x=>obtain⟨s',e,r⟩:=this;exact⟨s',by rw[D9,e];rfl,r⟩
 | bad=>trivial
theorem AD{t:Tg}{b:State→Res Fl}{E:T→Val}{P:C→Pt}{S:C→List Ob}{p2:C→T→Pt}{mb:C→T→M C}(ht:∀ c x,j0 (P c) t (E x) (p2 c x))(hb:∀ c x,Sg false R (p2 c x) (S c) b (mb c x) (fun c'=>.go (P c') (S c'))):
  ∀ (l:List T) (c:C) (sg:Slots),Fits (P c) sg→Rn R (iT t b (l.map E) ⟨sg,S c⟩) (foldM mb c l) (fun c'=>(.nx,P c',S c'))
 | [],c,sg,hf=>⟨sg,rfl,hf⟩
 | x::l,c,sg,hf=>by
  obtain⟨sg1,e1,f1⟩:=ht c x sg (S c) hf
  have h:=hb c x sg1 f1
  rw[List.map_cons,DA,e1,d6]
  dsimp only
  cases hm:mb c x with
  | ok c'=>
   rw[hm]at h
   obtain⟨⟨sg2,e2,f2⟩,_⟩:=h
   have ih:=AD ht hb l c' sg2 f2
   rw[M.ae]
   rcases e2 with e2 | e2
   ·rw[e2,BF];exact ih
   ·rw[e2,zJ];exact ih
  | exc z=>
   rw[hm]at h
   obtain⟨s',e,r⟩:=h
   exact⟨s',by rw[e];rfl,r⟩
  | bad=>trivial
theorem jE{t:Tg}{src:State→Res (List Val)}{b:State→Res Fl}{ml:M A}{lA:A→List T}{E:T→Val}{q:A→Pt}{S0:A→List Ob}{c0:A→C}{P:C→Pt}{S:C→List Ob}{p2:C→T→Pt}{mb:C→T→M C}(hs:Ev R p σ src ml (fun a=>((lA a).map E,q a,S0 a)))(hw:∀ a,cV (P (c0 a)) (q a))(hS:∀ a,S0 a=S (c0 a))(ht:∀ c x,j0 (P c) t (E x) (p2 c x))(hb:∀ c x,Sg false R (p2 c x) (S c) b (mb c x) (fun c'=>.go (P c') (S c'))):Ev R p σ (dc t src b) (ml.bind fun a=>foldM mb (c0 a) (lA a)) (fun c'=>(.nx,P c',S c')):=Ev.bind hs fun a sg hf=>by
 dsimp only at hf ⊢
 rw[hS a]
 exact AD ht hb (lA a) (c0 a) sg (hf.weak (hw a))
theorem yQ{t:Tg}{b:State→Res Fl}{E:T→Val}{P:C→Pt}{S:C→List Ob}{p2:C→T→Pt}{mb:C→T→M (Lp C Q)}{rv:Q→RV}{Sr:Q→List Ob}(ht:∀ c x,j0 (P c) t (E x) (p2 c x))(hb:∀ c x,Sg false R (p2 c x) (S c) b (mb c x) (fun o=>match o with | .go c=>.go (P c) (S c) | .brk c=>.brk (P c) (S c) | .ret q=>.ret (rv q) (Sr q))):
  ∀ (l:List T) (c:C) (sg:Slots),Fits (P c) sg→match gY mb c l with
   | .ok o=>GN (iT t b (l.map E) ⟨sg,S c⟩) (match o with | .inl c=>.nx (P c) (S c) | .inr q=>.ret (rv q) (Sr q))
   | .exc x=>∃ s,iT t b (l.map E) ⟨sg,S c⟩=.exc x s∧R s.st
   | .bad=>True
 | [],c,sg,hf=>⟨sg,rfl,hf⟩
 | x::l,c,sg,hf=>by
  obtain⟨sg1,e1,f1⟩:=ht c x sg (S c) hf
  have h:=hb c x sg1 f1
  rw[List.map_cons,DA,e1,Cp]
  dsimp only
  cases hm:mb c x with
  | ok o=>
   rw[hm]at h
   rw[M.ae]
   cases o with
   | go c'=>
    obtain⟨⟨sg2,e2,f2⟩,_⟩:=h
    have ih:=yQ ht hb l c' sg2 f2
    dsimp only
    rcases e2 with e2 | e2
    ·rw[e2,BF];exact ih
    ·rw[e2,zJ];exact ih
   | brk c'=>
    obtain⟨⟨sg2,e2,f2⟩,_⟩:=h
    exact⟨sg2,by rw[e2];rfl,f2⟩
   | ret q=>
    obtain⟨⟨r0,sg2,e2,f2⟩,_⟩:=h
    exact⟨r0,sg2,by rw[e2];rfl,f2⟩
  | exc z=>
   rw[hm]at h
   obtain⟨s',e,r⟩:=h
   exact⟨s',by rw[e];rfl,r⟩
  | bad=>trivial
theorem zR{t:Tg}{src:State→Res (List Val)}{b:State→Res Fl}{rest:List (State→Res Fl)}{ml:M A}{lA:A→List T}{E:T→Val}{q:A→Pt}{S0:A→List Ob}{c0:A→C}{P:C→Pt}{S:C→List Ob}{p2:C→T→Pt}{mb:C→T→M (Lp C Q)}{rv:Q→RV}{Sr:Q→List Ob}{k:C→M U}{ι:Q→U}{post:U→OutS}(hs:Ev R p σ src ml (fun a=>((lA a).map E,q a,S0 a)))(hw:∀ a,cV (P (c0 a)) (q a))(hS:∀ a,S0 a=S (c0 a))(ht:∀ c x,j0 (P c) t (E x) (p2 c x))(hb:∀ c x,Sg false R (p2 c x) (S c) b (mb c x) (fun o=>match o with | .go c=>.go (P c) (S c) | .brk c=>.brk (P c) (S c) | .ret q=>.ret (rv q) (Sr q)))(hι:∀ q,post (ι q)=.ret (rv q) (Sr q))(hr:∀ c,Sg w R (P c) (S c) (ak rest) (k c) post):Sg w R p σ (ak (dc t src b::rest)) (ml.bind fun a=>(gY mb (c0 a) (lA a)).bind (qP k ι)) post:=fun sg hf=>by
 have:=hs sg hf
 cases ml with
 | ok a=>
  obtain⟨sg',e,f⟩:=this
  have h:=yQ ht hb (lA a) (c0 a) sg' (f.weak (hw a))
  dsimp only at e
  rw[hS a]at e
  rw[M.ae,kA,GP,e,Res.ae]
  cases hl:gY mb (c0 a) (lA a)with
  | ok o=>
   rw[hl]at h
   rw[M.ae]
   cases o with
   | inl c=>
    obtain⟨sg2,e2,f2⟩:=h
    rw[e2,rS,K3]
    exact hr c sg2 f2
   | inr z=>
    obtain⟨r0,sg2,e2,f2⟩:=h
    rw[e2,EU,JI]
    exact⟨by rw[hι];exact⟨r0,sg2,rfl,f2⟩,fun _ s h=>by cases h⟩
  | exc x=>
   rw[hl]at h
   obtain⟨s',e2,r⟩:=h
   exact⟨s',by rw[e2];rfl,r⟩
  | bad=>trivial
 | exc x=>
  obtain⟨s',e,r⟩:=this
  exact⟨s',by rw[kA,GP,e];rfl,r⟩
 | bad=>trivial
theorem fH{N:Nat}{b:State→Res Fl}{args:List Val}{m:M T}{post:T→RV×List Ob}(h:Sg true R (args.map (fun x=>some (.v x))++List.replicate (N-args.length) none) σ b m (fun v=>.ret (post v).1 (post v).2)):dW R (dS N b) args σ m post:=by
 have h:=h _ ⟨rfl,fun _ _ h=>h⟩
 cases m with
 | ok v=>
  obtain⟨⟨r0,sg,e,f⟩,_⟩:=h
  show dS N b args σ=_
  rw[uP,e,Jn,f]
 | exc x=>
  obtain⟨s,e,r⟩:=h
  exact⟨⟨[],s.st⟩,by rw[uP,e,Bo],r⟩
 | bad=>trivial
theorem p7{N:Nat}{b:State→Res Fl}{args:List Val}{m:M T}{P:T→Pt}{post:T→RV×List Ob}(h:Sg w R (args.map (fun x=>some (.v x))++List.replicate (N-args.length) none) σ b m (fun v=>.nx (P v) (post v).2))(hp:∀ v,(post v).1=.val (.d .non)):dW R (dS N b) args σ m post:=by
 have h:=h _ ⟨rfl,fun _ _ h=>h⟩
 cases m with
 | ok v=>
  obtain⟨⟨sg,e,f⟩,_⟩:=h
  show dS N b args σ=_
  rw[uP,e,KO,hp]
 | exc x=>
  obtain⟨s,e,r⟩:=h
  exact⟨⟨[],s.st⟩,by rw[uP,e,Bo],r⟩
 | bad=>trivial
end
end Vw
namespace Vw
open PySem L2
section
variable{R R':List Ob→Prop}{p p':Pt}{σ σ':List Ob}{α β γ T U W A B C:Type}{i j n:Nat}{w:Bool}
theorem bg{fa fb:State→Res RV}{k:RV→RV→State→Res RV}{a:T}{b:U}{m:M W}{ra:T→RV}{Pa:T→Pt}{Sa:T→List Ob}{rb:U→RV}{Pb:U→Pt}{Sb:U→List Ob}{post:W→RV×Pt×List Ob}(ha:Ev R p σ (ev fa) (.ok a) (fun v=>(ra v,Pa v,Sa v)))(hb:Ev R (Pa a) (Sa a) (ev fb) (.ok b) (fun v=>(rb v,Pb v,Sb v)))(hk:Ev R (Pb b) (Sb b) (k (ra a) (rb b)) m post):Ev R p σ (aw fa fb k) m post:=Ev.aZ ha (Ev.aZ hb hk)
theorem jl{fa fb:State→Res RV}{k:RV→RV→State→Res RV}{a:T}{mb:M U}{mk:U→M W}{ra:T→RV}{Pa:T→Pt}{Sa:T→List Ob}{rb:U→RV}{Pb:U→Pt}{Sb:U→List Ob}{post:W→RV×Pt×List Ob}(ha:Ev R p σ (ev fa) (.ok a) (fun v=>(ra v,Pa v,Sa v)))(hb:Ev R (Pa a) (Sa a) (ev fb) mb (fun v=>(rb v,Pb v,Sb v)))(hk:∀ b,Ev R (Pb b) (Sb b) (k (ra a) (rb b)) (mk b) post):Ev R p σ (aw fa fb k) (mb.bind fun b=>mk b) post:=Ev.aZ ha (Ev.bind hb hk)
theorem mq{fa fb:State→Res RV}{k:RV→RV→State→Res RV}{ma:M T}{b:T→U}{mk:T→M W}{ra:T→RV}{Pa:T→Pt}{Sa:T→List Ob}{rb:T→U→RV}{Pb:T→U→Pt}{Sb:T→U→List Ob}{post:W→RV×Pt×List Ob}(ha:Ev R p σ (ev fa) ma (fun v=>(ra v,Pa v,Sa v)))(hb:∀ a,Ev R (Pa a) (Sa a) (ev fb) (.ok (b a)) (fun v=>(rb a v,Pb a v,Sb a v)))(hk:∀ a,Ev R (Pb a (b a)) (Sb a (b a)) (k (ra a) (rb a (b a))) (mk a) post):Ev R p σ (aw fa fb k) (ma.bind fun a=>mk a) post:=Ev.bind ha fun a=>Ev.aZ (hb a) (hk a)
theorem CK{fa fb:State→Res RV}{k:RV→RV→State→Res RV}{ma:M T}{mb:T→M U}{mk:T→U→M W}{ra:T→RV}{Pa:T→Pt}{Sa:T→List Ob}{rb:T→U→RV}{Pb:T→U→Pt}{Sb:T→U→List Ob}{post:W→RV×Pt×List Ob}(ha:Ev R p σ (ev fa) ma (fun v=>(ra v,Pa v,Sa v)))(hb:∀ a,Ev R (Pa a) (Sa a) (ev fb) (mb a) (fun v=>(rb a v,Pb a v,Sb a v)))(hk:∀ a b,Ev R (Pb a b) (Sb a b) (k (ra a) (rb a b)) (mk a b) post):Ev R p σ (aw fa fb k) (ma.bind fun a=>(mb a).bind fun b=>mk a b) post:=Ev.bind ha fun a=>Ev.bind (hb a) fun b=>hk a b
theorem B5{f:State→Res RV}{a:Int}(h:Ev R p σ (ev f) (.ok a) (pD .int p σ)):Ev R p σ (tj f) (.ok (-a)) (pD .int p σ):=JQ h
theorem ah{f:State→Res RV}{fs:List (State→Res RV)}{a:A}{m2:M B}{r1:A→RV}{P1:A→Pt}{S1:A→List Ob}{rs:B→List RV}{P:B→Pt}{S:B→List Ob}(h1:Ev R p σ (ev f) (.ok a) (fun v=>(r1 v,P1 v,S1 v)))(h2:Ev R (P1 a) (S1 a) (aq fs) m2 (fun w=>(rs w,P w,S w))):Ev R p σ (aq (f::fs)) m2 (fun z=>(r1 a::rs z,P z,S z)):=
 Ev.aZ h1 (by
  intro sg hf
  have:=h2 sg hf
  cases m2 with
  | ok v=>
   obtain⟨sg',e,f⟩:=this
   exact⟨sg',by dsimp only;rw[e];rfl,f⟩
  | exc x=>
   obtain⟨s,e,r⟩:=this
   exact⟨s,by dsimp only;rw[e];rfl,r⟩
  | bad=>trivial)
theorem er{fs:List (State→Res RV)}{b:List RV→State→Res RV}{a:A}{rs:A→List RV}{P:A→Pt}{S:A→List Ob}{m:M T}{post:T→RV×Pt×List Ob}(h:Ev R p σ (aq fs) (.ok a) (fun v=>(rs v,P v,S v)))(hb:Ev R (P a) (S a) (b (rs a)) m post):Ev R p σ (di (aq fs) b) m post:=Ev.aZ h hb
theorem Kb{fs:List (State→Res RV)}{b:List RV→State→Res (List Val)}{a:A}{rs:A→List RV}{P:A→Pt}{S:A→List Ob}{m:M T}{post:T→List Val×Pt×List Ob}(h:Ev R p σ (aq fs) (.ok a) (fun v=>(rs v,P v,S v)))(hb:Ev R (P a) (S a) (b (rs a)) m post):Ev R p σ (lY (aq fs) b) m post:=Ev.aZ h hb
theorem eW{k:Nat}{fs:List (State→Res RV)}{g:Fn}{a:A}{rs:A→List RV}{P:A→Pt}{S:A→List Ob}{vs:List Val}{Q:Pt}{mg:M T}{pg:T→RV×List Ob}{post:T→RV×Pt×List Ob}(h:Ev R p σ (aq fs) (.ok a) (fun v=>(rs v,P v,S v)))(hc:Cap (S a) (P a) (rs a) vs Q)(hl:vs.length=k)(hg:dW R' g vs (S a) mg pg)(hp:∀ w,post w=((pg w).1,Q,(pg w).2)):Ev R p σ (cw k (aq fs) g) (nox mg) post:=
 rP (R':=R') (mA:=M.ok a) (vs:=fun _=>vs) (Q:=fun _=>Q) (mg:=fun _=>mg) (pg:=fun _=>pg) (rs:=fun _=>rs a) (P:=fun _=>P a) (S:=fun _=>S a) (Ev.cI h rfl) (fun _=>hc) (fun _=>hl) (fun _=>hg) (fun _=>hp)
theorem nH{k:Nat}{fs:List (State→Res RV)}{g:Fn}{a:A}{rs:A→List RV}{P:A→Pt}{S:A→List Ob}{vs:List Val}{Q:Pt}{mg:M T}{pg:T→RV×List Ob}{post:T→RV×Pt×List Ob}(h:Ev R p σ (aq fs) (.ok a) (fun v=>(rs v,P v,S v)))(hc:Cap (S a) (P a) (rs a) vs Q)(hl:vs.length=k)(hg:dW R g vs (S a) mg pg)(hp:∀ w,post w=((pg w).1,Q,(pg w).2)):Ev R p σ (jL k (aq fs) g) mg post:=
 FC (mA:=M.ok a) (vs:=fun _=>vs) (Q:=fun _=>Q) (mg:=fun _=>mg) (pg:=fun _=>pg) (rs:=fun _=>rs a) (P:=fun _=>P a) (S:=fun _=>S a) (Ev.cI h rfl) (fun _=>hc) (fun _=>hl) (fun _=>hg) (fun _=>hp)
theorem fL{c m:String}{k:Nat}{fo:State→Res RV}{fs:List (State→Res RV)}{g:Fn}{b:B}{xo:B→Val}{Po:B→Pt}{So:B→List Ob}{a:A}{rs:A→List RV}{P:A→Pt}{S:A→List Ob}{vs:List Val}{Q:Pt}{mg:M T}{pg:T→RV×List Ob}{post:T→RV×Pt×List Ob}(ho:Ev R p σ (ev fo) (.ok b) (fun b=>(.val (xo b),Po b,So b)))(hi:yC (Po b) (So b) (xo b) c m)(h:Ev R (Po b) (So b) (aq fs) (.ok a) (fun v=>(rs v,P v,S v)))(hc:Cap (S a) (P a) (rs a) vs Q)(hl:vs.length+1=k)(hg:dW R' g (xo b::vs) (S a) mg pg)(hp:∀ w,post w=((pg w).1,Q,(pg w).2)):Ev R p σ (cc bF c m k fo (aq fs) g) (nox mg) post:=
 JN (R':=R') (mo:=M.ok b) (xo:=fun _=>xo b) (Po:=fun _=>Po b) (So:=fun _=>So b) (mA:=fun _=>M.ok a) (vs:=fun _ _=>vs) (Q:=fun _ _=>Q) (mg:=fun _ _=>mg) (pg:=fun _ _=>pg) (rs:=fun _ _=>rs a) (P:=fun _ _=>P a) (S:=fun _ _=>S a) (Ev.cI ho rfl) (fun _=>hi) (fun _=>Ev.cI h rfl) (fun _ _=>hc) (fun _ _=>hl) (fun _ _=>hg) (fun _ _=>hp)
theorem qu{Tf:List (String×String)}{f c:String}{fo:State→Res RV}{b:B}{fs:B→List (String×D)}{P:Pt}{S:List Ob}{a:T}{e:T→D}(ho:Ev R p σ (ev fo) (.ok b) (fun b=>(.val (.d (.ins c (fs b))),P,S)))(hT:Tf.contains (c,f)=true)(hk:qF (fs b) f=some (e a)):Ev R p σ (eB Tf f fo) (.ok a) (pD e P S):=Ev.aZ ho (Ev.at (r:=fun v=>RV.val (Val.d (e v))) fun sg hf=>by
 show(if Tf.contains (c,f)=true then(match qF (fs b) f with | some d=>aF d ⟨sg,S⟩ | none=>Res.stuck)else Res.stuck)=_
 rw[if_pos hT,hk];rfl)
theorem D3{f g:State→Res Bool}{fs:List (State→Res Bool)}{a b:Bool}(h1:Ev R p σ f (.ok a) (pB p σ))(h2:Ev R p σ (jd (g::fs)) (.ok b) (pB p σ)):Ev R p σ (jd (f::g::fs)) (.ok (a&&b)) (pB p σ):=by
 have:=Dl h1 h2
 rw[rM]at this
 cases a with
 | true=>exact this
 | false=>exact this
theorem uv{f g:State→Res Bool}{fs:List (State→Res Bool)}{a b:Bool}(h1:Ev R p σ f (.ok a) (pB p σ))(h2:Ev R p σ (kT (g::fs)) (.ok b) (pB p σ)):Ev R p σ (kT (f::g::fs)) (.ok (a||b)) (pB p σ):=by
 have:=Lw h1 h2
 rw[Er]at this
 cases a with
 | true=>exact this
 | false=>exact this
theorem rQ{T':String}{fo:State→Res RV}{fs:List (State→Res RV)}{b:RV→List RV→State→Res RV}{ty:State→RV→Bool}{a:A}{ro:A→RV}{Po:A→Pt}{So:A→List Ob}{m:M B}{rs:B→List RV}{P:B→Pt}{S:B→List Ob}{mk:B→M T}{post:T→RV×Pt×List Ob}(ho:Ev R p σ (ev fo) (.ok a) (fun v=>(ro v,Po v,So v)))(ht:∀ sg,Fits (Po a) sg→ty ⟨sg,So a⟩ (ro a)=true)(h:Ev R (Po a) (So a) (aq fs) m (fun v=>(rs v,P v,S v)))(hb:∀ v,Ev R (P v) (S v) (b (ro a) (rs v)) (mk v) post):Ev R p σ (fX T' fo (aq fs) b ty) (m.bind fun v=>mk v) post:=fun sg hf=>by
 obtain⟨sg',e,hf'⟩:=ho sg hf
 have h2:=Ev.bind h hb sg' hf'
 rw[Dk,e,Res.ae,ht sg' hf',if_pos rfl]
 exact h2
theorem qY{T':String}{fo:State→Res RV}{fs:List (State→Res RV)}{b:RV→List RV→State→Res RV}{ty:State→RV→Bool}{a:A}{ro:A→RV}{Po:A→Pt}{So:A→List Ob}{v:B}{rs:B→List RV}{P:B→Pt}{S:B→List Ob}{m:M T}{post:T→RV×Pt×List Ob}(ho:Ev R p σ (ev fo) (.ok a) (fun v=>(ro v,Po v,So v)))(ht:∀ sg,Fits (Po a) sg→ty ⟨sg,So a⟩ (ro a)=true)(h:Ev R (Po a) (So a) (aq fs) (.ok v) (fun v=>(rs v,P v,S v)))(hb:Ev R (P v) (S v) (b (ro a) (rs v)) m post):Ev R p σ (fX T' fo (aq fs) b ty) m post:=fun sg hf=>by
 obtain⟨sg',e,hf'⟩:=ho sg hf
 have h2:=Ev.aZ h hb sg' hf'
 rw[Dk,e,Res.ae,ht sg' hf',if_pos rfl]
 exact h2
theorem Cc{f:State→Res RV}{lo hi:Par}{x:T}{rx:T→RV}{Px:T→Pt}{Sx:T→List Ob}{ml:M A}{mh:M B}{lo':A→Option Int}{hi':B→Option Int}{mk:Option Int→Option Int→M U}{post:U→RV×Pt×List Ob}(h:Ev R p σ (ev f) (.ok x) (fun v=>(rx v,Px v,Sx v)))(hl:Ev R (Px x) (Sx x) (mZ lo) ml (fun v=>(lo' v,(Px x),(Sx x))))(hh:Ev R (Px x) (Sx x) (mZ hi) mh (fun v=>(hi' v,(Px x),(Sx x))))(hk:∀ l h,Ev R (Px x) (Sx x) (Br (rx x) l h) (mk l h) post):Ev R p σ (yq f lo hi) (ml.bind fun l=>mh.bind fun h=>mk (lo' l) (hi' h)) post:=Ev.aZ h (Ev.bind hl fun l=>Ev.bind hh fun k=>hk (lo' l) (hi' k))
theorem pj{t:State→Res Bool}{As Bs rest:List (State→Res Fl)}{c:Bool}{mA mB:M T}{post:T→OutS}(ht:Ev R p σ t (.ok c) (pB p σ))(hA:Sg w R p σ (ak (As++rest)) mA post)(hB:Sg w R p σ (ak (Bs++rest)) mB post):Sg w R p σ (ak (gI t (ak As) (ak Bs)::rest)) (if c=true then mA else mB) post:=
 tP (b:=fun v:Bool=>v) (P:=fun _=>p) (S:=fun _=>σ) (mA:=fun _=>mA) (mB:=fun _=>mB) ht (fun _=>hA) (fun _=>hB)
theorem tS{t:State→Res Bool}{As Bs rest:List (State→Res Fl)}{b:Bool}{mA mB:M C}{Pc:C→Pt}{Sc:C→List Ob}{k:C→M T}{post:T→OutS}(ht:Ev R p σ t (.ok b) (pB p σ))(hA:Sg false R p σ (ak As) mA (fun c=>.nx (Pc c) (Sc c)))(hB:Sg false R p σ (ak Bs) mB (fun c=>.nx (Pc c) (Sc c)))(hr:∀ c,Sg w R (Pc c) (Sc c) (ak rest) (k c) post):Sg w R p σ (ak (gI t (ak As) (ak Bs)::rest)) ((if b=true then mA else mB).bind k) post:=
 Cv (b:=fun v:Bool=>v) (P:=fun _=>p) (S:=fun _=>σ) (mA:=fun _=>mA) (mB:=fun _=>mB) ht (fun _=>hA) (fun _=>hB) hr
theorem Hv{s:State→Res Fl}{rest:List (State→Res Fl)}{a:A}{P:A→Pt}{S:A→List Ob}{m:M T}{post:T→OutS}(hs:Ev R p σ s (.ok a) (fun v=>(.nx,P v,S v)))(hr:Sg w R (P a) (S a) (ak rest) m post):Sg w R p σ (ak (s::rest)) m post:=fun sg hf=>by
 obtain⟨sg',e,f⟩:=hs sg hf
 have h2:=hr sg' f
 rw[EH e]
 exact h2
theorem nT{f:State→Res RV}{a:A}{x:A→Val}{P:A→Pt}{S:A→List Ob}{v:T}{post:T→OutS}(h:Ev R p σ f (.ok a) (fun v=>(.val (x v),P v,S v)))(hp:post v=.ret (.val (x a)) (S a)):Sg true R p σ (bV f) (.ok v) post:=
 Bv (m:=M.ok a) (x:=fun _=>x a) (P:=fun _=>P a) (S:=fun _=>S a) (φ:=fun _=>v) (Ev.cI h rfl) (fun _=>hp)
theorem Oi{f:State→Res RV}{a:A}{x:A→Ob}{P:A→Pt}{S:A→List Ob}{v:T}{post:T→OutS}(h:Ev R p σ f (.ok a) (fun v=>(.new (x v),P v,S v)))(hp:post v=.ret (.new (x a)) (S a)):Sg true R p σ (bV f) (.ok v) post:=
 A8 (m:=M.ok a) (x:=fun _=>x a) (P:=fun _=>P a) (S:=fun _=>S a) (φ:=fun _=>v) (Ev.cI h rfl) (fun _=>hp)
theorem Lh{op:Bop}{g:Int→Int→Int}{f:State→Res RV}{a b:Int}(hg:AA op=some g)(hi:p[i]? =some (some (.v (.d (.int a)))))(h:Ev R p σ (ev f) (.ok b) (pD .int p σ)):Ev R p σ (pk i op f) (.ok (g a b)) (fun v=>(.nx,p.set i (some (.v (.d (.int v)))),σ)):=Nc hg hi h
theorem jQ{t:Tg}{src:State→Res (List Val)}{b:State→Res Fl}{l:List T}{E:T→Val}{q:Pt}{S0:List Ob}{c0:C}{P:C→Pt}{S:C→List Ob}{p2:C→T→Pt}{mb:C→T→M C}(hs:Ev R p σ src (.ok l) (fun l=>(l.map E,q,S0)))(hw:cV (P c0) q)(hS:S0=S c0)(ht:∀ c x,j0 (P c) t (E x) (p2 c x))(hb:∀ c x,Sg false R (p2 c x) (S c) b (mb c x) (fun c'=>.go (P c') (S c'))):Ev R p σ (dc t src b) (foldM mb c0 l) (fun c'=>(.nx,P c',S c')):=
 jE (ml:=M.ok l) (lA:=fun l=>l) (q:=fun _=>q) (S0:=fun _=>S0) (c0:=fun _=>c0) hs (fun _=>hw) (fun _=>hS) ht hb
theorem BA{t:Tg}{src:State→Res (List Val)}{b:State→Res Fl}{rest:List (State→Res Fl)}{l:List T}{E:T→Val}{q:Pt}{S0:List Ob}{c0:C}{P:C→Pt}{S:C→List Ob}{p2:C→T→Pt}{mb:C→T→M (Lp C Q)}{rv:Q→RV}{Sr:Q→List Ob}{k:C→M U}{ι:Q→U}{post:U→OutS}(hs:Ev R p σ src (.ok l) (fun l=>(l.map E,q,S0)))(hw:cV (P c0) q)(hS:S0=S c0)(ht:∀ c x,j0 (P c) t (E x) (p2 c x))(hb:∀ c x,Sg false R (p2 c x) (S c) b (mb c x) (fun o=>match o with | .go c=>.go (P c) (S c) | .brk c=>.brk (P c) (S c) | .ret q=>.ret (rv q) (Sr q)))(hι:∀ q,post (ι q)=.ret (rv q) (Sr q))(hr:∀ c,Sg w R (P c) (S c) (ak rest) (k c) post):Sg w R p σ (ak (dc t src b::rest)) ((gY mb c0 l).bind (qP k ι)) post:=
 zR (ml:=M.ok l) (lA:=fun l=>l) (q:=fun _=>q) (S0:=fun _=>S0) (c0:=fun _=>c0) hs (fun _=>hw) (fun _=>hS) ht hb hι hr
theorem Gv{vs:List Nat}{t:Tg}{src:State→Res (List Val)}{ft:State→Res Bool}{fe:State→Res RV}{l:List T}{E:T→Val}{q:Pt}{τ:List Ob}{e:U→D}{mt:T→M Bool}{me:T→M U}{p2 p3:T→Pt}(hs:Ev R p σ src (.ok l) (fun l=>(l.map E,q,τ)))(hv:(vs.all fun v=>(q.getD v none).isNone)=true)
  (hb:∀ x,j0 q t (E x) (p2 x)∧Ev R (p2 x) τ ft (mt x) (fun b=>(b,p2 x,τ))∧Ev R (p2 x) τ (fun s=>(fe s).bind bL) (me x) (fun y=>(.d (e y),p3 x,τ))) (hw2:∀ x,cV q (p2 x)) (hw3:∀ x,cV q (p3 x)):
  Ev R p σ (fq vs t src ft fe) (cX mt me l) (fun r=>(.new (oL e r),q,τ)):=o8 hs hv hb hw2 hw3
theorem i1{f:State→Res RV}{a:Bool}(h:Ev R p σ (ev f) (.ok a) (pD .bl p σ)):Ev R p σ (b9 f) (.ok a) (pB p σ):=tB (b:=fun v=>v) h
theorem L6{f:State→Res Bool}{a:Bool}(h:Ev R p σ f (.ok a) (pB p σ)):Ev R p σ (rg f) (.ok (!a)) (pB p σ):=(Ho (b:=fun v=>v) h).cI rfl
theorem Ki{f:State→Res Bool}{m:M Bool}(h:Ev R p σ f m (pB p σ)):Ev R p σ (rg f) (m.bind fun v=>.ok (!v)) (pB p σ):=Ev.map (fun v=> !v) (pB p σ) (Ho (b:=fun v=>v) h) (fun _=>rfl)
end
theorem EqE.mono{T:Type}[DecidableEq T]{e:T→D}{n m:Nat}(E:EqE e n)(h:n≤m):EqE e m:=by
 have up:∀ (n m:Nat),n≤m→(∀ d,gQ n d=true→gQ m d=true)∧(∀ l,gW n l=true→gW m l=true):=by
  intro n
  induction n with
  | zero=>
   intro m _
   have hd:∀ d,gQ 0 d=true→gQ m d=true:=fun d h=>by
    cases d<;> first | (simp[gQ]at h;done) | (cases m<;> simp[gQ])
   refine⟨hd,fun l=>?_⟩
   induction l with
   | nil=>intro _;simp[gW]
   | cons x l ih=>intro h;simp[gW]at h ⊢;exact⟨hd x h.1,ih h.2⟩
  | succ n ih=>
   intro m hm
   obtain⟨k,rfl⟩:∃ k,m=k+1:=⟨m- 1,by omega⟩
   have ihk:=ih k (by omega)
   have hd:∀ d,gQ (n+1) d=true→gQ (k+1) d=true:=fun d h=>by
    cases d<;> first | (simp[gQ]at h ⊢;exact ihk.2 _ h) | simp[gQ]
   refine⟨hd,fun l=>?_⟩
   induction l with
   | nil=>intro _;simp[gW]
   | cons x l ih=>intro h;simp[gW]at h ⊢;exact⟨hd x h.1,ih h.2⟩
 exact⟨E.pl,fun x=>(up n m h).1 _ (E.dp x),E.eq⟩
theorem qI:EqE D.int 0:=⟨fun _=>rfl,fun _=>rfl,AW⟩
theorem qS:EqE D.str 0:=⟨fun _=>rfl,fun _=>rfl,Bz⟩
theorem u1{T:Type}[DecidableEq T]{e:T→D}{n:Nat}(E:EqE e n):∀ a b:List T,PyData.eqvAll (dR (a.map e)) (dR (b.map e))=decide (a=b)
 | [],[]=>by simp[dR,PyData.eqvAll]
 | [],_::_=>by simp[dR,PyData.eqvAll]
 | _::_,[]=>by simp[dR,PyData.eqvAll]
 | x::a,y::b=>by
  have h:PyData.eqv (pd (e x)) (pd (e y))=decide (x=y):=E.eq x y
  simp[dR,PyData.eqvAll,u1 E a b,h]
theorem qL{T:Type}[DecidableEq T]{e:T→D}{n:Nat}(E:EqE e n):EqE (eL e) (n+1) where
 pl l:=by show hE (l.map e)=true;exact ji e l fun x _=>E.pl x
 dp l:=by show gW n (l.map e)=true;exact kq n e l fun x _=>E.dp x
 eq a b:=by
  show PyData.eqv (.list (dR (a.map e))) (.list (dR (b.map e)))=_
  rw[←u1 E]
  simp[PyData.eqv]
theorem Pq{A B:Type}[DecidableEq A][DecidableEq B]{a:A→D}{b:B→D}{n m:Nat}(EA:EqE a n)(EB:EqE b m):EqE (aj a b) (max n m+1) where
 pl x:=by simp[aj,eZ,hE,EA.pl,EB.pl]
 dp x:=by
  have h1:=(EA.mono (Nat.le_max_left n m)).dp x.1
  have h2:=(EB.mono (Nat.le_max_right n m)).dp x.2
  simp[aj,gQ,gW,h1,h2]
 eq x y:=by
  have h1:PyData.eqv (pd (a x.1)) (pd (a y.1))=decide (x.1=y.1):=EA.eq x.1 y.1
  have h2:PyData.eqv (pd (b x.2)) (pd (b y.2))=decide (x.2=y.2):=EB.eq x.2 y.2
  show PyData.eqv (.tuple (dR [a x.1,b x.2])) (.tuple (dR [a y.1,b y.2]))=_
  simp[PyData.eqv,dR,PyData.eqvAll,h1,h2]
  rw[Bool.eq_iff_iff]
  simp[Prod.ext_iff]
end Vw
namespace Vw
open PySem L2
abbrev pN{T:Type}(o:T→Ob)(p:Pt)(σ:List Ob):T→RV×Pt×List Ob:=fun v=>(.new (o v),p,σ)
section
variable{R R':List Ob→Prop}{p p':Pt}{σ σ':List Ob}{α β γ T U W A B C:Type}{i j n:Nat}{w:Bool}
abbrev eX{κ α:Type}[DecidableEq κ](l:List (κ×α))(k:κ):Option α:=aA l k
def zO(p:Pt)(σ:List Ob)(r:RV)(e:T→D)(l:List (Int×T)):Prop:=∀ sg,Fits p sg→gF ⟨sg,σ⟩ r=some (l.map fun p=>(K0.i p.1,Val.d (e p.2)))
def vd(p:Pt)(σ:List Ob)(r:RV)(e:T→D)(l:List (List Nat×T)):Prop:=∀ sg,Fits p sg→gF ⟨sg,σ⟩ r=some (l.map fun p=>(K0.s p.1,Val.d (e p.2)))
theorem Gr(l:List (K0×D))(s:State):gF s (.val (.d (.dic l)))=some (l.map fun p=>(p.1,Val.d p.2)):=rfl
theorem Gz{e:T→D}{l:List (Int×T)}:zO p σ (.val (.d (bx e l))) e l:=fun sg _=>by rw[Gr,List.map_map];rfl
theorem ij{e:T→D}{l:List (List Nat×T)}:vd p σ (.val (.d (az e l))) e l:=fun sg _=>by rw[Gr,List.map_map];rfl
theorem MG{s:State}{k:Bool}{l:List (K0×Val)}(h:s.sg[i]? =some (some (.own (.dic k l)))):gF s (.own i)=some l:=by
 obtain⟨sg,st⟩:=s
 unfold gF
 simp only[Cm,uY]
 rw[h]
theorem Ck{s:State}{k:Bool}{l:List (K0×Val)}(h:s.st[n]? =some (.dic k l)):gF s (.val (.r n))=some l:=by
 unfold gF
 simp only[Hy,yi]
 rw[h]
theorem Mu{e:T→D}{l:List (List Nat×T)}(h:p[i]? =some (some (.own (bG e l)))):vd p σ (.own i) e l:=fun sg hf=>MG (hf.2 _ _ h)
theorem NF{e:T→D}{l:List (Int×T)}(h:σ[n]? =some (iK e l)):zO p σ (.val (.r n)) e l:=fun sg hf=>Ck h
theorem GJ{e:T→D}{l:List (List Nat×T)}(h:σ[n]? =some (bG e l)):vd p σ (.val (.r n)) e l:=fun sg hf=>Ck h
theorem qN{κ κ' α β:Type}[DecidableEq κ][DecidableEq κ'](F:κ→κ')(hF:∀ a b,F a=F b→a=b)(G:α→β)(l:List (κ×α))(k:κ):aA (l.map fun p=>(F p.1,G p.2)) (F k)=(aA l k).map G:=by
 induction l with
 | nil=>rfl
 | cons p l ih=>
  unfold aA at ih ⊢
  rw[List.map_cons,List.find?_cons,List.find?_cons]
  by_cases h:p.1=k
  ·simp[h]
  ·have:¬ F p.1=F k:=fun z=>h (hF _ _ z)
   simp only[h,this,decide_false]
   exact ih
theorem iG{κ κ' α β:Type}[DecidableEq κ][DecidableEq κ'](F:κ→κ')(hF:∀ a b,F a=F b→a=b)(G:α→β)(l:List (κ×α))(k:κ)(x:α):aO (l.map fun p=>(F p.1,G p.2)) (F k) (G x)=(aO l k x).map fun p=>(F p.1,G p.2):=by
 have hF':∀ a,(F a=F k)=(a=k):=fun a=>propext ⟨hF a k,fun z=>by rw[z]⟩
 unfold aO
 rw[List.any_map]
 have:((fun p:κ'×β=>decide (p.1=F k))∘fun p:κ×α=>(F p.1,G p.2))=fun p=>decide (p.1=k):=funext fun p=>by simp[hF']
 rw[this]
 split
 ·rw[List.map_map,List.map_map]
  refine List.map_congr_left fun p _=>?_
  simp only[Function.comp,hF']
  split<;> rfl
 ·simp
theorem DE:∀ a b:Int,K0.i a=K0.i b→a=b:=fun _ _ h=>by cases h;rfl
theorem p6:∀ a b:List Nat,K0.s a=K0.s b→a=b:=fun _ _ h=>by cases h;rfl
theorem Ez{e:T→D}{l:List (Int×T)}{r:RV}{k:Int}(h:zO p σ r e l){sg:Slots}(hf:Fits p sg):d4 ⟨sg,σ⟩ r (.val (.d (.int k)))=some ((aA l k).map fun x=>.d (e x)):=by
 unfold d4
 rw[h sg hf]
 exact congrArg some (qN K0.i DE (fun x=>Val.d (e x)) l k)
theorem zF{e:T→D}{l:List (List Nat×T)}{r:RV}{k:List Nat}(h:vd p σ r e l){sg:Slots}(hf:Fits p sg):d4 ⟨sg,σ⟩ r (.val (.d (.str k)))=some ((aA l k).map fun x=>.d (e x)):=by
 unfold d4
 rw[h sg hf]
 exact congrArg some (qN K0.s p6 (fun x=>Val.d (e x)) l k)
def mm{κ:Type}[DecidableEq κ](l:List (κ×T))(k:κ):M T:=match aA l k with | some a=>.ok a | none=>.bad
theorem Mo{e:T→D}{l:List (Int×T)}{k:Int}{r:RV}(h:zO p σ r e l):Ev R p σ (eQ r (.val (.d (.int k)))) (mm l k) (pD e p σ):=Ev.op (r:=fun v=>RV.val (Val.d (e v))) fun a h' sg hf=>by
 unfold eQ
 rw[Ez h hf,h'];rfl
theorem HF{e:T→D}{l:List (List Nat×T)}{k:List Nat}{r:RV}(h:vd p σ r e l):Ev R p σ (eQ r (.val (.d (.str k)))) (mm l k) (pD e p σ):=Ev.op (r:=fun v=>RV.val (Val.d (e v))) fun a h' sg hf=>by
 unfold eQ
 rw[zF h hf,h'];rfl
def gB{κ:Type}[DecidableEq κ](l:List (κ×T))(k:κ)(x:T):M (List (κ×T)):=(gd (decide (l.length<sizeLine))).bind fun _=>.ok (aO l k x)
theorem Kj{e:T→D}{l:List (List Nat×T)}{fv fi:State→Res RV}{mv:M T}{mi:M (List Nat)}(h:p[i]? =some (some (.own (bG e l))))(hv:Ev R p σ (ev fv) mv (pD e p σ))(hi:∀ v:T,Ev R p σ (ev fi) mi (pD .str p σ)):Ev R p σ (fu (aa i) fi fv) (mv.bind fun a=>mi.bind fun k=>gB l k a) (fun v:List (List Nat×T)=>(Fl.nx,p.set i (some (.own (bG e v))),σ)):=Ev.bind hv fun a=>Ev.aZ (jW (j5 (a:=l) h)) (Ev.bind (hi a) fun k sg hf=>by
 unfold gB
 have h:=hf.2 _ _ h
 by_cases hl:l.length<sizeLine
 ·rw[decide_eq_true hl,i2,M.ae]
  refine⟨_,?_,hf.set i _⟩
  dsimp only[ic]
  rw[ic]
  dsimp only
  have e0:ff (.own i) (.val (.d (.str k))) (.d (e a)) ⟨sg,σ⟩=some ⟨sg.set i (some (.own (bG e (aO l k a)))),σ⟩:=by
   unfold ff
   rw[uY,h]
   simp only[qi,bG]
   show(if(l.map fun p=>(K0.s p.1,Val.d (e p.2))).length<sizeLine then _ else _)=_
   rw[if_pos (by simpa using hl),iG K0.s p6 (fun x=>Val.d (e x)) l k a,Hh,ue,h]
  rw[e0];rfl
 ·rw[decide_eq_false hl];trivial)
end
end Vw
namespace Vw
open PySem L2
section
variable{R R':List Ob→Prop}{p p':Pt}{σ σ':List Ob}{α β γ T U W A B C:Type}{i j n:Nat}{w:Bool}
theorem uG{Tf:List (String×String)}{f c:String}{fs:List (String×Val)}{a:T}{e:T→Val}(h:p[i]? =some (some (.v (.r n))))(hσ:σ[n]? =some (.ins c fs))(hT:Tf.contains (c,f)=true)(hk:qF fs f=some (e a)):Ev R p σ (eB Tf f (aa i)) (.ok a) (fun v=>(.val (e v),p,σ)):=Ev.at (r:=fun v=>RV.val (e v)) fun sg hf=>by
 have h:=hf.2 _ _ h
 show(ev (aa i) ⟨sg,σ⟩).bind _=_
 rw[nS,nh,h]
 dsimp only
 rw[Res.ae,Oq,Res.ae]
 simp only[Hy,yi,hσ]
 rw[if_pos hT,hk]
end
section
variable{R R':List Ob→Prop}{p p':Pt}{σ σ':List Ob}{α β γ T U W A B C Q:Type}{i j n:Nat}{w:Bool}
theorem Qk{fa fb fc:State→Res RV}{g g':RV→RV→State→Res RV}{ma mb mc:M Int}{k1 k2:Int→Int→Bool}(ha:Ev R p σ (ev fa) ma (pD .int p σ))(hb:∀ _:Int,Ev R p σ (ev fb) mb (pD .int p σ))(hc:∀ _ _:Int,Ev R p σ (ev fc) mc (pD .int p σ))(h1:∀ a b,Ev R p σ (g (.val (.d (.int a))) (.val (.d (.int b)))) (.ok (k1 a b)) (pD .bl p σ))(h2:∀ b c,Ev R p σ (g' (.val (.d (.int b))) (.val (.d (.int c)))) (.ok (k2 b c)) (pD .bl p σ)):Ev R p σ (Et fa fb fc g g') (ma.bind fun a=>mb.bind fun b=>if k1 a b=true then mc.bind fun c=>.ok (k2 b c)else .ok false) (pD .bl p σ):=Ev.bind ha fun a=>Ev.bind (hb a) fun b=>Ev.aZ (h1 a b) (by
 intro sg hf
 show Rn R ((xA (.val (.d (.bl (k1 a b)))) ⟨sg,σ⟩).bind fun k s=>if k=true then(ev fc s).bind fun w s=>g' (.val (.d (.int b))) w s else aF (.bl false) s) _ _
 rw[MM]
 simp only[qi,Res.ae]
 by_cases hk:k1 a b=true
 ·rw[if_pos hk,if_pos hk]
  exact Ev.bind (hc a b) (fun c=>h2 b c) sg hf
 ·rw[if_neg hk,if_neg hk]
  exact⟨sg,rfl,hf⟩)
end
end Vw
namespace Vw
open PySem L2
section
variable{R:List Ob→Prop}{p:Pt}{σ:List Ob}{T A:Type}{w:Bool}
theorem cn{s:State→Res Fl}{rest:List (State→Res Fl)}{m:M A}(Q:A→Pt){P:A→Pt}{S:A→List Ob}{k:A→M T}{post:T→OutS}(hs:Ev R p σ s m (fun v=>(.nx,P v,S v)))(he:∀ v,P v=Q v)(hr:∀ v,Sg w R (Q v) (S v) (ak rest) (k v) post):Sg w R p σ (ak (s::rest)) (m.bind k) post:=
 jm hs fun v=>by rw[he v];exact hr v
theorem dr{s:State→Res Fl}{rest:List (State→Res Fl)}{a:A}(Q:Pt){P:A→Pt}{S:A→List Ob}{m:M T}{post:T→OutS}(hs:Ev R p σ s (.ok a) (fun v=>(.nx,P v,S v)))(he:P a=Q)(hr:Sg w R Q (S a) (ak rest) m post):Sg w R p σ (ak (s::rest)) m post:=
 Hv hs (by rw[he];exact hr)
end
end Vw
namespace Vw
open PySem L2
def Qo(r:RV):Prop:=match r with
 | .val (.d _)=>True
 | .new o=>o.toD.isSome=true
 | _=>False
def Lc{T:Type}(g:Fn)(ds:List D)(m:M T)(rv:T→RV):Prop:=
 match m with
 | .ok v=>(∃ s,g (ds.map .d) []=.ok (rv v) s)∧Qo (rv v)
 | .exc x=>∃ s,g (ds.map .d) []=.exc x s
 | .bad=>True
section
variable{R R':List Ob→Prop}{p p':Pt}{σ σ':List Ob}{α β γ T U W A B C Q:Type}{i j n:Nat}{w:Bool}
theorem qc(ds:List D):o4 (ds.map .d)=some ds:=by
 induction ds with
 | nil=>rfl
 | cons d r ih=>rw[List.map_cons,o4,ih];rfl
theorem LN{k:Nat}{fs:List (State→Res RV)}{g:Fn}{mA:M A}{rs:A→List RV}{P:A→Pt}{S:A→List Ob}{ds:A→List D}{Q:A→Pt}{mg:A→M T}{rv:A→T→RV}{post:T→RV×Pt×List Ob}(h:Ev R p σ (aq fs) mA (fun v=>(rs v,P v,S v)))(hc:∀ v,Cap (S v) (P v) (rs v) ((ds v).map .d) (Q v))(hl:∀ v,(ds v).length=k)(hg:∀ v,Lc g (ds v) (mg v) (rv v))(hp:∀ v w,post w=(rv v w,Q v,S v)):Ev R p σ (Cr k (aq fs) g) (mA.bind fun v=>nox (mg v)) post:=by
 refine Ev.bind h fun v sg hf=>?_
 obtain⟨sg2,e2,hf2⟩:=(hc v).run sg hf
 have hg:=hg v
 show Rn R ((aI (rs v) ⟨sg,S v⟩).bind fun args s=>match o4 args with
  | some ds=>if ds.length=k then vN (g (ds.map .d) []) s else .stuck
  | none=>.stuck) (nox (mg v)) post
 rw[e2,Res.ae,qc]
 dsimp only
 rw[if_pos (hl v)]
 cases hm:mg v with
 | ok w=>
  rw[hm]at hg
  obtain⟨⟨s1,e1⟩,hr⟩:=hg
  refine⟨sg2,?_,by rw[hp v w];exact hf2⟩
  rw[hp v w,e1]
  show vN (.ok (rv v w) s1) _=_
  unfold vN
  revert hr
  cases rv v w with
  | val x=>cases x<;> intro hr<;> first | rfl | exact hr.elim
  | own i=>intro hr;exact hr.elim
  | new o=>
   intro hr
   have hr:o.toD.isSome=true:=hr
   dsimp only
   rw[if_pos hr]
 | exc x=>trivial
 | bad=>trivial
theorem Jd{k:Nat}{fs:List (State→Res RV)}{g:Fn}{a:A}{rs:A→List RV}{P:A→Pt}{S:A→List Ob}{ds:List D}{Q:Pt}{mg:M T}{rv:T→RV}{post:T→RV×Pt×List Ob}(h:Ev R p σ (aq fs) (.ok a) (fun v=>(rs v,P v,S v)))(hc:Cap (S a) (P a) (rs a) (ds.map .d) Q)(hl:ds.length=k)(hg:Lc g ds mg rv)(hp:∀ w,post w=(rv w,Q,S a)):Ev R p σ (Cr k (aq fs) g) (nox mg) post:=
 LN (mA:=M.ok a) (ds:=fun _=>ds) (Q:=fun _=>Q) (mg:=fun _=>mg) (rv:=fun _=>rv) (rs:=fun _=>rs a) (P:=fun _=>P a) (S:=fun _=>S a) (Ev.cI h rfl) (fun _=>hc) (fun _=>hl) (fun _=>hg) (fun _=>hp)
theorem Kd{f:State→Res RV}{m:M T}{o:T→Ob}{P:T→Pt}{S:T→List Ob}(h:Ev R p σ f m (fun v=>(.new (o v),P v,S v)))(hg:∀ v,o v≠ .gone):Ev R p σ (gS f) m (fun v=>(.val (.r (S v).length),P v,S v++[o v])):=fun sg hf=>by
 have:=h sg hf
 cases m with
 | ok v=>
  obtain⟨sg',e,hf'⟩:=this
  refine⟨sg',?_,hf'⟩
  rw[F3,e,Res.ae]
  unfold ym
  have:=hg v
  revert this
  dsimp only
  cases o v<;> intro h<;> first | rfl | exact absurd rfl h
 | exc x=>obtain⟨s,e,r⟩:=this;exact⟨s,by rw[F3,e];rfl,r⟩
 | bad=>trivial
theorem Ng{e:T→D}(l:List T):oL e l≠ .gone:=fun h=>by cases h
theorem bQ{s:State→Res Fl}{rest:List (State→Res Fl)}{m:M A}(Q:A→Pt)(S':A→List Ob){P:A→Pt}{S:A→List Ob}{k:A→M T}{post:T→OutS}(hs:Ev R p σ s m (fun v=>(.nx,P v,S v)))(he:∀ v,P v=Q v)(hS:∀ v,S v=S' v)(hr:∀ v,Sg w R (Q v) (S' v) (ak rest) (k v) post):Sg w R p σ (ak (s::rest)) (m.bind k) post:=
 jm hs fun v=>by rw[he v,hS v];exact hr v
theorem fB{s:State→Res Fl}{rest:List (State→Res Fl)}{a:A}(Q:Pt)(S':List Ob){P:A→Pt}{S:A→List Ob}{m:M T}{post:T→OutS}(hs:Ev R p σ s (.ok a) (fun v=>(.nx,P v,S v)))(he:P a=Q)(hS:S a=S')(hr:Sg w R Q S' (ak rest) m post):Sg w R p σ (ak (s::rest)) m post:=
 Hv hs (by rw[he,hS];exact hr)
theorem M8{f:State→Res RV}{a:A}{r:A→RV}{T' t:String}(h:Ev R p σ (ev f) (.ok a) (fun v=>(r v,p,σ)))(ht:∀ sg,Fits p sg→w5 ⟨sg,σ⟩ (r a)=some t):Ev R p σ (Cz T' f) (.ok (Cn t T')) (pD .bl p σ):=fun sg hf=>by
 obtain⟨sg',e,hf'⟩:=h sg hf
 refine⟨sg',?_,hf'⟩
 rw[Ma,e,Res.ae]
 dsimp only
 rw[ht sg' hf']
 rfl
end
end Vw
namespace Vw
open PySem L2
section
variable{R R':List Ob→Prop}{p p':Pt}{σ σ':List Ob}{α β γ T U W A B C Q:Type}{i j n:Nat}{w:Bool}
theorem qv{e:T→D}:Ev R p σ cN (.ok ([]:List (List Nat×T))) (fun v=>(.new (bG e v),p,σ)):=fun sg hf=>⟨sg,rfl,hf⟩
theorem LG{e:T→D}:Ev R p σ cN (.ok ([]:List (Int×T))) (fun v=>(.new (iK e v),p,σ)):=fun sg hf=>⟨sg,rfl,hf⟩
theorem Ek{e:T→D}{l:List (List Nat×T)}{r:RV}(h:vd p σ r e l){sg:Slots}(hf:Fits p sg):ib ⟨sg,σ⟩ r=true:=by
 unfold ib
 rw[h sg hf];rfl
theorem LL{e:T→D}{l:List (Int×T)}{r:RV}(h:zO p σ r e l){sg:Slots}(hf:Fits p sg):ib ⟨sg,σ⟩ r=true:=by
 unfold ib
 rw[h sg hf];rfl
theorem wb{fo fk fd:State→Res RV}{e:T→D}{l:List (List Nat×T)}{a:A}{ro:A→RV}{k:List Nat}{d:T}(ho:Ev R p σ (ev fo) (.ok a) (fun v=>(ro v,p,σ)))(hd:vd p σ (ro a) e l)(hk:Ev R p σ (ev fk) (.ok k) (pD .str p σ))(hx:Ev R p σ (ev fd) (.ok d) (pD e p σ)):Ev R p σ (ev (fY fo fk fd)) (.ok ((eX l k).getD d)) (pD e p σ):=by
 refine sv (x:=fun v=>.d (e v)) (P:=fun _=>p) (S:=fun _=>σ) (Ev.aZ ho fun sg hf=>?_)
 dsimp only
 rw[Ek hd hf,if_pos rfl]
 refine Ev.aZ hk (Ev.aZ hx fun sg hf=>?_) sg hf
 dsimp only
 rw[zF hd hf]
 cases h:eX l k with
 | none=>exact⟨sg,by rw[show aA l k=none from h];rfl,hf⟩
 | some x=>exact⟨sg,by rw[show aA l k=some x from h];rfl,hf⟩
theorem N6{fo fk fd:State→Res RV}{e:T→D}{l:List (Int×T)}{a:A}{ro:A→RV}{k:Int}{d:T}(ho:Ev R p σ (ev fo) (.ok a) (fun v=>(ro v,p,σ)))(hd:zO p σ (ro a) e l)(hk:Ev R p σ (ev fk) (.ok k) (pD .int p σ))(hx:Ev R p σ (ev fd) (.ok d) (pD e p σ)):Ev R p σ (ev (fY fo fk fd)) (.ok ((eX l k).getD d)) (pD e p σ):=by
 refine sv (x:=fun v=>.d (e v)) (P:=fun _=>p) (S:=fun _=>σ) (Ev.aZ ho fun sg hf=>?_)
 dsimp only
 rw[LL hd hf,if_pos rfl]
 refine Ev.aZ hk (Ev.aZ hx fun sg hf=>?_) sg hf
 dsimp only
 rw[Ez hd hf]
 cases h:eX l k with
 | none=>exact⟨sg,by rw[show aA l k=none from h];rfl,hf⟩
 | some x=>exact⟨sg,by rw[show aA l k=some x from h];rfl,hf⟩
def CF(l:List (List Nat)):M (List (List Nat)):=(gd (decide (l.length<64))).bind fun _=>.ok (bI l)
theorem Ku{l:List (List Nat)}{r:RV}(h:Lv p σ r .str l):Ev R p σ (tZ [r]) (CF l) (Bh .str p σ):=Ev.gd (r:=fun v=>RV.new (oL D.str v)) fun hl sg hf=>by
 show(match (lv _ r).bind strsOf with | some ts=>if ts.length<64 then Res.ok (RV.new (.lst ((bI ts).map fun t=>.d (.str t)))) _ else Res.stuck | none=>Res.stuck)=_
 rw[(h sg hf).1,Option.bind_some,oF]
 dsimp only
 rw[if_pos (of_decide_eq_true hl)]
def CU(l:List Int):M (List Int):=(gd (decide (l.length<64))).bind fun _=>.ok (sortI l)
theorem D0{e:T→D}:∀ l:List (Int×T),wi (l.map fun p=>(K0.i p.1,Val.d (e p.2)))=some (l.map (·.1))
 | []=>rfl
 | p::l=>by
  rw[List.map_cons,wi,D0 l];rfl
theorem Ds{e:T→D}:∀ l:List (List Nat×T),vy (l.map fun p=>(K0.s p.1,Val.d (e p.2)))=some (l.map (·.1))
 | []=>rfl
 | p::l=>by
  rw[List.map_cons,vy,Ds l];rfl
theorem HS{e:T→D}{l:List (Int×T)}{r:RV}(h:zO p σ r e l):Ev R p σ (lT [r]) (CU (l.map (·.1))) (Bh .int p σ):=Ev.gd (r:=fun v=>RV.new (oL D.int v)) fun hl sg hf=>by
 show(match (gF _ r).bind wi with | some ns=>if ns.length<64 then Res.ok (RV.new (.lst ((sortI ns).map fun n=>.d (.int n)))) _ else Res.stuck | none=>Res.stuck)=_
 rw[h sg hf,Option.bind_some,D0]
 dsimp only
 rw[if_pos (of_decide_eq_true hl)]
def qJ(l:List (List Nat))(t:List Nat):M Int:=match l.findIdx? (fun y=>decide (y=t))with
 | some j=>.ok (j:Nat)
 | none=>.bad
theorem Mf{l:List (List Nat)}{t:List Nat}{r:RV}(h:Lv p σ r .str l):Ev R p σ (x7 r [.val (.d (.str t))]) (qJ l t) (pD .int p σ):=fun sg hf=>by
 unfold qJ
 show Rn R (match (lv _ r).bind strsOf,some (D.str t)with | some ts,some (.str t)=>(match ts.findIdx? (fun y=>decide (y=t))with | some j=>aF (.int (j:Nat)) _ | none=>Res.stuck) | _,_=>Res.stuck) _ _
 rw[(h sg hf).1,Option.bind_some,oF]
 dsimp only
 cases l.findIdx? (fun y=>decide (y=t))with
 | some j=>exact⟨sg,rfl,hf⟩
 | none=>trivial
theorem IZ{e:T→D}{l:List (List Nat×T)}{fv fi:State→Res RV}{mv:M T}{mi:M (List Nat)}(P':T→Pt)(hv:Ev R p σ (ev fv) mv (fun v=>(.val (.d (e v)),P' v,σ)))(h:∀ v,(P' v)[i]? =some (some (.own (bG e l))))(hi:∀ v:T,Ev R (P' v) σ (ev fi) mi (pD .str (P' v) σ))(q:Pt)(hq:∀ v x,(P' v).set i (some (.own (bG e x)))=q.set i (some (.own (bG e x)))):Ev R p σ (fu (aa i) fi fv) (mv.bind fun a=>mi.bind fun k=>gB l k a) (fun v:List (List Nat×T)=>(Fl.nx,q.set i (some (.own (bG e v))),σ)):=Ev.bind hv fun a=>Ev.aZ (jW (j5 (a:=l) (h a))) (Ev.bind (hi a) fun k sg hf=>by
 unfold gB
 have h:=hf.2 _ _ (h a)
 by_cases hl:l.length<sizeLine
 ·rw[decide_eq_true hl,i2,M.ae]
  refine⟨_,?_,by dsimp only;rw[←hq a];exact hf.set i _⟩
  dsimp only[ic]
  rw[ic]
  dsimp only
  have e0:ff (.own i) (.val (.d (.str k))) (.d (e a)) ⟨sg,σ⟩=some ⟨sg.set i (some (.own (bG e (aO l k a)))),σ⟩:=by
   unfold ff
   rw[uY,h]
   simp only[qi,bG]
   show(if(l.map fun p=>(K0.s p.1,Val.d (e p.2))).length<sizeLine then _ else _)=_
   rw[if_pos (by simpa using hl),iG K0.s p6 (fun x=>Val.d (e x)) l k a,Hh,ue,h]
  rw[e0];rfl
 ·rw[decide_eq_false hl];trivial)
theorem BN{e:T→D}{l:List (List Nat×T)}{fo fv fi:State→Res RV}{mv:M T}{mi:M (List Nat)}(hv:Ev R p σ (ev fv) mv (pD e p σ))(ho:Ev R p σ (ev fo) (.ok ()) (fun _=>(.val (.r n),p,σ)))(h:σ[n]? =some (bG e l))(hi:Ev R p σ (ev fi) mi (pD .str p σ)):Ev R p σ (fu fo fi fv) (mv.bind fun a=>mi.bind fun k=>gB l k a) (fun v:List (List Nat×T)=>(Fl.nx,p,σ.set n (bG e v))):=Ev.bind hv fun a=>Ev.aZ ho (Ev.bind hi fun k sg hf=>by
 unfold gB
 by_cases hl:l.length<sizeLine
 ·rw[decide_eq_true hl,i2,M.ae]
  refine⟨_,?_,hf⟩
  dsimp only[ic]
  rw[ic]
  dsimp only
  have e0:ff (.val (.r n)) (.val (.d (.str k))) (.d (e a)) ⟨sg,σ⟩=some ⟨sg,σ.set n (bG e (aO l k a))⟩:=by
   unfold ff
   have:ob ⟨sg,σ⟩ (.val (.r n))=some (bG e l):=by
    show(match σ[n]? with | some .gone=>none | some o=>some o | none=>none)=_
    rw[h]
   rw[this]
   simp only[qi,bG]
   show(if(l.map fun p=>(K0.s p.1,Val.d (e p.2))).length<sizeLine then _ else _)=_
   rw[if_pos (by simpa using hl),iG K0.s p6 (fun x=>Val.d (e x)) l k a]
   rfl
  rw[e0];rfl
 ·rw[decide_eq_false hl];trivial)
theorem G4{f:State→Res RV}{m:M A}{e:A→D}{P:Pt}{S:List Ob}{k:D→State→Res (List Val)}{F:A→List T}{E:T→Val}(hk:∀ v s,k (e v) s=.ok ((F v).map E) s)(h:Ev R p σ (ev f) m (pD e P S)):Ev R p σ (sD f k) (m.bind fun l=>.ok (F l)) (pS E P S):=fun sg hf=>by
 have:=h sg hf
 cases m with
 | ok v=>obtain⟨sg',e1,hf'⟩:=this;exact⟨sg',by rw[mF,e1,Res.ae,uF,ic,Res.ae];exact hk v _,hf'⟩
 | exc x=>obtain⟨s,e,r⟩:=this;exact⟨s,by rw[mF,e];rfl,r⟩
 | bad=>trivial
theorem Gy{f:State→Res RV}{e:T→D}{m:M (List (List Nat×T))}{P:Pt}{S:List Ob}(h:Ev R p σ (ev f) m (pD (az e) P S)):Ev R p σ (sD f keysOf) (m.bind fun l=>.ok (l.map fun p=>p.1)) (pS (fun x=>.d (.str x)) P S):=G4 (e:=az e) (fun v s=>by simp[az,keysOf,Function.comp_def,uj,aj]) h
theorem Hf{f:State→Res RV}{e:T→D}{m:M (List (List Nat×T))}{P:Pt}{S:List Ob}(h:Ev R p σ (ev f) m (pD (az e) P S)):Ev R p σ (sD f pairsOf) (m.bind fun l=>.ok l) (pS (fun x=>.d (aj D.str e x)) P S):=G4 (e:=az e) (F:=fun l=>l) (fun v s=>by simp[az,pairsOf,Function.comp_def,uj,aj]) h
end
end Vw
namespace Vw
open PySem L2
end Vw
namespace Vw
open PySem L2
section
variable{R R':List Ob→Prop}{p p':Pt}{σ σ':List Ob}{α β γ T U W A B C Q:Type}{i j n:Nat}{w:Bool}
theorem HX{e:T→D}{l:List (Int×T)}{fo fv fi:State→Res RV}{mv:M T}{mi:M Int}(hv:Ev R p σ (ev fv) mv (pD e p σ))(ho:Ev R p σ (ev fo) (.ok ()) (fun _=>(.val (.r n),p,σ)))(h:σ[n]? =some (iK e l))(hi:Ev R p σ (ev fi) mi (pD .int p σ)):Ev R p σ (fu fo fi fv) (mv.bind fun a=>mi.bind fun k=>gB l k a) (fun v:List (Int×T)=>(Fl.nx,p,σ.set n (iK e v))):=Ev.bind hv fun a=>Ev.aZ ho (Ev.bind hi fun k sg hf=>by
 unfold gB
 by_cases hl:l.length<sizeLine
 ·rw[decide_eq_true hl,i2,M.ae]
  refine⟨_,?_,hf⟩
  dsimp only[ic]
  rw[ic]
  dsimp only
  have e0:ff (.val (.r n)) (.val (.d (.int k))) (.d (e a)) ⟨sg,σ⟩=some ⟨sg,σ.set n (iK e (aO l k a))⟩:=by
   unfold ff
   have:ob ⟨sg,σ⟩ (.val (.r n))=some (iK e l):=by
    show(match σ[n]? with | some .gone=>none | some o=>some o | none=>none)=_
    rw[h]
   rw[this]
   simp only[qi,iK]
   show(if(l.map fun p=>(K0.i p.1,Val.d (e p.2))).length<sizeLine then _ else _)=_
   rw[if_pos (by simpa using hl),iG K0.i DE (fun x=>Val.d (e x)) l k a]
   rfl
  rw[e0];rfl
 ·rw[decide_eq_false hl];trivial)
theorem sE{κ κ':Type}[DecidableEq κ][DecidableEq κ'](c:κ→κ')(hc:∀ a b,c a=c b→a=b)(F:T→Val):∀ (ps l:List (κ×T)),gE (l.map fun p=>(c p.1,F p.2)) (ps.map fun p=>(c p.1,F p.2))=(gE l ps).map fun p=>(c p.1,F p.2)
 | [],l=>rfl
 | p::ps,l=>by
  have ih:=sE c hc F ps (aO l p.1 p.2)
  show gE (aO (l.map fun p=>(c p.1,F p.2)) (c p.1) (F p.2)) (ps.map fun p=>(c p.1,F p.2))=_
  rw[iG c hc F l p.1 p.2,ih];rfl
end
end Vw
namespace Vw
open PySem L2
end Vw
namespace Vw
open PySem L2
end Vw
namespace Vw
open PySem L2
end Vw
namespace Vw
open PySem L2
end Vw
namespace Vw
open PySem L2
end Vw
namespace Vw
open PySem L2
theorem zL:sizeLine=16777216:=rfl
section
variable{T U C A B Q:Type}
theorem d7{b:Bool}(h:b=true):gd b=.ok ():=by rw[h];rfl
theorem kb{a b:List T}(h:a.length+b.length≤16777216):gp a b=.ok (a++b):=by
 unfold gp;rw[zL,d7 (decide_eq_true h)];rfl
theorem ki{a b:List Nat}(h:a.length+b.length≤16777216):jA a b=.ok (a++b):=by
 unfold jA;rw[zL,d7 (decide_eq_true h)];rfl
theorem kg{a:List T}{x:T}(h:a.length<16777216):gx a x=.ok (a++[x]):=by
 unfold gx;rw[zL,d7 (decide_eq_true h)];rfl
theorem wj{a:List Nat}(h:a.length≤16777216):qx a=.ok (a.length:Int):=by
 unfold qx;rw[zL,d7 (decide_eq_true h)];rfl
theorem vU{a b:Int}(h:0<b):pf a b=.ok (a%b):=by
 unfold pf;rw[d7 (decide_eq_true h)];rfl
theorem ID{a b:Int}(h:a.natAbs.log2+b.natAbs.log2<1000000):mulM a b=.ok (a*b):=by
 unfold mulM F5;rw[d7 (decide_eq_true h)];rfl
theorem Ig{n:Nat}(h:n≤1000000000):vG 0 (n:Int)=.ok ((List.range n).map fun(i:Nat)=>(i:Int)):=by
 unfold vG
 rw[d7 (decide_eq_true (by omega)),M.ae]
 congr 1
 rw[show((n:Int)- 0).toNat=n by omega]
 exact List.map_congr_left fun i _=>by omega
theorem HY{n:Nat}{i:Nat}(h:i<n):ixN n (i:Int)=some i:=by
 rw[Sh.Iu (by omega) (by omega)];simp
theorem atI_nat{l:List T}{i:Nat}(h:i<l.length):atI l (i:Int)=some l[i]:=by
 unfold atI
 rw[HY h]
 simp[h]
theorem I0{l:List T}{i:Nat}(h:i<l.length):i7 l (i:Int)=.ok l[i]:=by
 unfold i7;rw[atI_nat h]
theorem oa{l:List T}{i:Int}(h0:0≤i)(h:i<l.length):∃ a,a∈l∧i7 l i=.ok a:=by
 have:i=((i.toNat:Nat):Int):=by omega
 rw[this]
 have h':i.toNat<l.length:=by omega
 exact⟨_,List.getElem_mem h',I0 h'⟩
theorem Lk{l:List Nat}{i:Int}(h0:0≤i)(h:i<l.length)(hl:l.length≤16777216):∃ a,a∈l∧zB l i=.ok [a]:=by
 have:i=((i.toNat:Nat):Int):=by omega
 have h':i.toNat<l.length:=by omega
 refine⟨l[i.toNat],List.getElem_mem h',?_⟩
 unfold zB
 rw[zL,d7 (decide_eq_true hl),M.ae]
 have e:=atI_nat h'
 rw[show((i.toNat:Nat):Int)=i by omega]at e
 rw[e]
theorem foldM_eq{f:C→T→M C}{g:C→T→C}(P:C→List T→Prop):∀ (l:List T) (c:C),P c l→(∀ c x l,P c (x::l)→f c x=.ok (g c x)∧P (g c x) l)→foldM f c l=.ok (l.foldl g c)
 | [],c,h,hf=>rfl
 | x::l,c,h,hf=>by
  obtain⟨e,h'⟩:=hf c x l h
  rw[d6,e,M.ae,foldM_eq P l _ h' hf];rfl
theorem wY{mt:T→M Bool}{me:T→M U}{F:T→U}:∀ (l:List T) (acc:List U),(∀ x∈l,mt x=.ok true)→(∀ x∈l,me x=.ok (F x))→acc.length+l.length≤16777216→eJ mt me acc l=.ok (acc++l.map F)
 | [],acc,h1,h2,hl=>by simp[eJ]
 | x::l,acc,h1,h2,hl=>by
  simp only[List.length_cons]at hl
  unfold eJ
  rw[h1 x (by simp),M.ae,if_pos rfl,h2 x (by simp),M.ae,d7 (decide_eq_true (by rw[zL];omega)),M.ae,wY l _ (fun y hy=>h1 y (by simp[hy])) (fun y hy=>h2 y (by simp[hy])) (by simp;omega)]
  simp
theorem nO{mt:T→M Bool}{me:T→M U}{F:T→U}{l:List T}(h1:∀ x∈l,mt x=.ok true)(h2:∀ x∈l,me x=.ok (F x))(hl:l.length≤16777216):cX mt me l=.ok (l.map F):=by
 unfold cX
 rw[wY l [] h1 h2 (by simpa using hl)];simp
theorem BL{mt:T→M Bool}{me:T→M U}{P:U→Prop}:∀ (l:List T) (acc:List U),(∀ x∈l,mt x=.ok true)→(∀ x∈l,∃ y,me x=.ok y∧P y)→acc.length+l.length≤16777216→∃ r,eJ mt me acc l=.ok (acc++r)∧r.length=l.length∧∀ y∈r,P y
 | [],acc,h1,h2,hl=>⟨[],by simp[eJ],rfl,by simp⟩
 | x::l,acc,h1,h2,hl=>by
  simp only[List.length_cons]at hl
  obtain⟨y,e,hy⟩:=h2 x (by simp)
  obtain⟨r,e2,hr,hp⟩:=BL l (acc++[y]) (fun y hy=>h1 y (by simp[hy])) (fun y hy=>h2 y (by simp[hy])) (by simp;omega)
  refine⟨y::r,?_,by simp[hr],fun z hz=>?_⟩
  ·unfold eJ
   rw[h1 x (by simp),M.ae,if_pos rfl,e,M.ae,d7 (decide_eq_true (by rw[zL];omega)),M.ae,e2]
   simp
  ·rcases List.mem_cons.mp hz with rfl | hz
   ·exact hy
   ·exact hp z hz
theorem HH{mt:T→M Bool}{me:T→M U}(P:U→Prop){l:List T}(h1:∀ x∈l,mt x=.ok true)(h2:∀ x∈l,∃ y,me x=.ok y∧P y)(hl:l.length≤16777216):∃ r,cX mt me l=.ok r∧r.length=l.length∧∀ y∈r,P y:=by
 obtain⟨r,e,h3,h4⟩:=BL l [] h1 h2 (by simpa using hl)
 exact⟨r,by unfold cX;rw[e];simp,h3,h4⟩
def Sat(m:M T)(P:T→Prop):Prop:=∃ v,m=.ok v∧P v
theorem aX{v:T}{P:T→Prop}(h:P v):Sat (.ok v) P:=⟨v,rfl,h⟩
theorem aL{m:M T}{k:T→M U}{P:T→Prop}{Q:U→Prop}(h:Sat m P)(hk:∀ v,P v→Sat (k v) Q):Sat (m.bind k) Q:=by
 obtain⟨v,e,p⟩:=h
 rw[e,M.ae]
 exact hk v p
theorem lS{m:M T}{P:T→Prop}(h:Sat m P):Sat (nox m) P:=by
 obtain⟨v,e,p⟩:=h
 exact⟨v,by rw[e];rfl,p⟩
theorem nX{m:M T}{P Q:T→Prop}(h:Sat m P)(w:∀ v,P v→Q v):Sat m Q:=by
 obtain⟨v,e,p⟩:=h
 exact⟨v,e,w v p⟩
theorem rC{c:Prop}[Decidable c]{m1 m2:M T}{P:T→Prop}(h1:c→Sat m1 P)(h2:¬c→Sat m2 P):Sat (if c then m1 else m2) P:=by
 by_cases h:c
 ·rw[if_pos h];exact h1 h
 ·rw[if_neg h];exact h2 h
theorem yu{f:C→T→M C}(I:Nat→C→Prop){l:List T}{c:C}(h0:I 0 c)(h:∀ n c x,x∈l→n<l.length→I n c→Sat (f c x) (I (n+1))):Sat (foldM f c l) (I l.length):=by
 have key:∀ (m:List T) (n:Nat) (c:C),(∀ x∈m,x∈l)→n+m.length=l.length→I n c→Sat (foldM f c m) (I l.length):=by
  intro m
  induction m with
  | nil=>intro n c _ hn i;exact aX (by simpa [←hn]using i)
  | cons x m ih=>
   intro n c hx hn i
   rw[d6]
   simp only[List.length_cons]at hn
   exact aL (h n c x (hx x (by simp)) (by omega) i) fun c' i'=>ih (n+1) c' (fun y hy=>hx y (by simp[hy])) (by omega) i'
 exact key l 0 c (fun _ h=>h) (by simp) h0
theorem H9{l:List T}{i:Int}{P:T→Prop}(h0:0≤i)(h:i<l.length)(hp:∀ a∈l,P a):Sat (i7 l i) P:=by
 obtain⟨a,ha,e⟩:=oa h0 h
 exact⟨a,e,hp a ha⟩
theorem xK{mt:T→M Bool}{me:T→M U}(P:U→Prop){l:List T}(h1:∀ x∈l,mt x=.ok true)(h2:∀ x∈l,Sat (me x) P)(hl:l.length≤16777216):Sat (cX mt me l) fun r=>r.length=l.length∧∀ y∈r,P y:=by
 obtain⟨r,e,h⟩:=HH P h1 h2 hl
 exact⟨r,e,h⟩
theorem IA{n:Nat}{x:Int}(h:x∈(List.range n).map fun(i:Nat)=>(i:Int)):0≤x∧x<n:=by
 obtain⟨i,hi,rfl⟩:=List.mem_map.mp h
 have:=List.mem_range.mp hi
 omega
theorem wD{n k:Nat}(h:n<2^k)(hk:0<k):n.log2<k:=by
 by_cases h0:n=0
 ·subst h0;simpa using hk
 ·exact(Nat.log2_lt h0).mpr h
theorem rp{a b:Int}(k j:Nat)(ha:a.natAbs<2^k)(hb:b.natAbs<2^j)(h:k+j≤1000000)(hk:0<k)(hj:0<j):mulM a b=.ok (a*b):=by
 have:=wD ha hk
 have:=wD hb hj
 exact ID (by omega)
end
end Vw
namespace Vw
open PySem L2
end Vw
namespace Vw
open PySem L2
end Vw
namespace Vw
open PySem L2
section
variable{R:List Ob→Prop}{p:Pt}{σ:List Ob}{A B T U:Type}{i j n:Nat}
theorem pb{k:Nat}{s:State}(d:D):frz k s (.d d)=some d:=by cases k<;> rfl
end
end Vw
namespace Vw
open PySem L2
end Vw
namespace Vw
open PySem L2
end Vw
namespace Vw
open PySem L2 PyProof.Rows
end Vw
namespace Vw
open PySem L2 PyProof.Rows
end Vw
namespace Vw
open PySem L2 PyProof.Rows
end Vw
namespace Vw
open PySem L2 PyProof.Rows
end Vw
namespace Vw
open PySem L2 PyProof.Rows
end Vw
namespace Vw
open PySem L2 PyProof.Rows
theorem wk{p q:Pt}(h:cV p q:=by(repeat' (first | exact trivial | refine And.intro rfl ?_))):cV p q:=h
section
variable{R:List Ob→Prop}{p:Pt}{σ:List Ob}{A B T U C:Type}{i:Nat}
theorem rv(a:T)(e:T→D)(h:p[i]? =some (some (.v (.d (e a))))):Ev R p σ (ev (aa i)) (.ok a) (fun v=>(.val (.d (e v)),p,σ)):=sv (ao h)
theorem Qb{f:State→Res RV}{m:M (List T)}{e:T→D}{P:List T→Pt}{S:List T→List Ob}(h:Ev R p σ f m (fun v=>(.new (oL e v),P v,S v))):Ev R p σ (ev f) m (fun v=>(.val (.d (eL e v)),P v,S v)):=sn h (fun v=>bc _ v)
theorem nl(e:T→D):Ev R p σ (ev (cu [])) (.ok ([]:List T)) (fun v=>(.val (.d (eL e v)),p,σ)):=Qb (Ev.cI (post2:=(pN (oL e) _ _)) (cq (l:=fun _=>([]:List T)) (e:=e) au (fun _=>.nil) (fun _=>rfl) (fun _=>rfl)) rfl)
end
end Vw
namespace Vw
open PySem L2 PyProof.Rows
end Vw
namespace Vw
open PySem L2 PyProof.Rows
end Vw
namespace Vw
open PySem L2 PyProof.Rows
end Vw
namespace Vw
open PySem L2
end Vw
namespace Vw
open PySem L2
section
variable{R:List Ob→Prop}{p:Pt}{σ:List Ob}{T U A C:Type}{w:Bool}
theorem GR{i n:Nat}(h:p[i]? =some (some (.v (.r n)))){sg:Slots}(hf:Fits p sg):AY i ⟨sg,σ⟩=true:=by
 unfold AY
 dsimp only
 rw[hf.2 _ _ h]
theorem GY{i:Nat}{d:D}(h:p[i]? =some (some (.v (.d d)))){sg:Slots}(hf:Fits p sg):AY i ⟨sg,σ⟩=false:=by
 unfold AY
 dsimp only
 rw[hf.2 _ _ h]
theorem G2{i n:Nat}{a b:State→Res Fl}{m:M T}{post:T→Fl×Pt×List Ob}(h:p[i]? =some (some (.v (.r n))))(ha:Ev R p σ a m post):Ev R p σ (xb i a b) m post:=fun sg hf=>by
 have:=ha sg hf
 unfold xb
 rw[GR h hf,if_pos rfl]
 exact this
theorem Hn{i:Nat}{d:D}{a b:State→Res Fl}{m:M T}{post:T→Fl×Pt×List Ob}(h:p[i]? =some (some (.v (.d d))))(hb:Ev R p σ b m post):Ev R p σ (xb i a b) m post:=fun sg hf=>by
 have:=hb sg hf
 unfold xb
 rw[GY h hf,if_neg (by decide)]
 exact this
theorem M9{i n:Nat}{a b:State→Res RV}{m:M T}{post:T→RV×Pt×List Ob}(h:p[i]? =some (some (.v (.r n))))(ha:Ev R p σ a m post):Ev R p σ (oE i a b) m post:=fun sg hf=>by
 have:=ha sg hf
 unfold oE
 rw[GR h hf,if_pos rfl]
 exact this
theorem Mm{i:Nat}{d:D}{a b:State→Res RV}{m:M T}{post:T→RV×Pt×List Ob}(h:p[i]? =some (some (.v (.d d))))(hb:Ev R p σ b m post):Ev R p σ (oE i a b) m post:=fun sg hf=>by
 have:=hb sg hf
 unfold oE
 rw[GY h hf,if_neg (by decide)]
 exact this
theorem qT{t:Tg}{b:State→Res Fl}{E:T→Val}{P:C→Pt}{S:C→List Ob}{p2:C→T→Pt}{mb:C→T→M C}{n:Nat}{L:List Val}(hL:∀ c,(S c)[n]? =some (.lst L))(ht:∀ c x,j0 (P c) t (E x) (p2 c x))(hb:∀ c x,Sg false R (p2 c x) (S c) b (mb c x) (fun c'=>.go (P c') (S c'))):
  ∀ (l:List T) (c:C) (sg:Slots),Fits (P c) sg→Rn R (b7 n L t b (l.map E) ⟨sg,S c⟩) (foldM mb c l) (fun c'=>(.nx,P c',S c'))
 | [],c,sg,hf=>⟨sg,by rw[List.map_nil,b7,if_pos (hL c)],hf⟩
 | x::l,c,sg,hf=>by
  obtain⟨sg1,e1,f1⟩:=ht c x sg (S c) hf
  have h:=hb c x sg1 f1
  have e0:b7 n L t b ((x::l).map E) ⟨sg,S c⟩=(match b ⟨sg1,S c⟩with
   | .ok .nx s=>b7 n L t b (l.map E) s
   | .ok .cnt s=>b7 n L t b (l.map E) s
   | .ok .brk s=>.ok .nx s
   | r=>r):=by
   rw[List.map_cons,b7,if_pos (show(⟨sg,S c⟩:State).st[n]? =_ from hL c),e1]
   try rfl
  rw[e0,d6]
  cases hm:mb c x with
  | ok c'=>
   rw[hm]at h
   obtain⟨⟨sg2,e2,f2⟩,_⟩:=h
   have ih:=qT (L:=L) hL ht hb l c' sg2 f2
   rw[M.ae]
   rcases e2 with e2 | e2
   ·rw[e2];exact ih
   ·rw[e2];exact ih
  | exc z=>
   rw[hm]at h
   obtain⟨s',e,r⟩:=h
   exact⟨s',by rw[e],r⟩
  | bad=>trivial
theorem Kv{t:Tg}{f:State→Res RV}{b:State→Res Fl}{l:List T}{e:T→D}{n:Nat}{q:Pt}{c0:C}{P:C→Pt}{S:C→List Ob}{p2:C→T→Pt}{mb:C→T→M C}(hf:Ev R p σ (ev f) (.ok ()) (fun _=>(.val (.r n),q,S c0)))(hw:cV (P c0) q)(hL:∀ c,(S c)[n]? =some (oL e l))(ht:∀ c x,j0 (P c) t (.d (e x)) (p2 c x))(hb:∀ c x,Sg false R (p2 c x) (S c) b (mb c x) (fun c'=>.go (P c') (S c'))):Ev R p σ (jJ t f b) (foldM mb c0 l) (fun c'=>(.nx,P c',S c')):=fun sg hg=>by
 obtain⟨sg1,e1,f1⟩:=hf sg hg
 have h:=qT (L:=l.map fun x=>.d (e x)) hL ht hb l c0 sg1 (f1.weak hw)
 unfold jJ
 rw[e1,Res.ae]
 show Rn R (match fj ⟨sg1,S c0⟩ (.val (.r n))with | .val (.r n)=>(match (S c0)[n]? with | some (.lst l)=>b7 n l t b l ⟨sg1,S c0⟩ | _=>Res.stuck) | _=>Res.stuck) _ _
 rw[show fj ⟨sg1,S c0⟩ (.val (.r n))=.val (.r n)from rfl]
 dsimp only
 rw[hL c0]
 exact h
theorem AJ{e:T→D}(l:List T):((l.map e).mapIdx fun i x=>Val.d (.tup [.int i,x]))=(eI l).map fun y=>Val.d (aj D.int e y):=by
 apply List.ext_getElem?
 intro i
 rw[List.getElem?_mapIdx,List.getElem?_map,List.getElem?_map]
 unfold eI
 rw[List.getElem?_mapIdx]
 cases l[i]? <;> rfl
theorem Jt{t:Tg}{f:State→Res RV}{b:State→Res Fl}{l:List T}{e:T→D}{n:Nat}{q:Pt}{c0:C}{P:C→Pt}{S:C→List Ob}{p2:C→Int×T→Pt}{mb:C→Int×T→M C}(hf:Ev R p σ (ev f) (.ok ()) (fun _=>(.val (.r n),q,S c0)))(hw:cV (P c0) q)(hL:∀ c,(S c)[n]? =some (oL e l))(ht:∀ c x,j0 (P c) t (.d (aj D.int e x)) (p2 c x))(hb:∀ c x,Sg false R (p2 c x) (S c) b (mb c x) (fun c'=>.go (P c') (S c'))):Ev R p σ (uV t f b) (foldM mb c0 (eI l)) (fun c'=>(.nx,P c',S c')):=fun sg hg=>by
 obtain⟨sg1,e1,f1⟩:=hf sg hg
 have h:=qT (E:=fun y:Int×T=>.d (aj D.int e y)) (L:=l.map fun x=>.d (e x)) hL ht hb (eI l) c0 sg1 (f1.weak hw)
 unfold uV
 rw[e1,Res.ae]
 have hd:toDs (l.map fun x=>Val.d (e x))=some (l.map e):=by
  have:=toDs_map (l.map e)
  rw[List.map_map]at this
  exact this
 show Rn R (match fj ⟨sg1,S c0⟩ (.val (.r n))with | .val (.r n)=>(match (S c0)[n]? with | some (.lst l)=>(match toDs l with | some ds=>b7 n l t b (ds.mapIdx fun i x=>.d (.tup [.int i,x])) ⟨sg1,S c0⟩ | none=>Res.stuck) | _=>Res.stuck) | _=>Res.stuck) _ _
 rw[show fj ⟨sg1,S c0⟩ (.val (.r n))=.val (.r n)from rfl]
 dsimp only
 rw[hL c0]
 show Rn R (match toDs (l.map fun x=>Val.d (e x))with | some ds=>b7 n (l.map fun x=>Val.d (e x)) t b (ds.mapIdx fun i x=>.d (.tup [.int i,x])) ⟨sg1,S c0⟩ | none=>Res.stuck) _ _
 rw[hd]
 dsimp only
 rw[AJ]
 exact h
theorem tA{τ:List Ob}{n:Nat}{L:List Val}{vs:List Nat}{t:Tg}{ft:State→Res Bool}{fe:State→Res RV}{E:T→Val}{q:Pt}{e:U→D}{mt:T→M Bool}{me:T→M U}{p2 p3:T→Pt}(hs:τ[n]? =some (.lst L))(hv:(vs.all fun v=>(q.getD v none).isNone)=true)
  (hb:∀ x,j0 q t (E x) (p2 x)∧Ev R (p2 x) τ ft (mt x) (fun b=>(b,p2 x,τ))∧Ev R (p2 x) τ (fun s=>(fe s).bind bL) (me x) (fun y=>(.d (e y),p3 x,τ))) (hw2:∀ x,cV q (p2 x)) (hw3:∀ x,cV q (p3 x)):
  ∀ (l:List T) (acc:List U) (sg:Slots),Fits q sg→match eJ mt me acc l with
   | .ok r=>∃ sg',ia n L vs t ft fe (l.map E) (acc.map fun x=>.d (e x)) ⟨sg,τ⟩=.ok (r.map fun x=>.d (e x)) ⟨sg',τ⟩∧Fits q sg'
   | _=>True
 | [],acc,sg,hf=>⟨sg,by rw[List.map_nil,ia,if_pos hs],hf⟩
 | x::l,acc,sg,hf=>by
  obtain⟨h1,h2,h3⟩:=hb x
  have ew:bh vs ⟨sg,τ⟩=⟨cY sg vs,τ⟩:=rfl
  obtain⟨sg1,e1,f1⟩:=h1 _ τ (hf.wipe vs hv)
  have h2:=h2 sg1 f1
  unfold eJ
  have step:ia n L vs t ft fe ((x::l).map E) (acc.map fun x=>.d (e x)) ⟨sg,τ⟩=(match ft ⟨sg1,τ⟩with
   | .ok true s=>match fe s with
    | .ok rv s=>match bL rv s with
     | .ok y s=>if(acc.map fun x=>Val.d (e x)).length<sizeLine then ia n L vs t ft fe (l.map E) ((acc.map fun x=>Val.d (e x))++[y]) (bh vs s)else .stuck
     | _=>.stuck
    | _=>.stuck
   | .ok false s=>ia n L vs t ft fe (l.map E) (acc.map fun x=>.d (e x)) (bh vs s)
   | _=>.stuck):=by
   rw[List.map_cons,ia,if_pos hs]
   show(match dA t (E x) (bh vs ⟨sg,τ⟩)with | none=>Res.stuck | some s=>_)=_
   rw[ew,e1]
   try rfl
  rw[step]
  cases hm:mt x with
  | ok b=>
   rw[hm]at h2
   obtain⟨sg2,e2,f2⟩:=h2
   rw[M.ae,e2]
   cases b with
   | true=>
    have h3:=h3 sg2 f2
    rw[if_pos rfl]
    cases hy:me x with
    | ok y=>
     rw[hy]at h3
     obtain⟨sg3,e3,f3⟩:=h3
     rw[M.ae]
     by_cases ha:acc.length<sizeLine
     ·rw[decide_eq_true ha,i2,M.ae]
      have e3:(fe ⟨sg2,τ⟩).bind bL=.ok (.d (e y)) ⟨sg3,τ⟩:=e3
      cases hfe:fe ⟨sg2,τ⟩with
      | ok rv s=>
       rw[hfe,Res.ae]at e3
       dsimp only
       rw[hfe]
       dsimp only
       rw[e3]
       dsimp only
       rw[if_pos (by simpa using ha)]
       have ih:=tA (L:=L) hs hv hb hw2 hw3 l (acc++[y]) (cY sg3 vs) ((f3.weak (hw3 x)).wipe vs hv)
       rw[List.map_append]at ih
       exact ih
      | exc z s=>rw[hfe]at e3;cases e3
      | stuck=>rw[hfe]at e3;cases e3
     ·rw[decide_eq_false ha];trivial
    | exc z=>trivial
    | bad=>trivial
   | false=>
    rw[if_neg (by simp)]
    dsimp only
    exact tA (L:=L) hs hv hb hw2 hw3 l acc (cY sg2 vs) ((f2.weak (hw2 x)).wipe vs hv)
  | exc z=>trivial
  | bad=>trivial
theorem KN{vs:List Nat}{t:Tg}{f:State→Res RV}{ft:State→Res Bool}{fe:State→Res RV}{l:List T}{e0:T→D}{n:Nat}{q:Pt}{τ:List Ob}{e:U→D}{mt:T→M Bool}{me:T→M U}{p2 p3:T→Pt}(hf:Ev R p σ (ev f) (.ok ()) (fun _=>(.val (.r n),q,τ)))(hs:τ[n]? =some (oL e0 l))(hv:(vs.all fun v=>(q.getD v none).isNone)=true)
  (hb:∀ x,j0 q t (.d (e0 x)) (p2 x)∧Ev R (p2 x) τ ft (mt x) (fun b=>(b,p2 x,τ))∧Ev R (p2 x) τ (fun s=>(fe s).bind bL) (me x) (fun y=>(.d (e y),p3 x,τ))) (hw2:∀ x,cV q (p2 x)) (hw3:∀ x,cV q (p3 x)):
  Ev R p σ (qt vs t f ft fe) (cX mt me l) (fun r=>(.new (oL e r),q,τ)):=fun sg hg=>by
 obtain⟨sg1,e1,f1⟩:=hf sg hg
 have h:=tA (R:=R) (L:=l.map fun x=>.d (e0 x)) (fe:=fe) (ft:=ft) (me:=me) (mt:=mt) (e:=e) hs hv hb hw2 hw3 l [] (cY sg1 vs) (f1.wipe vs hv)
 unfold cX
 cases hc:eJ mt me [] l with
 | ok r=>
  rw[hc]at h
  obtain⟨sg2,e2,f2⟩:=h
  refine⟨sg2,?_,f2⟩
  unfold qt
  rw[e1,Res.ae]
  show(match fj ⟨sg1,τ⟩ (.val (.r n))with | .val (.r n)=>(match τ[n]? with | some (.lst l)=>(ia n l vs t ft fe l [] (bh vs ⟨sg1,τ⟩)).bind pF | _=>Res.stuck) | _=>Res.stuck)=_
  rw[show fj ⟨sg1,τ⟩ (.val (.r n))=.val (.r n)from rfl]
  dsimp only
  rw[hs]
  have e2:ia n (l.map fun x=>Val.d (e0 x)) vs t ft fe (l.map fun x=>Val.d (e0 x)) [] ⟨cY sg1 vs,τ⟩=_:=e2
  show(ia n (l.map fun x=>.d (e0 x)) vs t ft fe (l.map fun x=>.d (e0 x)) [] ⟨cY sg1 vs,τ⟩).bind pF=_
  rw[e2,Res.ae]
  rfl
 | exc x=>trivial
 | bad=>trivial
end
end Vw
namespace Vw
open PySem L2 PyProof.Rows
section
variable{C:Cst}{Z Z' Zc:Hp}{loc loc' l':List Addr}{s s':State}{sv sv':L2.St}{H H':Hp}
variable{X:Cx}{e a b c o:Expr}{es:List Expr}{p pos apos:Pos}{f fa fb fc fo fi fv:State→Res RV}
theorem SR.Hu(r:SR C Z loc s sv H){E:XK}{st:State}{x:Val}{v:V}{m:Nat}{d:D}(hg:st.sg=[])(g:Ext Z [] Z' l')(r':SR (cW C.cA (b8 H Z []) C.H0 E) Z' l' st [] H')(hx:bo C.cA Z' l' x v)(e:mP m st x=some d):∃ Zd,Ext Z loc Zd loc∧SR C Zd loc s sv H'∧aN C.cA Zd d v:=by
 obtain⟨sg,st⟩:=st
 have hg:sg=[]:=hg
 subst hg
 have r1:=r.n6 g r'
 obtain⟨k,_,_⟩:=g
 obtain⟨Zd,k2,gy,q⟩:=um r' bP m Z' x v d GoodY.refl hx e
 refine⟨Zd,⟨k.trans k2,[],by simp⟩,r1.CT k2 fun a u h=>?_,q⟩
 rcases gy.at_ a u h with h | ⟨z1,z2,⟨m0,_,z30⟩,_⟩
 ·exact .inl h
 ·have z3:=List.mem_of_getElem? z30
  have za:Z a=none:=by
   cases e:Z a with
   | none=>rfl
   | some w=>have:=k a w e;rw[z1]at this;cases this
  have ha:H a=none:=(gA (H:=H) (loc:=[]) za (by simp)).symm.trans (r'.lh a z3).2
  refine .inr ⟨z2,?_,fun z=>(r.lh a z).1 ha,fun i o h e=>?_⟩
  ·cases e:C.Fr a with
   | none=>rfl
   | some u=>have:=r.fr a u e;rw[ha]at this;cases this
  ·obtain⟨b,q1,q2,q3,q4,q5,q6⟩:=r.ow i o h
   rw[e]at q1
   cases q1
   exact dP q2 q3 ha
end
end Vw
namespace Vw
open PySem L2 PyProof.Rows
mutual
def cP:D→Bool
 | .non=>true
 | .bl _=>true
 | .int _=>true
 | .str _=>true
 | .tup l=>fh l
 | .lst l=>fh l
 | _=>false
def fh:List D→Bool
 | []=>true
 | d::r=>cP d&&fh r
end
section
variable{cA:String→Addr}{Z Z' Y:Hp}
mutual
theorem det:∀ {d d':D} {v:V},aN cA Z d v→aN cA Z d' v→cP d=true→cP d'=true→d=d'
 | .non,d',v,h,h',p,p'=>by
  have h:v=.non:=h
  subst h
  cases d'<;> first | rfl | (simp[aN]at h';done) | (simp[cP]at p';done)
 | .bl b,d',v,h,h',p,p'=>by
  have h:v=.bl b:=h
  subst h
  cases d'<;> first | (simp[aN]at h';subst h';rfl) | (simp[aN]at h';done) | (simp[cP]at p';done)
 | .int b,d',v,h,h',p,p'=>by
  have h:v=.int b:=h
  subst h
  cases d'<;> first | (simp[aN]at h';subst h';rfl) | (simp[aN]at h';done) | (simp[cP]at p';done)
 | .str b,d',v,h,h',p,p'=>by
  have h:v=.str ⟨b.toArray⟩:=h
  subst h
  cases d'<;> first | (simp[aN]at h';subst h';rfl) | (simp[aN]at h';done) | (simp[cP]at p';done)
 | .tup ds,d',v,⟨a,vs,e,z,q⟩,h',p,p'=>by
  subst e
  cases d' with
  | tup ds'=>
   obtain⟨a',vs',e',z',q'⟩:=h'
   cases e'
   rw[z]at z'
   cases z'
   rw[FH q q' p p']
  | lst ds'=>
   obtain⟨a',vs',e',z',q'⟩:=h'
   cases e'
   rw[z]at z'
   rcases z' with z' | ⟨_,z'⟩<;> cases z'
  | non=>cases h'
  | bl b=>cases h'
  | int b=>cases h'
  | str b=>cases h'
  | _=>simp[cP]at p'
 | .lst ds,d',v,⟨a,vs,e,z,q⟩,h',p,p'=>by
  subst e
  cases d' with
  | tup ds'=>
   obtain⟨a',vs',e',z',q'⟩:=h'
   cases e'
   rw[z']at z
   rcases z with z | ⟨_,z⟩<;> cases z
  | lst ds'=>
   obtain⟨a',vs',e',z',q'⟩:=h'
   cases e'
   have:vs=vs':=by
    rcases z with z | ⟨_,z⟩<;> rcases z' with z' | ⟨_,z'⟩<;> rw[z]at z'<;> cases z'<;> rfl
   subst this
   rw[FH q q' p p']
  | non=>cases h'
  | bl b=>cases h'
  | int b=>cases h'
  | str b=>cases h'
  | _=>simp[cP]at p'
 | .dic _,d',v,h,h',p,p'=>by simp[cP]at p
 | .dit _,d',v,h,h',p,p'=>by simp[cP]at p
 | .ins _ _,d',v,h,h',p,p'=>by simp[cP]at p
 | .exc _ _,d',v,h,h',p,p'=>by simp[cP]at p
theorem FH:∀ {ds ds':List D} {vs:List V},bq cA Z ds vs→bq cA Z ds' vs→fh ds=true→fh ds'=true→ds=ds'
 | [],[],vs,h,h',p,p'=>rfl
 | [],d'::r',vs,h,⟨v,t,e,q,w⟩,p,p'=>by
  have h:vs=[]:=h
  rw[h]at e
  cases e
 | d::r,[],vs,⟨v,t,e,q,w⟩,h',p,p'=>by
  have h':vs=[]:=h'
  rw[h']at e
  cases e
 | d::r,d'::r',vs,⟨v,t,e,q,w⟩,⟨v',t',e',q',w'⟩,p,p'=>by
  rw[e]at e'
  cases e'
  simp only[fh,Bool.and_eq_true]at p p'
  rw[det q q' p.1 p'.1,FH w w' p.2 p'.2]
end
end
end Vw
namespace Vw
open PySem L2 PyProof.Rows
end Vw
namespace Vw
open PySem L2 PyProof.Rows
end Vw
namespace Vw
open PySem L2 PyProof.Rows
end Vw
namespace Vw
open PySem L2 PyProof.Rows
end Vw
namespace Vw
open PySem L2 PyProof.Rows
end Vw
namespace Vw
open PySem L2 PyProof.Rows
end Vw
namespace Vw
open PySem L2 PyProof.Rows
end Vw
namespace Vw
open PySem L2 PyProof.Rows
end Vw
namespace Vw
open PySem L2 PyProof.Rows
end Vw
namespace Vw
open PySem L2 PyProof.Rows
def Bl(H:Hp)(a:Addr)(xs:List V):Prop:=H a=some (.tup xs)∨H a=some (.lst xs)
def Tr(H:Hp):Nat→V→Prop
 | 0,_=>False
 | n+1,v=>(∃ t,v=.str t)∨(∃ i,v=.int i)∨(∃ b,v=.bl b)∨v=.non∨∃ a xs,v=.ref a∧Bl H a xs∧∀ x∈xs,Tr H n x
def qR(H:Hp):Nat→V→Addr→Prop
 | 0,_,_=>False
 | n+1,v,b=>∃ a xs,v=.ref a∧Bl H a xs∧(b=a∨∃ x∈xs,qR H n x b)
def Em(S:Addr→Prop)(H H':Hp):Prop:=∀ b,H' b=H b∨(S b∧(∃ xs,H b=some (.lst xs))∧H' b=some (.lst []))
section
variable{H H' H1 H2:Hp}{S S':Addr→Prop}
theorem Em.refl(S:Addr→Prop)(H:Hp):Em S H H:=fun _=>.inl rfl
theorem Em.mono(h:Em S H H')(k:∀ b,S b→S' b):Em S' H H':=fun b=>(h b).imp id fun⟨h1,h2⟩=>⟨k b h1,h2⟩
theorem Em.trans(h:Em S H H1)(k:Em S H1 H2):Em S H H2:=fun b=>by
 rcases k b with k | ⟨k1,⟨ys,k2⟩,k3⟩
 ·rcases h b with h | ⟨h1,h2,h3⟩
  ·exact .inl (k.trans h)
  ·exact .inr ⟨h1,h2,k.trans h3⟩
 ·rcases h b with h | ⟨h1,h2,h3⟩
  ·exact .inr ⟨k1,⟨ys,h▸k2⟩,k3⟩
  ·exact .inr ⟨k1,h2,k3⟩
theorem Em.tup(h:Em S H H'){a:Addr}{xs:List V}(e:H a=some (.tup xs)):H' a=some (.tup xs):=by
 rcases h a with h | ⟨_,⟨ys,h⟩,_⟩
 ·rw[h,e]
 ·rw[e]at h;cases h
theorem Em.lst(h:Em S H H'){a:Addr}{xs:List V}(e:H a=some (.lst xs)):H' a=some (.lst xs)∨(S a∧H' a=some (.lst [])):=by
 rcases h a with h | ⟨h1,_,h2⟩
 ·exact .inl (by rw[h,e])
 ·exact .inr ⟨h1,h2⟩
theorem Em.back(h:Em S H H'){a:Addr}{xs:List V}(e:Bl H' a xs):Bl H a xs∨(xs=[]∧∃ ys,Bl H a ys):=by
 rcases h a with h | ⟨_,⟨ys,h1⟩,h2⟩
 ·left
  unfold Bl at e ⊢
  rw[h]at e
  exact e
 ·right
  rcases e with e | e<;> rw[h2]at e<;> cases e
  exact⟨rfl,ys,.inr h1⟩
theorem Tr.em(h:Em S H H'):∀ (n:Nat) {v:V},Tr H n v→Tr H' n v
 | 0,v,k=>k
 | n+1,v,k=>by
  unfold Tr at k ⊢
  rcases k with k | k | k | k | ⟨a,xs,e,c,k⟩
  ·exact .inl k
  ·exact .inr (.inl k)
  ·exact .inr (.inr (.inl k))
  ·exact .inr (.inr (.inr (.inl k)))
  ·refine .inr (.inr (.inr (.inr ?_)))
   rcases c with c | c
   ·exact⟨a,xs,e,.inl (h.tup c),fun x hx=>Tr.em h n (k x hx)⟩
   ·rcases h.lst c with c | ⟨_,c⟩
    ·exact⟨a,xs,e,.inr c,fun x hx=>Tr.em h n (k x hx)⟩
    ·exact⟨a,[],e,.inr c,fun x hx=>by cases hx⟩
theorem qR.em(h:Em S H H'):∀ (n:Nat) {v:V} {b:Addr},qR H' n v b→qR H n v b
 | 0,v,b,k=>k
 | n+1,v,b,k=>by
  unfold qR at k ⊢
  obtain⟨a,xs,e,c,k⟩:=k
  rcases h.back c with c | ⟨rfl,ys,c⟩
  ·refine⟨a,xs,e,c,?_⟩
   rcases k with k | ⟨x,hx,k⟩
   ·exact .inl k
   ·exact .inr ⟨x,hx,qR.em h n k⟩
  ·rcases k with k | ⟨x,hx,k⟩
   ·exact⟨a,ys,e,c,.inl k⟩
   ·cases hx
theorem Tr.succ:∀ (n:Nat) {v:V},Tr H n v→Tr H (n+1) v
 | 0,v,k=>k.elim
 | n+1,v,k=>by
  unfold Tr at k ⊢
  rcases k with k | k | k | k | ⟨a,xs,e,c,k⟩
  ·exact .inl k
  ·exact .inr (.inl k)
  ·exact .inr (.inr (.inl k))
  ·exact .inr (.inr (.inr (.inl k)))
  ·exact .inr (.inr (.inr (.inr ⟨a,xs,e,c,fun x hx=>Tr.succ n (k x hx)⟩)))
theorem qR.succ:∀ (n:Nat) {v:V} {b:Addr},qR H n v b→qR H (n+1) v b
 | 0,v,b,k=>k.elim
 | n+1,v,b,k=>by
  unfold qR at k ⊢
  obtain⟨a,xs,e,c,k⟩:=k
  exact⟨a,xs,e,c,k.imp id fun⟨x,hx,k⟩=>⟨x,hx,qR.succ n k⟩⟩
end
section
variable{cA:String→Addr}{Z H:Hp}
theorem Tr.up{H:Hp}{v:V}:∀ (k:Nat) {n:Nat},Tr H n v→Tr H (n+k) v
 | 0,n,h=>h
 | k+1,n,h=>Tr.succ _ (Tr.up k h)
end
end Vw
namespace Vw
open PySem L2 PyProof.Rows
mutual
def mn(P:D→Prop):D→Prop
 | .lst l=>P (.lst l)∧qz P l
 | .tup l=>qz P l
 | .dic l=>Cs P l
 | .dit l=>Cj P l
 | .ins _ l=>Fu P l
 | .exc _ l=>qz P l
 | _=>True
def qz(P:D→Prop):List D→Prop
 | []=>True
 | d::l=>mn P d∧qz P l
def Cs(P:D→Prop):List (K0×D)→Prop
 | []=>True
 | (_,d)::l=>mn P d∧Cs P l
def Cj(P:D→Prop):List (List K0×D)→Prop
 | []=>True
 | (_,d)::l=>mn P d∧Cj P l
def Fu(P:D→Prop):List (String×D)→Prop
 | []=>True
 | (_,d)::l=>mn P d∧Fu P l
end
def Apart(ds:D)(d:D):Prop:=∃ M:D→Prop,mn M ds∧mn (fun e=>cP e=true∧¬ M e) d
def Eg(k:Nat)(st:List Ob):Val→Option D
 | .d x=>some x
 | .r j=>if j=k then none else(match st[j]? with
  | some (.lst l)=>(toDs l).map .lst
  | _=>none)
 | .tp _=>none
def tL(k:Nat)(st:List Ob):List Val→Option (List D)
 | []=>some []
 | x::l=>match Eg k st x,tL k st l with
  | some d,some ds=>some (d::ds)
  | _,_=>none
def ldI(k:Nat)(st:List Ob):List Val→Option (List D)
 | []=>some []
 | .tp t::l=>(match tL k st t,ldI k st l with
  | some d,some ds=>some (.tup d::ds)
  | _,_=>none)
 | _::_=>none
open Classical in
noncomputable def zX(m:Nat)(t:D)(r:Res RV)(s:State):Res RV:=
 match r with
 | .ok (.val (.d .non)) s2=>(match mP m ⟨[],s2.st⟩ (.r 0)with
  | some d=>if Apart t d then .ok (.val (.d d)) s else .stuck
  | none=>.stuck)
 | _=>.stuck
noncomputable def uk(m:Nat)(c:String)(n:Nat)(fs:State→Res (List RV))(g:Fn)(s:State):Res RV:=(fs s).bind fun rs s=>(aI rs s).bind fun args s=>match args with
 | [.r k]=>(match s.st[k]? with
  | some (.lst [])=>if n=2 then Hk m [] (g [.r 1,.r 0] [.lst [],.ins c []]) s else .stuck
  | some (.lst l)=>(match ldI k s.st l with
   | some ds=>if n=2∧fh ds=true then zX m (.lst ds) (g [.r 0,.d (.lst ds)] [.ins c []]) s else .stuck
   | none=>.stuck)
  | _=>.stuck)
 | _=>.stuck
structure GoodL (cA:String→Addr) (Z H:Hp) (M:D→Prop) (Zc:Hp):Prop where
 z:GoodZ Z H Zc
 at_:∀ (b:Addr) (o:HO),Zc b=some o→Z b=none→∃ xs ds,o=.lst xs∧M (.lst ds)∧cP (.lst ds)=true∧bq cA Zc ds xs
section
variable{C:Cst}{Z Z' Zc Zd:Hp}{loc loc' l':List Addr}{s s':State}{sv sv':L2.St}{H H':Hp}{M:D→Prop}
variable{X:Cx}{e a b c o:Expr}{es:List Expr}{p pos apos:Pos}{f fa fb fc fo fi fv:State→Res RV}
theorem GoodL.refl{cA:String→Addr}:GoodL cA Z H M Z:=⟨GoodZ.refl,fun b o h z=>by rw[h]at z;cases z⟩
theorem GoodL.add{cA:String→Addr}(g:GoodL cA Z H M Zc){a:Addr}{xs:List V}{ds:List D}(z:Z a=none)(h1:H a=some (.lst xs))(q:bq cA Zc ds xs)(hm:M (.lst ds))(hp:cP (.lst ds)=true):∃ Zd,Same Zc Zd∧GoodL cA Z H M Zd∧Zd a=some (.lst xs):=by
 cases ez:Zc a with
 | some w=>
  obtain⟨ys,es,e1,_⟩:=g.at_ a w ez z
  have hw:w=.lst xs:=by
   rcases g.z.at_ a w ez with q | ⟨q,_⟩
   ·rw[z]at q;cases q
   ·rw[h1]at q;cases q;rfl
  rw[hw]at ez
  exact⟨Zc,Same.refl _,g,ez⟩
 | none=>
  have sm:Same Zc (upd Zc a (.lst xs)):=bC ez
  refine⟨upd Zc a (.lst xs),sm,⟨⟨g.z.up.trans sm,fun b w hb=>?_⟩,fun b w hb hz=>?_⟩,upd_same⟩
  ·by_cases hba:b=a
   ·subst hba
    rw[upd_same]at hb
    cases hb
    exact .inr ⟨h1,rfl⟩
   ·rw[upd_ne hba]at hb
    exact g.z.at_ b w hb
  ·by_cases hba:b=a
   ·subst hba
    rw[upd_same]at hb
    cases hb
    exact⟨xs,ds,rfl,hm,hp,bq.mono sm ds q⟩
   ·rw[upd_ne hba]at hb
    obtain⟨ys,es,e1,e2,e3,e4⟩:=g.at_ b w hb hz
    exact⟨ys,es,e1,e2,e3,bq.mono sm es e4⟩
theorem sT{cA:String→Addr}:∀ {l:List Val} {vs:List V} {ds:List D},toDs l=some ds→aE cA Z loc l vs→bq cA Z ds vs
 | [],vs,ds,e,h=>by cases e;exact h
 | .d x::l,vs,ds,e,⟨v,t,e1,q,h⟩=>by
  obtain⟨t',e',rfl⟩:=Option.map_eq_some_iff.mp e
  exact⟨v,t,e1,q,sT e' h⟩
 | .r n::l,vs,ds,e,h=>by cases e
 | .tp m::l,vs,ds,e,h=>by cases e
theorem Lj(r:SR C Z loc s sv H){k:Nat}{x:Val}{v:V}{d:D}(g:GoodL C.cA Z H M Zc)(h:bo C.cA Z loc x v)(e:Eg k s.st x=some d)(hm:mn M d)(hp:cP d=true):∃ Zd,Same Zc Zd∧GoodL C.cA Z H M Zd∧aN C.cA Zd d v:=by
 cases x with
 | d y=>cases e;exact⟨Zc,Same.refl _,g,aN.mono g.z.up _ h⟩
 | tp l=>cases e
 | r j=>
  unfold Eg at e
  dsimp only at e
  split at e
  ·cases e
  ·split at e
   ·rename_i l hl
    obtain⟨ds,e1,rfl⟩:=Option.map_eq_some_iff.mp e
    obtain⟨a,h2,rfl⟩:=h
    obtain⟨⟨xs,c1,c2⟩,cz⟩:=r.cl j a _ h2 hl (by simp)
    obtain⟨Zd,sm,g2,h3⟩:=g.add cz c1 (bq.mono g.z.up ds (sT e1 c2)) hm.1 hp
    exact⟨Zd,sm,g2,a,xs,rfl,.inl h3,bq.mono (g.z.up.trans sm) ds (sT e1 c2)⟩
   ·cases e
theorem Bk(r:SR C Z loc s sv H){k:Nat}:∀ {Zc:Hp} {l:List Val} {vs:List V} {ds:List D},GoodL C.cA Z H M Zc→aE C.cA Z loc l vs→tL k s.st l=some ds→qz M ds→fh ds=true→∃ Zd,Same Zc Zd∧GoodL C.cA Z H M Zd∧bq C.cA Zd ds vs
 | Zc,[],vs,ds,g,h,e,_,_=>by cases e;exact⟨Zc,Same.refl _,g,h⟩
 | Zc,x::l,vs,ds,g,⟨v,t,e1,q,h⟩,e,hm,hp=>by
  unfold tL at e
  split at e
  ·rename_i d ds' e2 e3
   cases e
   simp only[fh,Bool.and_eq_true]at hp
   obtain⟨Z1,s1,g1,r1⟩:=Lj r g q e2 hm.1 hp.1
   obtain⟨Z2,s2,g2,r2⟩:=Bk r g1 h e3 hm.2 hp.2
   exact⟨Z2,s1.trans s2,g2,v,t,e1,aN.mono s2 d r1,r2⟩
  ·cases e
theorem DB(r:SR C Z loc s sv H){k:Nat}:∀ {Zc:Hp} {l:List Val} {vs:List V} {ds:List D},GoodL C.cA Z H M Zc→aE C.cA Z loc l vs→ldI k s.st l=some ds→qz M ds→fh ds=true→∃ Zd,Same Zc Zd∧GoodL C.cA Z H M Zd∧bq C.cA Zd ds vs
 | Zc,[],vs,ds,g,h,e,_,_=>by cases e;exact⟨Zc,Same.refl _,g,h⟩
 | Zc,.d x::l,vs,ds,g,h,e,_,_=>by cases e
 | Zc,.r x::l,vs,ds,g,h,e,_,_=>by cases e
 | Zc,.tp x::l,vs,ds,g,⟨v,t,e1,⟨a,us,ea,za,q⟩,h⟩,e,hm,hp=>by
  unfold ldI at e
  split at e
  ·rename_i d ds' e2 e3
   cases e
   simp only[fh,Bool.and_eq_true]at hp
   obtain⟨Z1,s1,g1,r1⟩:=Bk r g q e2 hm.1 hp.1
   obtain⟨Z2,s2,g2,r2⟩:=DB r g1 h e3 hm.2 hp.2
   exact⟨Z2,s1.trans s2,g2,v,t,e1,⟨a,us,ea,g2.z.up _ _ za,bq.mono s2 d r1⟩,r2⟩
  ·cases e
noncomputable def ll(Z:Hp)(S:Addr→Prop):Hp:=fun b=>open Classical in if S b then none else Z b
theorem wt{S:Addr→Prop}{b:Addr}(h:¬ S b):ll Z S b=Z b:=by unfold ll;rw[if_neg h]
theorem DI{S:Addr→Prop}{b:Addr}{o:HO}(h:ll Z S b=some o):¬ S b∧Z b=some o:=by
 unfold ll at h
 split at h
 ·cases h
 ·rename_i n;exact⟨n,h⟩
section
variable{cA:String→Addr}{S:Addr→Prop}(hS:∀ b,S b→∃ xs ds,Z b=some (.lst xs)∧M (.lst ds)∧cP (.lst ds)=true∧bq cA Z ds xs)
include hS
theorem off_ne{b:Addr}{o:HO}(h:Z b=some o)(hl:∀ xs,o≠ .lst xs):ll Z S b=some o:=by
 rw[wt fun hs=>?_,h]
 obtain⟨xs,ds,e,_⟩:=hS b hs
 rw[h]at e
 cases e
 exact hl _ rfl
mutual
theorem strip:∀ {d:D} {v:V},aN cA Z d v→mn (fun e=>cP e=true∧¬ M e) d→aN cA (ll Z S) d v
 | .non,v,q,_=>q
 | .bl _,v,q,_=>q
 | .int _,v,q,_=>q
 | .str _,v,q,_=>q
 | .tup ds,v,⟨a,vs,e,z,q⟩,m=>⟨a,vs,e,off_ne hS z (fun _ h=>nomatch h),t4 q m⟩
 | .lst ds,v,⟨a,vs,e,z,q⟩,m=>by
  refine⟨a,vs,e,?_,t4 q m.2⟩
  rcases z with z | ⟨o,z⟩
  ·left
   rw[wt fun hs=>?_,z]
   obtain⟨xs,ds',e1,e2,e3,e4⟩:=hS a hs
   rw[z]at e1
   cases e1
   have:=det (cA:=cA) (Z:=Z) (d:=.lst ds) (d':=.lst ds') (v:=.ref a) ⟨a,vs,rfl,.inl z,q⟩ ⟨a,vs,rfl,.inl z,e4⟩ m.1.1 e3
   rw[this]at m
   exact m.1.2 e2
  ·exact .inr ⟨o,off_ne hS z (fun _ h=>nomatch h)⟩
 | .dic l,v,⟨a,vs,e,z,q⟩,m=>⟨a,vs,e,off_ne hS z (fun _ h=>nomatch h),Dw q m⟩
 | .dit l,v,⟨a,vs,e,z,q⟩,m=>⟨a,vs,e,off_ne hS z (fun _ h=>nomatch h),DR q m⟩
 | .ins c fs,v,⟨a,dx,ws,e,z,q⟩,m=>⟨a,dx,ws,e,off_ne hS z (fun _ h=>nomatch h),DM q m⟩
 | .exc c ps,v,⟨a,d,ws,e,z,x,q⟩,m=>⟨a,d,ws,e,off_ne hS z (fun _ h=>by unfold NW at h;cases h),x.elim .inl fun⟨dd,w,e1,e2,z⟩=>.inr ⟨dd,w,e1,e2,off_ne hS z (fun _ h=>nomatch h)⟩,t4 q m⟩
theorem t4:∀ {ds:List D} {vs:List V},bq cA Z ds vs→qz (fun e=>cP e=true∧¬ M e) ds→bq cA (ll Z S) ds vs
 | [],vs,q,_=>q
 | d::ds,vs,⟨v,r,e,q,t⟩,m=>⟨v,r,e,strip q m.1,t4 t m.2⟩
theorem Dw:∀ {ds:List (K0×D)} {vs:List (Key×V)},fG cA Z ds vs→Cs (fun e=>cP e=true∧¬ M e) ds→fG cA (ll Z S) ds vs
 | [],vs,q,_=>q
 | (k,d)::ds,vs,⟨v,r,e,q,t⟩,m=>⟨v,r,e,strip q m.1,Dw t m.2⟩
theorem DR:∀ {ds:List (List K0×D)} {vs:List (List Key×V)},iU cA Z ds vs→Cj (fun e=>cP e=true∧¬ M e) ds→iU cA (ll Z S) ds vs
 | [],vs,q,_=>q
 | (k,d)::ds,vs,⟨v,r,e,q,t⟩,m=>⟨v,r,e,strip q m.1,DR t m.2⟩
theorem DM:∀ {ds:List (String×D)} {vs:List (Str×V)},fU cA Z ds vs→Fu (fun e=>cP e=true∧¬ M e) ds→fU cA (ll Z S) ds vs
 | [],vs,q,_=>q
 | (k,d)::ds,vs,⟨v,r,e,q,t⟩,m=>⟨v,r,e,strip q m.1,DM t m.2⟩
end
end
theorem SR.Ji(r:SR C Z loc s sv H)(g:GoodZ Z H Zc)(E:XK){cl:String}{y dx:Addr}(hy:H y=none)(hdx:H dx=none)(ne:dx≠y):SR (cW C.cA (b8 H Zc []) C.H0 E) Zc [y] ⟨[],[.ins cl []]⟩ [] (upd (upd H dx (.own y)) y (.ins (C.cA cl) dx [])):=by
 have hy':upd H dx (.own y) y=none:=by rw[upd_ne (Ne.symm ne)];exact hy
 have r0:=r.look g E
 have r1:=(r0.grow (bC (o:=.own y) hdx)).grow (bC (o:=.ins (C.cA cl) dx []) hy')
 have fr:Free (cW C.cA (b8 H Zc []) C.H0 E) Zc [] ⟨[],[]⟩ [] y:=r0.free hy
 exact(r1.alloc (o:=.ins cl []) (by simp) ⟨dx,[],upd_same,rfl⟩ fr).2.1
theorem SR.Nq(r:SR C Z loc s sv H)(g0:GoodL C.cA Z H M Zc){E:XK}{st:List Ob}{y:Addr}{m:Nat}{d:D}(g:Ext Zc [y] Z' l')(r':SR (cW C.cA (b8 H Zc []) C.H0 E) Z' l' ⟨[],st⟩ [] H')(e:mP m ⟨[],st⟩ (.r 0)=some d)(ap:mn (fun e=>cP e=true∧¬ M e) d):∃ Zd,Ext Z loc Zd loc∧SR C Zd loc s sv H'∧aN C.cA Zd d (.ref y):=by
 obtain⟨k,t,rfl⟩:=g
 have rz:SR C Z loc s sv H':=r.looked g0.z ⟨k,[y]++t,rfl⟩ r'
 obtain⟨Z0,k2,gy,q⟩:=um r' bP m Z' (.r 0) (.ref y) d GoodY.refl ⟨y,rfl,rfl⟩ e
 have kc:Same Zc Z0:=k.trans k2
 let S:Addr→Prop:=fun b=>Z b=none∧∃ o,Zc b=some o
 have hS:∀ b,S b→∃ xs ds,Z0 b=some (.lst xs)∧M (.lst ds)∧cP (.lst ds)=true∧bq C.cA Z0 ds xs:=fun b ⟨hz,o,hc⟩=>by
  obtain⟨xs,ds,e1,e2,e3,e4⟩:=g0.at_ b o hc hz
  subst e1
  exact⟨xs,ds,kc _ _ hc,e2,e3,bq.mono kc ds e4⟩
 have fresh:∀ b,Zc b=none→b8 H Zc [] b=none→H b=none:=fun b h1 h2=>(gA (H:=H) (loc:=[]) h1 (by simp)).symm.trans h2
 have free:∀ b,H b=none→C.Fr b=none∧b∉loc∧∀ (i:Nat) (o:Ob),s.sg[i]? =some (some (.own o))→sv[i]? ≠some (some (.ref b)):=fun b hb=>by
  refine⟨?_,fun z=>(r.lh b z).1 hb,fun i o h e=>?_⟩
  ·cases e:C.Fr b with
   | none=>rfl
   | some u=>have:=r.fr b u e;rw[hb]at this;cases this
  ·obtain⟨b',q1,q2,q3,q4,q5,q6⟩:=r.ow i o h
   rw[e]at q1
   cases q1
   exact dP q2 q3 hb
 have same:Same Z (ll Z0 S):=fun b u h=>by
  rw[wt fun hs=>by rw[hs.1]at h;cases h]
  exact kc _ _ (g0.z.up _ _ h)
 refine⟨ll Z0 S,⟨same,[],by simp⟩,rz.CT same fun b u h=>?_,strip hS q ap⟩
 obtain⟨ns,h0⟩:=DI h
 cases ec:Zc b with
 | some w=>
  left
  cases ez:Z b with
  | none=>exact absurd ⟨ez,w,ec⟩ ns
  | some w'=>rw[←h0];exact(kc _ _ (g0.z.up _ _ ez)).symm
 | none=>
  right
  rcases gy.at_ b u h0 with h1 | ⟨z1,z2,⟨m0,_,z30⟩,_⟩
  ·have hb:H b=none:=by
    cases eh:H b with
    | none=>rfl
    | some w=>
     have f:=(gA (H:=H) (loc:=[]) ec (by simp)).trans eh
     have:=(r'.gJ (a:=b) f).1
     rw[h1]at this
     cases this
   exact⟨r'.zh b u h1,free b hb⟩
  ·exact⟨z2,free b (fresh b ec (r'.lh b (List.mem_of_getElem? z30)).2)⟩
theorem Jj{m:Nat}{cl:String}{n k:Nat}{g:Fn}{l:List Val}{ds:List D}{v:V}{Q:VK}(r:SR C Z loc s sv H)(q:bo C.cA Z loc (.r k) v)(hs:s.st[k]? =some (.lst l))(hd:ldI k s.st l=some ds)(hp:fh ds=true)(hn:n=2)
  (h:EPost C Z loc sv (zX m (.lst ds) (g [.r 0,.d (.lst ds)] [.ins cl []]) s) Q):
  ∀ y dx,H y=none→H dx=none→dx≠y→cE C.cA n g [.ref y,v] (upd (upd H dx (.own y)) y (.ins (C.cA cl) dx [])) (fun v H2=>v=.non∧Q (.ref y) H2) (WE C.W sv):=by
 intro y dx hy hdx ne
 obtain⟨a,ha,rfl⟩:=q
 obtain⟨⟨xs,c1,c2⟩,cz⟩:=r.cl k a _ ha hs (by simp)
 unfold zX at h
 have stuck:∀ {rr:Res RV},EPost C Z loc sv (Res.stuck) Q→False:=fun h=>h
 cases e:g [.r 0,.d (.lst ds)] [.ins cl []]with
 | stuck=>rw[e]at h;exact h.elim
 | exc x s1=>rw[e]at h;exact h.elim
 | ok rv s1=>
  rw[e]at h
  cases rv with
  | own i=>exact h.elim
  | new o=>exact h.elim
  | val x=>
   cases x with
   | r n=>exact h.elim
   | tp l=>exact h.elim
   | d d=>
    cases d with
    | non=>
     dsimp only at h
     split at h
     ·rename_i d e2
      split at h
      ·rename_i ap
       obtain⟨M,m1,m2⟩:=ap
       obtain⟨Z1,s1',g1,r1⟩:=DB (M:=M) r GoodL.refl c2 hd m1.2 hp
       obtain⟨Zc,s2',g2,h3⟩:=g1.add cz c1 r1 m1.1 hp
       refine⟨b8 H Zc [],C.H0,Zc,[y],[.r 0,.d (.lst ds)],[.ins cl []],r.Ji g2.z _ hy hdx ne,⟨.ref y,[.ref a],rfl,⟨y,rfl,rfl⟩,.ref a,[],rfl,⟨a,xs,rfl,.inl h3,bq.mono s2' ds r1⟩,rfl⟩,by rw[hn];rfl,?_⟩
       rw[e]
       intro Z' l' H' v g' r' q'
       obtain⟨Zd,w1,w2,w3⟩:=r.Nq g2 g' r' e2 m2
       exact⟨q',h Zd loc H' _ w1 w2 w3⟩
      ·exact h.elim
     ·exact h.elim
    | _=>exact h.elim
section
variable{fs:State→Res (List RV)}{cA:String→Addr}
theorem KR{m k n:Nat}{fA:Addr}{fd:FuncData}{ps:List Str}{cl:String}{g:Fn}(hC:C.cA=cA)(tk:Takes X C.W)(Mk':Mk X.K (cA cl) fA)(F:FnOk X.prog X.w X.K X.mg X.base (mX tk).CX k fA fd ps (cE cA n g))(hr:Room (k+1) X.A)(hg:Gl X (Str.ofString cl))(hm:X.mg (Str.ofString cl)=some (.ref (cA cl)))(hb:Binds X.K fd ps [])(hn:ps.length=n)
  (ha:PA X (e::es) (cZ C fs)) (hdb:((Str.ofString cl)==("__debug__":Str))=false) (hs:(e::es).all notStar=true):PE X (.Call (.Name (Str.ofString cl) p) (e::es) [] pos) (ai C (uk m cl n fs g)):=by
 subst hC hn
 have hs':=hs
 simp only[List.all_cons,Bool.and_eq_true]at hs
 refine aV (Fe (M:=mX tk) Mk' F hr hg hm hb ha hdb (bt hs.1) (fx hs.2)) fun sv H Q h=>(cZ.at h).imp fun vs H1 ⟨Z,loc,s,xs,r,q,h⟩=>?_
 cases e1:aI xs s with
 | stuck=>rw[e1]at h;exact h.elim
 | exc x s1=>exact absurd e1 fV
 | ok args s1=>
  rw[e1]at h
  simp only[Res.bind]at h
  obtain⟨Z1,g1,r1,q1⟩:=r.aI q e1
  match args,q1,h with
  | [.r k],⟨v,t,e2,q2,e3⟩,h=>
   have e3:t=[]:=e3
   subst e2 e3
   dsimp only at h
   split at h
   ·rename_i hl
    split at h
    ·rename_i hn
     exact LJ r1 q2 hl rfl hn (EPost.ext h g1)
    ·exact h.elim
   ·rename_i l _ hl
    split at h
    ·rename_i ds hd
     split at h
     ·rename_i hn
      exact Jj r1 q2 hl hd hn.2 hn.1 (EPost.ext h g1)
     ·exact h.elim
    ·exact h.elim
   ·exact h.elim
  | [],_,h=>exact h.elim
  | [.d _],_,h=>exact h.elim
  | [.tp _],_,h=>exact h.elim
  | .r _::_::_,_,h=>exact h.elim
  | .d _::_::_,_,h=>exact h.elim
  | .tp _::_::_,_,h=>exact h.elim
end
def oH(m:Nat)(r:Res RV)(s:State):Res RV:=
 match r with
 | .ok (.val x) s2=>(match mP m s2 x with
  | some d=>.ok (.val (.d d)) s
  | none=>.stuck)
 | .ok (.new o) s2=>(match mP m ⟨s2.sg,s2.st++[o]⟩ (.r s2.st.length)with
  | some d=>.ok (.val (.d d)) s
  | none=>.stuck)
 | _=>.stuck
def kx(m:Nat)(g:Fn)(args:List Val)(s:State):Res RV:=match o4 args with
 | some ds=>oH m (g (ds.map .d) []) s
 | none=>.stuck
def yd(m n:Nat)(fs:State→Res (List RV))(g:Fn)(s:State):Res RV:=(fs s).bind fun rs s=>(aI rs s).bind fun args s=>if args.length=n then kx m g args s else .stuck
theorem zg{m:Nat}{g:Fn}{n:Nat}{args:List Val}{vs:List V}{Q:VK}(r:SR C Z loc s sv H)(q:aE C.cA Z loc args vs)(hn:args.length=n)(h:EPost C Z loc sv (kx m g args s) Q):cE C.cA n g vs H Q E0:=by
 unfold kx at h
 split at h
 ·rename_i ds e2
  have e2:=tF e2
  subst e2
  refine⟨b8 H Z [],C.H0,Z,[],ds.map .d,[],r.JC _,vh q,hn,?_⟩
  unfold oH at h
  cases e:g (ds.map .d) []with
  | stuck=>rw[e]at h;exact h
  | exc x s1=>rw[e]at h;exact h.elim
  | ok rv s1=>
   rw[e]at h
   cases rv with
   | own i=>exact h.elim
   | new o=>
    dsimp only at h
    split at h
    ·rename_i d e2
     intro Z' l' H' v g' r' q'
     obtain⟨a,rfl,ne,cell,fr⟩:=q'
     obtain⟨g3,r3,q3⟩:=r'.alloc ne cell fr
     obtain⟨Zd,w1,w2,w3⟩:=r.Hu (st:=⟨[],s1.st++[o]⟩) rfl (g'.trans g3) r3 q3 e2
     exact h Zd loc H' _ w1 w2 w3
    ·exact h.elim
   | val x=>
    dsimp only at h
    split at h
    ·rename_i d e2
     intro Z' l' H' v g' r' q'
     obtain⟨Zd,w1,w2,w3⟩:=r.Hu (st:=⟨[],s1.st⟩) rfl g' r' q' e2
     exact h Zd loc H' v w1 w2 w3
    ·exact h.elim
 ·exact h.elim
theorem J7{m:Nat}{CX:CXT}{k n:Nat}{fA:Addr}{fd:FuncData}{ps:List Str}{x:Str}{g:Fn}{fs:State→Res (List RV)}{cA:String→Addr}(hC:C.cA=cA)(F:FnOk X.prog X.w X.K X.mg X.base CX k fA fd ps (cE cA n g))(hr:Room k X.A)(hg:Gl X x)(hm:X.mg x=some (.ref fA))(hk:PySem.W.keepIn X.K (.ref fA)=true)
  (hb:Binds X.K fd ps []) (hx:Passes CX X E0) (hn:ps.length=n) (ha:PA X (e::es) (cZ C fs)) (hdb:(x==("__debug__":Str))=false) (hs:(e::es).all notStar=true):
  PE X (.Call (.Name x p) (e::es) [] pos) (ai C (yd m n fs g)):=by
 subst hn hC
 have hs':=hs
 simp only[List.all_cons,Bool.and_eq_true]at hs
 refine aV (pe_call F hr hg hm hk hb .nil hx ha hdb (bt hs.1) (fx hs.2)) fun sv H Q h=>(cZ.at h).imp fun vs H1 ⟨Z,loc,s,xs,r,q,h⟩=>?_
 rw[List.append_nil]
 cases e1:aI xs s with
 | stuck=>rw[e1]at h;exact h.elim
 | exc x s1=>exact absurd e1 fV
 | ok args s1=>
  rw[e1]at h
  simp only[Res.bind]at h
  obtain⟨Z1,g1,r1,q1⟩:=r.aI q e1
  split at h
  ·rename_i hn
   exact zg r1 q1 hn (EPost.ext h g1)
  ·exact h.elim
theorem JR{Q:VK}(h:ai C (gS f) sv H Q):ai C f sv H Q:=by
 obtain⟨Z,loc,s,r,q⟩:=h
 refine(ai.oV r q).imp fun v H1 ⟨Z1,l1,s1,y,g1,r1,q1,h1⟩=>?_
 cases y with
 | val x=>exact h1.elim
 | own i=>exact h1.elim
 | new o=>
  obtain⟨a,h2,h3,h4,h5⟩:=q1
  subst h2
  have key:EPost C Z1 l1 sv (.ok (.val (.r s1.st.length)) ⟨s1.sg,s1.st++[o]⟩) Q:=by
   cases o<;> first | exact h1 | exact absurd rfl h3
  obtain⟨g2,r2,q2⟩:=r1.alloc h3 h4 h5
  exact key Z1 _ H1 _ g2 r2 q2
theorem FX{t:Tg}{src:State→Res (List Val)}{ft:State→Res Bool}{fe:State→Res RV}{elt tg iter:Expr}{ifs:List Expr}{scope:Scope}{cA:String→Addr}{i:Nat}{y:Str}{py spos pos:Pos}(hC:C.cA=cA)(own:List (Str×Nat)){vs:List Nat}(hvs:own.map (·.2)=vs)(hc:X.calm=true)(hN:X.N.Nodup)(hy:X.N[i]? =some y)(hyl:X.env.scope.names.lookup y=some .local)(hk:X.env.scope.kind=.function)
  (hl:(py.line==pos.line)=true) (ha:(scope.names.any fun(n,k)=>n==y&&(k== .local||k== .cell))=false) (hi:PI X tg iter (jB C src)) (ok:blkC X.N X.env.scope scope own=true)
  (hb:∀ (s:Shared) (H:Hp) (D:Addr) (cl:List (Str×Addr)) (fp:List Addr) (C':Cst),C'.cA=cA→PG (X.blk s H scope (compEnvC scope cl D X.env) fp) tg (jI C' t)∧PTs (X.blk s H scope (compEnvC scope cl D X.env) fp) ifs (dV C' ft)∧PE (X.blk s H scope (compEnvC scope cl D X.env) fp) elt (ai C' fe))
  (hs:cb iter=true) (hv:∀ i∈sJ t,i∈vs):PS X (.Assign [.Name y py] (.ListComp elt [⟨tg,iter,ifs,0⟩] scope pos) spos) (dh C (aR i (gS (fq vs t src ft fe)))):=by
 subst hvs
 have hb':Blk X C scope tg elt ifs t ft fe:=⟨fun s H D cl fp C' h=>hb s H D cl fp C' (h.trans hC)⟩
 refine tE (ps_setLc (i:=i) (g:=yN C t) (tt:=An C ft) (te:=zM C fe) hc hN hy hyl (sw_true hk hyl hl ha) hi (blkOk_by ok)
  (fun s H D cl fp=>⟨fun pins s0 sv H0 v u Q I r ⟨C',c,q⟩=>(hb'.go s H D cl fp C' c).1.run pins s0 sv H0 v u Q I r q⟩)
  (fun s H D cl fp=>⟨fun pins s0 sv H0 Q I ⟨C',c,q⟩=>(hb'.go s H D cl fp C' c).2.1.run pins s0 sv H0 Q I q⟩)
  (fun s H D cl fp=>⟨fun pins s0 sv H0 Q I ⟨C',c,q⟩=>(hb'.go s H D cl fp C' c).2.2.run pins s0 sv H0 Q I q⟩) (fold_ok hs)) fun D sv H hl h=>?_
 exact Dt hv (JR (F8 (by rw[hl];exact(List.getElem?_eq_some_iff.mp hy).1) h))
end
def Pw{C:Cst}{X:Cx}(m:Nat):Mode C X:=⟨CX0,fun _=>E0,fun σ pins H s e s' I c=>L2.pass0 pins σ H s e s' I c,kx m,fun r q hn h=>zg r q hn h⟩
end Vw
namespace L2
open PySem PySem.Spec PyProof.Rows
theorem xC:∀ {vs:List Value} {ks:List Str},StrsAre vs ks→PySem.W.EachIs (fun v (b:Str)=>∃ t,v=Value.str b t) vs ks
 | _,_,.nil=>.nil
 | _,_,.cons y t r=>.cons ⟨t,rfl⟩ (xC r)
theorem uE{h:Heap}{a:Addr}:∀ {vs:List Value} {ks:List Str},StrsAre vs ks→PySem.W.EachIs (fun v (b:Str)=>∃ as,Reads h v (PyData.str b) as∧a∉as) vs ks
 | _,_,.nil=>.nil
 | _,_,.cons y t r=>.cons ⟨[],.str y t,by simp⟩ (uE r)
theorem xG:∀ {vs:List Value} {ks:List Str},PySem.W.EachIs (fun v (b:Str)=>∃ t,v=Value.str b t) vs ks→StrsAre vs ks
 | _,_,.nil=>.nil
 | _,_,.cons ⟨t,e⟩ r=>by
  subst e
  exact .cons _ t (xG r)
theorem yt(ks:List Str):sortedS (ks.mergeSort (PySem.W.dataLe false fun b:Str=>PyData.str b))=true:=by
 refine sortedS_of_pairwise _ ?_
 rw[PySem.W.dataLe_str (fun b:Str=>b)]
 have tr:∀ a b c:Str,decide (a.cps.toList≤b.cps.toList)=true→decide (b.cps.toList≤c.cps.toList)=true→decide (a.cps.toList≤c.cps.toList)=true:=fun a b c h1 h2=>decide_eq_true (List.le_trans (of_decide_eq_true h1) (of_decide_eq_true h2))
 have to:∀ a b:Str,(decide (a.cps.toList≤b.cps.toList)||decide (b.cps.toList≤a.cps.toList))=true:=fun a b=>by
  rcases List.le_total a.cps.toList b.cps.toList with h | h
  ·rw[decide_eq_true h];rfl
  ·rw[decide_eq_true h,Bool.or_true]
 refine(List.pairwise_mergeSort tr to ks).imp fun {a b} h=>?_
 rw[ltCps_eq]
 exact decide_eq_false (fun z=>(List.not_lt.mpr (of_decide_eq_true h)) z)
section
variable{X:Cx}{o:Expr}{td:TE}{p pos apos cpos:Pos}
def IU(td:TE):TE:=fun σ H Q=>td σ H fun x H1=>∃ (a:Addr) (kvs:List (Key×V)) (ks:List Str),x=.ref a∧Rd H1 a (.dK kvs)∧kvs.map (·.1)=ks.map Sum.inr∧ks.length≤sizeLine∧
  ∀ ys q,ys.Perm ks→sortedS ys=true→H1 q=none→Q (.ref q) (upd H1 q (.lst (ys.map V.str)))
theorem xV(hcalm:X.calm=true)(hun:X.A.units+64<cLine)(hg:Gl X "sorted")(hm:X.mg "sorted"=none)(he:PE X o td)(hst:starEach [Expr.Call (.Attribute o "keys" apos) [] [] cpos] X.env=[(false,eval (Expr.Call (.Attribute o "keys" apos) [] [] cpos) X.env)])(hbase:attributeBase o "keys" X.env (eval o X.env)=eval o X.env)(hline:(apos.endLine==cpos.line)=true):PE X (.Call (.Name "sorted" p) [.Call (.Attribute o "keys" apos) [] [] cpos] [] pos) (IU td):=by
 refine⟨fun pins s σ H Q I h=>?_⟩
 refine wpAny_Call_Name_kw (ld_blt I hg hm (by rfl) ?_ (by decide) (by decide))
 refine PyProof.Rows.callWith_builtin1 ?_ (by rw[hst];rfl) (by rfl)
 rw[hst]
 show wpAny _ _ (spliced ((false,eval (Expr.Call (.Attribute o "keys" apos) [] [] cpos) X.env)::[])) _ _ s
 refine Calls.spliced_cons ?_
 refine wpAny_Call_method (T:="dict") (id:="dict.keys") hbase rfl hline F.plainAttrs_dict F.slot_dict_keys F.type_dict_keys (thn (he.run pins s σ H _ I h) fun u s1 ⟨x,H1,I1,rx,a,kvs,ks,ex,hd,hks,h64,q⟩=>?_)
 subst ex
 obtain rfl:u=Value.ref a:=rx
 obtain⟨z,lo,vs,rel,dd⟩:=dk_rd I1.hok hd
 obtain⟨ep,hat⟩:=dd.dictAt
 refine⟨hat.dictOf.typeIs,hat.dictOf.mapOf.noDict,?_⟩
 have I2:Inv X pins σ H1 { s1 with heap:=s1.heap.push { cls:=.type "dict_keys",data:=.fields #[.ref a] } }:=I1.kept (t':=s1.toks) fun b ob q=>Heap.get?_push_of_some _ q
 have hkeys:vs.map (·.1)=ks.map Sum.inr:=rel.keys.symm.trans hks
 have hl:vs.length=ks.length:=by
  have e:=congrArg List.length hkeys
  rw[List.length_map,List.length_map]at e
  exact e
 have h16:vs.length≤sizeLine:=by rw[hl];exact h64
 have hok:PySem.W.KdlKeysView (s1.heap.push { cls:=.type "dict_keys",data:=.fields #[.ref a] }) s1.heap.objs.size a∧(s1.heap.push { cls:=.type "dict_keys",data:=.fields #[.ref a] }).DictAt (mixKind X.prog X.w) a vs ep:=⟨⟨_,Heap.get?_push_size _ rfl,rfl,rfl⟩,hat.push _⟩
 have fin:wpAny (model X.prog X.w) X.A (call (.builtin "sorted") [.ref s1.heap.objs.size]) (EP X pins σ Q) X.xe { s1 with heap:=s1.heap.push { cls:=.type "dict_keys",data:=.fields #[.ref a] } }:=by
  refine Calls.call_function_entry PyProof.Rows.kind_sorted PyProof.Rows.plain_sorted PyProof.Rows.entry_sorted (PyProof.Rows.args_sorted1 _) ?_
  unfold Builtin.«sorted»
  refine wpAny_bind (m:=checkCount "sorted" 1 1 _) (wpAny_pure ?_)
  refine wpAny_bind (PySem.W.kdu_collect (A:=X.A.in1) (PySem.W.kdl_keys (knd:=mixKind X.prog X.w) (kvs:=vs) (ep:=ep)) (I2.ok.hd hcalm) hok h16 fun h' tk acc hk hacc=>?_)
  have hal:acc.toList.length=ks.length:=by rw[Array.length_toList,hacc.1,hl]
  have hS:StrsAre acc.toList ks:=strs_at hal fun j v e=>by
   obtain⟨k,x,e1,e2⟩:=hacc.2 j v (by rw[←Array.getElem?_toList];exact e)
   have e3:(vs.map (·.1))[j]? =some k:=by rw[List.getElem?_map,e1];all_goals rfl
   rw[hkeys,List.getElem?_map]at e3
   cases e4:ks[j]? with
   | none=>rw[e4]at e3;cases e3
   | some y=>
    rw[e4]at e3
    have e5:Sum.inr y=k:=Option.some.inj e3
    subst e5
    obtain⟨t,ev⟩:=Value.isStrOf_shape (x:=y) (v:=v) e2
    exact⟨y,t,rfl,ev⟩
  have I3:Inv X pins σ H1 { s1 with heap:=h',toks:=tk }:=I2.kept hk
  refine wpAny_bind (wpAny_newList ?_ (by rw[hal];exact h64))
  have hoL:(h'.push (seqObj "list" acc.toList.toArray 0)).get? h'.objs.size=some (seqObj "list" acc.toList.toArray 0):=Heap.get?_push_size _ rfl
  show wpAny _ _ _ _ _ { s1 with heap:=h'.push (seqObj "list" acc.toList.toArray 0),toks:=tk }
  refine wpAny_bind (wpAny_holding (PySem.W.list_sort_data (s:={ s1 with heap:=h'.push (seqObj "list" acc.toList.toArray 0),toks:=tk }) (R:=fun v (b:Str)=>∃ t,v=Value.str b t) (enc:=fun b:Str=>PyData.str b) (bs:=ks) hoL (xC hS) (uE hS) (fun d hd d' hd'=>?_) (.inr fun d hd=>?_) h64 (fun b hb=>?_) fun out ho eo=>?_))
  ·obtain⟨b,_,rfl⟩:=List.mem_map.mp hd
   obtain⟨b',_,rfl⟩:=List.mem_map.mp hd'
   rfl
  ·obtain⟨b,_,rfl⟩:=List.mem_map.mp hd
   exact⟨by simp,fun xs=>by simp⟩
  ·have e1:X.A.in1.units≤X.A.units+1:=Nat.le_refl _
   show X.A.in1.units+1+0<cLine
   omega
  have g1:=xG eo
  have g2:(ks.mergeSort (PySem.W.dataLe false fun b:Str=>PyData.str b)).Perm ks:=List.mergeSort_perm _ _
  have g3:=yt ks
  generalize ks.mergeSort (PySem.W.dataLe false fun b:Str=>PyData.str b)=ys at g1 g2 g3
  obtain⟨e',he'⟩:=PyProof.Rows.sortedHeap_at (vs:=acc.toList) (out:=out.toArray) hoL
  have hlen:(ys.map V.str).length≤sizeLine:=by
   rw[List.length_map,g2.length_eq]
   exact h64
  refine wpAny_pure ⟨_,rfl,.ref h'.objs.size,upd H1 h'.objs.size (.lst (ys.map V.str)),I3.laid (t':=tk) (fun b u e=>?_) (Nat.le_refl _)
   (show ObjOk X.prog X.w _ _ _ (.lst (ys.map V.str))from⟨hlen,out,e',vals_of_strs g1,he'⟩),rfl,q ys _ g2 g3 (I3.hok.fresh (Nat.le_refl _))⟩
  have hb:b<h'.objs.size:=Heap.lt_size e
  rw[PyProof.Rows.sortedHeap_old (Nat.ne_of_lt hb) (by rw[size_push'];exact Nat.lt_succ_of_lt hb)]
  exact Heap.get?_push_of_some _ e
 have fin2:wpAny (model X.prog X.w) X.A (spliced []) (fun vs s₁=>wpAny (model X.prog X.w) X.A (call (.builtin "sorted") (.ref s1.heap.objs.size::vs)) (EP X pins σ Q) X.xe s₁) X.xe { s1 with heap:=s1.heap.push { cls:=.type "dict_keys",data:=.fields #[.ref a] } }:=Calls.spliced_nil fin
 show wpAny _ _ (callWith cpos (.builtin "dict.keys") [.ref a] [] []) _ X.xe s1
 exact method_meetsIn F.slot_dict_keys F.entry_dict_keys rfl (PySem.evalArgs_none ⟨rfl,hat.dictOf.typeIs,F.args_dict_keys_1 _,_,PySem.W.kdl_meets_keys (mixKind X.prog X.w) a lo,⟨vs,hat.dictOf⟩,fin2⟩)
end
end L2
namespace Vw
open PySem L2 PyProof.Rows
def fw(rs:List RV)(s:State):Res RV:=
 match rs with
 | [x]=>match (gF s x).bind vy with
  | some ns=>if ns.length≤sizeLine then .ok (.new (.lst ((bI ns).map fun n=>.d (.str n)))) s else .stuck
  | none=>.stuck
 | _=>.stuck
section
variable{C:Cst}{Z Z' Zc:Hp}{loc loc' l':List Addr}{s s':State}{sv sv':L2.St}{H H':Hp}
variable{X:Cx}{o:Expr}{p pos apos cpos:Pos}{fo:State→Res RV}
theorem AL:lj C fw (fun xs H Q=>∃ (a:Addr) (kvs:List (Key×V)) (ks:List Str),xs=[.ref a]∧Rd H a (.dK kvs)∧kvs.map (·.1)=ks.map Sum.inr∧ks.length≤sizeLine∧∀ ys p,ys.Perm ks→sortedS ys=true→H p=none→Q (.ref p) (upd H p (.lst (ys.map V.str)))):=by
 intro Z loc s sv H rs vs Q r q h
 unfold fw at h
 split at h
 ·obtain⟨v,t,rfl,st,q1,q2⟩:=q
  cases q2
  split at h
  ·rename_i ns e
   split at h
   ·rename_i hl
    obtain⟨l,e1,e2⟩:=Option.bind_eq_some_iff.mp e
    obtain⟨a,ws,rfl,h1,h2⟩:=r.gF q1 e1
    refine⟨a,ws,ns.map hJ,rfl,h1,A6 e2 h2,by simpa using hl,fun ys p h3 h4 np=>?_⟩
    rw[sorted_strs h3 h4]
    exact h.new r np (by simp) ⟨_,upd_same,pw _⟩
   ·exact h.elim
  ·exact h.elim
 ·exact h.elim
theorem jt(hcalm:X.calm=true)(hu:X.A.units+64<cLine)(hg:Gl X "sorted")(hm:X.mg "sorted"=none)(he:PE X o (ai C fo))(hst:starEach [Expr.Call (.Attribute o "keys" apos) [] [] cpos] X.env=[(false,eval (Expr.Call (.Attribute o "keys" apos) [] [] cpos) X.env)])(hbase:attributeBase o "keys" X.env (eval o X.env)=eval o X.env)(hline:(apos.endLine==cpos.line)=true):PE X (.Call (.Name "sorted" p) [.Call (.Attribute o "keys" apos) [] [] cpos] [] pos) (ai C (di (aq [fo]) fw)):=by
 refine aV (xV hcalm hu hg hm he hst hbase hline) fun sv H Q ⟨Z,loc,s,r,q⟩=>?_
 have q:EPost C Z loc sv ((ev fo s).bind fun x s=>fw [x] s) Q:=by rw[←xO];exact q
 refine(ai.iZ r q).imp fun v H1 ⟨Z1,l1,s1,y,g1,r1,st1,q1,h1⟩=>?_
 obtain⟨a,kvs,ks,e,h⟩:=AL Z1 l1 s1 sv H1 [y] [v] Q r1 ⟨v,[],rfl,st1,q1,rfl⟩ h1
 cases e
 exact⟨a,kvs,ks,rfl,h⟩
end
end Vw
namespace K06
open PySem L2 PyProof.Rows Vw
noncomputable section
abbrev iu(K:PySem.W.Frag)(x q:Str)(st:Stmt)(f:Addr)(fd:FuncData):Prop:=FunD K x q (defArgs st) (defBody st) (defScope st) [] [] f fd
def kn:=aR 4 (cu [])
def kd:=aR 5 (aa 0)
def jF:=ak [(gI (jd [(b9 (aa 3)),(b9 (aw (di (aq [(aa 0)]) yD) (aw (fD (.int 10)) (fD (.int 18)) (binop .pow)) (aS .ge))),(b9 (aw (aa 5) (fD (.int 0)) (aS .ne))),(b9 (aw (aa 5) (tj (fD (.int 1))) (aS .ne)))]) (ak [(dw (fX "list" (aa 4) (aq [(aw (aa 5) (aa 2) (binop .mod))]) bAppend cf)),(aR 5 (aw (aa 5) (aa 2) (binop .fdiv)))]) (ak [(aR 7 (aw (aw (aa 0) (aw (fD (.int 7919)) (aa 6) (binop .mul)) (binop .add)) (fD (.int 2147483629)) (binop .mod))),(aR 7 (aw (aw (aw (aa 7) (aa 7) (binop .mul)) (aa 6) (binop .add)) (fD (.int 2147483629)) (binop .mod))),(dw (fX "list" (aa 4) (aq [(aw (aw (aw (aa 7) (aa 7) (binop .mul)) (fD (.int 2147483587)) (binop .mod)) (aa 2) (binop .mod))]) bAppend cf))]))]
def j7:=dc (.nm 6) (lY (aq [(aa 1)]) mU) jF
def kj:=bV (aa 4)
def jD:=ak [kn,kd,j7,kj]
def c9:Fn:=dS 8 jD
def wz:=aw (aa 3) (aa 4) eQ
def kY:=gI (b9 (aw (aw (aa 0) (fD (.int 2)) (binop .mod)) (fD (.int 0)) (aS .eq))) (ak [(aR 3 (fD (.str (sS " !\"#$&'()*+,-./0123456789:;<=>?@ABCDEFGHIJKLMNOPQRSTUVWXYZ[\\]^_")))),(aR 3 (aw (aa 3) (fD (.str (sS "`abcdefghijklmnopqrstuvwxyz{|}~"))) (binop .add))),(aR 1 (cw 4 (aq [(aw (aa 0) (fD (.int 2)) (binop .fdiv)),(fD (.int 25)),(di (aq [(aa 3)]) j8),(fD (.bl true))]) c9)),(bV (fX "str" (fD (.str (sS ""))) (aq [(fq [4] (.nm 4) (sD (yq (aa 1) (.ex (fD (.int 1))) (.ex (aw (fD (.int 1)) (aw (aw (aa 1) (fD (.int 0)) eQ) (fD (.int 25)) (binop .mod)) (binop .add)))) itemsOf) bZ wz)]) rJ oP))]) (ak [])
def k7:=aR 1 (cw 4 (aq [(aa 0),(fD (.int 14)),(fD (.int 12)),(fD (.bl false))]) c9)
def lb:=aR 2 (cu [(fD (.str (sS "ab"))),(fD (.str (sS "Ab"))),(fD (.str (sS "b"))),(fD (.str (sS "ba"))),(fD (.str (sS "a1"))),(fD (.str (sS ""))),(fD (.str (sS "1"))),(fD (.str (sS "abc"))),(fD (.str (sS "b, a"))),(fD (.str (sS "c"))),(fD (.str (sS "A-B"))),(fD (.str (sS "ab")))])
def wM:=aw (aa 2) (aa 4) eQ
def k4:=bV (fX "str" (fD (.str (sS " "))) (aq [(fq [4] (.nm 4) (sD (yq (aa 1) (.ex (fD (.int 1))) (.ex (aw (fD (.int 1)) (aw (aa 1) (fD (.int 0)) eQ) (binop .add)))) itemsOf) bZ wM)]) rJ oP)
def kB:=ak [kY,k7,lb,k4]
def hU:Fn:=dS 5 kB
def rZ:=aR 2 (cw 4 (aq [(aa 0),(fD (.int 4)),(fD (.int 9)),(fD (.bl true))]) c9)
def rW:=aR 3 (cu [])
def qB:=ak [(gI (b9 (aw (fX "list" (cu [(fD (.str (sS "a"))),(fD (.str (sS "ab"))),(fD (.str (sS "b"))),(fD (.str (sS "body"))),(fD (.str (sS "c"))),(fD (.str (sS "title"))),(fD (.str (sS "tit"))),(fD (.str (sS "z"))),(fD (.str (sS "zz")))]) (aq [(aa 4)]) x7 cf) (yq (aa 2) (.ex (fD (.int 1))) (.ex (aw (fD (.int 1)) (aw (aw (aa 2) (fD (.int 0)) eQ) (fD (.int 4)) (binop .mod)) (binop .add)))) (aS .isin))) (ak [(dw (fX "list" (aa 3) (aq [(aa 4)]) bAppend cf))]) (ak []))]
def rV:=dc (.nm 4) (sD (cu [(fD (.str (sS "a"))),(fD (.str (sS "ab"))),(fD (.str (sS "b"))),(fD (.str (sS "body"))),(fD (.str (sS "c"))),(fD (.str (sS "title"))),(fD (.str (sS "tit"))),(fD (.str (sS "z"))),(fD (.str (sS "zz")))]) itemsOf) qB
def qD:=gi [(aa 4),(cw 1 (aq [(aw (aa 1) (aw (fD (.int 1)) (aw (fD (.int 3)) (aa 5) (binop .mul)) (binop .add)) (binop .fdiv))]) hU)]
def sk:=bV (fq [5,4] (.tp [(.nm 5),(.nm 4)]) (sD (di (aq [(aa 3)]) tZ) gG) bZ qD)
def nI:=ak [rZ,rW,rV,sk]
def fR:Fn:=dS 6 nI
def v9:=aR 1 (cu [])
def vv:=aR 2 (tj (fD (.int 1)))
def uf:=ak [(aR 4 (aw (aa 0) (aa 3) eQ)),(aR 2 (aw (aw (aa 2) (fD (.int 1)) (binop .add)) (aw (cu [(aw (aw (aa 4) (fD (.int 4)) (binop .fdiv)) (fD (.int 9)) (binop .mod)),(aw (aw (aa 4) (fD (.int 4)) (binop .fdiv)) (aw (fD (.int 10)) (fD (.int 40)) (binop .pow)) (binop .mod))]) (di (aq [(aw (aw (aa 4) (fD (.int 4)) (binop .mod)) (fD (.int 3)) (aS .eq))]) CH) eQ) (binop .add))),(dw (fX "list" (aa 1) (aq [(gi [(aa 2),(cw 2 (aq [(aw (aa 4) (fD (.int 4)) (binop .fdiv)),(aw (aa 0) (aw (aa 3) (fD (.int 1)) (binop .add)) eQ)]) fR)])]) bAppend cf))]
def vC:=dc (.nm 3) (lY (aq [(fD (.int 1)),(di (aq [(fD (.int 21)),(aw (di (aq [(aa 0)]) j8) (fD (.int 1)) (binop .sub))]) yb),(fD (.int 2))]) uz) uf
def vS:=bV (aa 1)
def qV:=ak [v9,vv,vC,vS]
def gH:Fn:=dS 5 qV
def yU:=aw (aa 1) (fD (.str (sS "abcdefghijklmnopqrstuvwxyz"))) (aS .isin)
def AI:=bV (ie [(Et (fD (.int 0)) (di (aq [(aa 0)]) j8) (fD (.int 12)) (aS .lt) (aS .le)),(di (aq [(fq [1] (.nm 1) (sD (aa 0) itemsOf) bZ yU)]) CO)])
def xt:=ak [AI]
def kK:Fn:=dS 2 xt
def oY:=aR 1 (fD (.str (sS "")))
def ox:=ak [(gI (kT [(rg (b9 (cw 1 (aq [(aa 3)]) kK))),(b9 (aw (aa 3) (aa 1) (aS .le)))]) (ak [(oh "NoField" (aa 2))]) (ak [])),(aR 1 (aa 3))]
def oT:=dc (.tp [(.nm 2),(.tp [(.nm 3),(.nm 4)])]) (sD (aa 0) gG) ox
def kG:=ak [oY,oT]
def dq:Fn:=dS 5 kG
def rY:=aR 1 (tj (fD (.int 1)))
def kP:=ak [(gI (b9 (aw (aa 3) (aa 1) (aS .le))) (ak [(oh "NoMake" (aa 2))]) (ak [])),(aR 1 (aa 3)),(dw (jL 1 (aq [(aa 4)]) dq))]
def sf:=xb 0 (uV (.tp [(.nm 2),(.tp [(.nm 3),(.nm 4)])]) (aa 0) kP) (dc (.tp [(.nm 2),(.tp [(.nm 3),(.nm 4)])]) (sD (aa 0) gG) kP)
def nF:=ak [rY,sf]
def c6:Fn:=dS 5 nF
def AR:=gI (b9 (aw (aa 0) (fD (.str (sS "ABCDEFGHIJKLMNOPQRSTUVWXYZ"))) (aS .isin))) (ak [(bV (aw (fD (.str (sS "abcdefghijklmnopqrstuvwxyz"))) (fX "str" (fD (.str (sS "ABCDEFGHIJKLMNOPQRSTUVWXYZ"))) (aq [(aa 0)]) bIndex oP) eQ))]) (ak [])
def AS:=gI (kT [(b9 (aw (aa 0) (fD (.str (sS "abcdefghijklmnopqrstuvwxyz"))) (aS .isin))),(b9 (aw (aa 0) (fD (.str (sS "0123456789"))) (aS .isin)))]) (ak [(bV (aa 0))]) (ak [])
def AM:=bV (fD (.str (sS "")))
def xD:=ak [AR,AS,AM]
def kH:Fn:=dS 1 xD
def Ae:=aR 1 (cu [])
def Ar:=aR 2 (fD (.str (sS "")))
def xW:=ak [(aR 5 (cw 1 (aq [(aa 4)]) kH)),(gI (jd [(b9 (aw (aa 5) (fD (.str (sS ""))) (aS .eq))),(b9 (aw (aa 2) (fD (.str (sS ""))) (aS .ne)))]) (ak [(dw (fX "list" (aa 1) (aq [(gi [(aa 2),(aw (aa 3) (di (aq [(aa 2)]) j8) (binop .sub)),(aa 3)])]) bAppend cf)),(aR 2 (fD (.str (sS ""))))]) (ak [])),(aR 2 (aw (aa 2) (aa 5) (binop .add)))]
def Ac:=dc (.tp [(.nm 3),(.nm 4)]) (sD (aw (aa 0) (fD (.str (sS " "))) (binop .add)) gG) xW
def Ak:=bV (aa 1)
def uL:=ak [Ae,Ar,Ac,Ak]
def jT:Fn:=dS 6 uL
def AN:=aR 1 cN
def Ag:=ak [(fu (aa 4) (aa 6) (aw (fY (aa 4) (aa 6) (cu [])) (cu [(aa 5)]) (binop .add))),(pk 5 .add (fD (.int 1)))]
def zv:=ak [(aR 4 cN),(aR 5 (fD (.int 0))),(dc (.tp [(.nm 6),(.nm 7),(.nm 8)]) (sD (cw 1 (aq [(aa 3)]) jT) itemsOf) Ag),(gI (b9 (aw (aa 5) (fD (.int 0)) (aS .gt))) (ak [(fu (aa 1) (aa 2) (gi [(aa 5),(aa 4)]))]) (ak []))]
def AQ:=dc (.tp [(.nm 2),(.nm 3)]) (sD (aa 0) itemsOf) zv
def AO:=bV (aa 1)
def xj:=ak [AN,AQ,AO]
def gR:Fn:=dS 9 xj
def qA:=aR 4 (mu (iy (eB fT "table" (aa 0)) (aa 1) cN))
def ip:=fu (eB fT "table" (aa 0)) (aa 1) (aa 4)
def pW:=ak [(fu (aa 4) (aa 5) (aw (fY (aa 4) (aa 5) (cu [])) (cu [(gi [(aa 2),(aw (aa 3) (aa 5) eQ)])]) (binop .add)))]
def iM:=dc (.nm 5) (sD (aa 3) keysOf) pW
def mL:=ak [qA,ip,iM]
def dX:Fn:=dS 6 mL
def p4:=dw (jL 1 (aq [(aa 1)]) c6)
def pX:=ni fT "held_makes" (aa 0) (oE 1 (qt [2,3] (.tp [(.nm 2),(.nm 3)]) (aa 1) bZ (aa 2)) (fq [2,3] (.tp [(.nm 2),(.nm 3)]) (sD (aa 1) itemsOf) bZ (aa 2)))
def pY:=ni fT "lengths" (aa 0) (gS yc)
def pV:=ni fT "table" (aa 0) (gS cN)
def gZ:=ak [(fu (eB fT "lengths" (aa 0)) (gi [(aa 2),(aa 4)]) (aa 5)),(dw (cc bF "Piece" "take_in" 4 (aa 0) (aq [(aa 4),(aa 2),(aa 6)]) dX))]
def e9:=ak [(dc (.tp [(.nm 4),(.tp [(.nm 5),(.nm 6)])]) (sD (cw 1 (aq [(aa 3)]) gR) pairsOf) gZ)]
def p0:=xb 1 (jJ (.tp [(.nm 2),(.nm 3)]) (aa 1) e9) (dc (.tp [(.nm 2),(.nm 3)]) (sD (aa 1) itemsOf) e9)
def ly:=ak [p4,pX,pY,pV,p0]
def bY:Fn:=dS 7 ly
def tN:=bV (di (aq [(eB fT "held_makes" (aa 0))]) lM)
def oj:=ak [tN]
def cM:Fn:=dS 1 oj
def wx:=aR 1 (cu [])
def vK:=aR 2 (fD (.str (sS "")))
def ua:=ak [(gI (b9 (aw (aa 3) (fD (.str (sS "abcdefghijklmnopqrstuvwxyzABCDEFGHIJKLMNOPQRSTUVWXYZ0123456789"))) (aS .isin))) (ak [(aR 2 (aw (aa 2) (fX "str" (aa 3) (aq []) ug oP) (binop .add)))]) (ak [(gI (b9 (aw (aa 2) (fD (.str (sS ""))) (aS .ne))) (ak [(dw (fX "list" (aa 1) (aq [(aa 2)]) bAppend cf)),(aR 2 (fD (.str (sS ""))))]) (ak []))]))]
def wR:=dc (.nm 3) (sD (aw (aa 0) (fD (.str (sS " "))) (binop .add)) itemsOf) ua
def wC:=bV (aa 1)
def qj:=ak [wx,vK,wR,wC]
def en:Fn:=dS 4 qj
def wK:=aR 1 (gS cN)
def m3:=ak [(aR 8 (mu (iy (aa 1) (aa 4) cN))),(fu (aa 1) (aa 4) (aa 8)),(aR 9 (mu (iy (aa 8) (aa 7) cN))),(fu (aa 8) (aa 7) (aa 9)),(fu (aa 9) (aa 2) (aw (fY (aa 9) (aa 2) (cu [])) (cu [(aa 6)]) (binop .add)))]
def nr:=ak [(dc (.tp [(.nm 6),(.nm 7)]) (sD (cw 1 (aq [(aa 5)]) en) gG) m3)]
def m8:=ak [(dc (.tp [(.nm 4),(.nm 5)]) (sD (aa 3) itemsOf) nr)]
def vH:=dc (.tp [(.nm 2),(.nm 3)]) (sD (aa 0) itemsOf) m8
def vJ:=bV (aa 1)
def rl:=ak [wK,vH,vJ]
def eg:Fn:=dS 10 rl
def rX:=bV (di (aq [(eB fT "table" (aa 0))]) fw)
def nE:=ak [rX]
def eF:Fn:=dS 1 nE
def sY:=bV (di (aq [(fY (eB fT "table" (aa 0)) (aa 1) cN)]) fw)
def ot:=ak [sY]
def cj:Fn:=dS 2 ot
def cO:=gi [(aa 1),(gS (di (aq [(aa 2)]) lM))]
def p5:=bV (fq [1,2] (.tp [(.nm 1),(.nm 2)]) (sD (aa 0) itemsOf) bZ cO)
def lx:=ak [p5]
def dO:Fn:=dS 3 lx
def pZ:=bV (cw 1 (aq [(fY (fY (eB fT "table" (aa 0)) (aa 1) cN) (aa 2) (cu []))]) dO)
def lz:=ak [pZ]
def aU:Fn:=dS 3 lz
def sj:=bV (fY (eB fT "lengths" (aa 0)) (gi [(aa 1),(aa 2)]) (fD (.int 0)))
def nc:=ak [sj]
def eS:Fn:=dS 3 nc
def wQ:=aR 2 (yd 6 1 (aq [(aa 1)]) eg)
def wm:=gI (b9 (aw (cc bF "Piece" "fields" 1 (aa 0) (aq []) eF) (di (aq [(aa 2)]) fw) (aS .ne))) (ak [(bV (fD (.bl false)))]) (ak [])
def t6:=gi [(aa 8),(aw (aa 6) (aa 8) eQ)]
def tX:=b9 (Cz "bool" (aa 11))
def nK:=ak [(gI (b9 (aw (fq [11] (.nm 11) (sD (aw (cu [(aa 8)]) (aa 10) (binop .add)) itemsOf) tX (aa 11)) (cu []) (aS .ne))) (ak [(bV (fD (.bl false)))]) (ak []))]
def nM:=ak [(aR 6 (fY (aa 4) (aa 5) cN)),(aR 7 (cc (kx 6) "Piece" "postings" 3 (aa 0) (aq [(aa 3),(aa 5)]) aU)),(gI (b9 (aw (aa 7) (fq [8] (.nm 8) (sD (di (aq [(aa 6)]) lT) itemsOf) bZ t6) (aS .ne))) (ak [(bV (fD (.bl false)))]) (ak [])),(dc (.tp [(.nm 8),(.nm 10)]) (sD (aa 7) itemsOf) nK)]
def mW:=ak [(gI (b9 (aw (cc bF "Piece" "length" 3 (aa 0) (aq [(aa 8),(aa 3)]) eS) (di (aq [(cw 1 (aq [(fY (di (aq [(aa 9)]) t8) (aa 3) (fD (.str (sS ""))))]) en)]) j8) (aS .ne))) (ak [(bV (fD (.bl false)))]) (ak []))]
def nq:=ak [(aR 4 (fY (aa 2) (aa 3) cN)),(gI (b9 (aw (cc bF "Piece" "words" 2 (aa 0) (aq [(aa 3)]) cj) (di (aq [(aa 4)]) fw) (aS .ne))) (ak [(bV (fD (.bl false)))]) (ak [])),(dc (.nm 5) (sD (aw (di (aq [(aa 4)]) fw) (cu [(fD (.str (sS "nothing")))]) (binop .add)) itemsOf) nM),(dc (.tp [(.nm 8),(.nm 9)]) (sD (aa 1) itemsOf) mW)]
def vP:=dc (.nm 3) (sD (aw (di (aq [(aa 2)]) fw) (cu [(fD (.str (sS "nothing")))]) (binop .add)) itemsOf) nq
def vY:=bV (fD (.bl true))
def qK:=ak [wQ,wm,vP,vY]
def dI:Fn:=dS 12 qK
def wO:=dw (fX "list" (gS (cc bF "Piece" "makes" 1 (aa 0) (aq []) cM)) (aq [(fD (.int 7))]) bAppend cf)
def vB:=dw (fX "list" (gS (cc bF "Piece" "fields" 1 (aa 0) (aq []) eF)) (aq [(fD (.str (sS "odd")))]) bAppend cf)
def f7:=ak [(dw (fX "list" (aa 6) (aq [(fD (.int 99))]) bAppend cf))]
def nB:=ak [(aR 4 (gS (cc bF "Piece" "postings" 3 (aa 0) (aq [(aa 2),(aa 3)]) aU))),(jJ (.tp [(.nm 5),(.nm 6)]) (aa 4) f7),(dw (fX "list" (aa 4) (aq []) n8 cf))]
def mV:=ak [(dw (fX "list" (gS (cc bF "Piece" "words" 2 (aa 0) (aq [(aa 2)]) cj)) (aq [(fD (.str (sS "odd")))]) bAppend cf)),(dc (.nm 3) (sD (cc bF "Piece" "words" 2 (aa 0) (aq [(aa 2)]) cj) itemsOf) nB)]
def vn:=dc (.nm 2) (sD (cc bF "Piece" "fields" 1 (aa 0) (aq []) eF) itemsOf) mV
def qq:=ak [wO,vB,vn]
def fC:Fn:=dS 7 qq
def BB:=aR 1 (cw 1 (aq [(aa 0)]) gH)
def jg:=gi [(aa 4),(gS (di (aq [(aa 5)]) lM))]
def Bc:=aR 2 (gS (fq [4,5] (.tp [(.nm 4),(.nm 5)]) (sD (aa 1) itemsOf) bZ jg))
def Bi:=aR 3 (uk 6 "Piece" 2 (aq [(aa 2)]) bY)
def HU:=gI (kT [(b9 (aw (aa 2) (aa 1) (oS 6 true))),(b9 (aw (cc bF "Piece" "makes" 1 (aa 3) (aq []) cM) (fq [4,5] (.tp [(.nm 4),(.nm 5)]) (sD (aa 1) itemsOf) bZ (aa 4)) (aS .ne))),(rg (b9 (cw 2 (aq [(aa 3),(aa 1)]) dI)))]) (ak [(bV (fD (.bl false)))]) (ak [])
def l0:=ak [(dw (fX "list" (aa 5) (aq [(gi [(fD (.str (sS "zzz"))),(fD (.str (sS "odd one")))])]) bAppend cf))]
def wu:=jJ (.tp [(.nm 4),(.nm 5)]) (aa 2) l0
def wy:=dw (fX "list" (aa 2) (aq []) n8 cf)
def vF:=dw (Cr 2 (aq [(aa 3),(aa 1)]) fC)
def A4:=gI (kT [(b9 (aw (cc bF "Piece" "length" 3 (aa 3) (aq [(aw (fD (.int 10)) (fD (.int 50)) (binop .pow)),(fD (.str (sS "a")))]) eS) (fD (.int 0)) (aS .ne))),(b9 (aw (cc bF "Piece" "postings" 3 (aa 3) (aq [(fD (.str (sS "odd"))),(fD (.str (sS "odd")))]) aU) (cu []) (aS .ne))),(b9 (aw (cc bF "Piece" "words" 2 (aa 3) (aq [(fD (.str (sS "odd")))]) cj) (cu []) (aS .ne)))]) (ak [(bV (fD (.bl false)))]) (ak [])
def vA:=bV (ie [(aw (cc bF "Piece" "makes" 1 (aa 3) (aq []) cM) (fq [4,5] (.tp [(.nm 4),(.nm 5)]) (sD (aa 1) itemsOf) bZ (aa 4)) (aS .eq)),(cw 2 (aq [(aa 3),(aa 1)]) dI)])
def G8:=ak [BB,Bc,Bi,HU,wu,wy,vF,A4,vA]
def uw:Fn:=dS 6 G8
end
end K06
namespace Vw
open PySem L2 PyProof.Rows
def zD{T:Type}(g:Fn)(ds:List D)(m:M T)(e:T→D):Prop:=
 match m with
 | .ok v=>∀ s,oH 6 (g (ds.map .d) []) s=.ok (.val (.d (e v))) s
 | _=>True
section
variable{R R':List Ob→Prop}{p p':Pt}{σ σ':List Ob}{α β γ T U W A B C Q:Type}{i j n:Nat}{w:Bool}
theorem I5{k:Nat}{fs:List (State→Res RV)}{g:Fn}{mA:M A}{rs:A→List RV}{P:A→Pt}{S:A→List Ob}{ds:A→List D}{Q:A→Pt}{mg:A→M T}{e:A→T→D}{post:T→RV×Pt×List Ob}(h:Ev R p σ (aq fs) mA (fun v=>(rs v,P v,S v)))(hc:∀ v,Cap (S v) (P v) (rs v) ((ds v).map .d) (Q v))(hl:∀ v,(ds v).length=k)(hg:∀ v,zD g (ds v) (mg v) (e v))(hp:∀ v w,post w=(.val (.d (e v w)),Q v,S v)):Ev R p σ (yd 6 k (aq fs) g) (mA.bind fun v=>nox (mg v)) post:=by
 refine Ev.bind h fun v sg hf=>?_
 obtain⟨sg2,e2,hf2⟩:=(hc v).run sg hf
 have hg:=hg v
 show Rn R ((aI (rs v) ⟨sg,S v⟩).bind fun args s=>if args.length=k then kx 6 g args s else .stuck) (nox (mg v)) post
 rw[e2,Res.ae,if_pos (by rw[List.length_map];exact hl v)]
 unfold kx
 rw[qc]
 cases hm:mg v with
 | ok w=>
  rw[hm]at hg
  exact⟨sg2,by rw[hp v w];exact hg _,by rw[hp v w];exact hf2⟩
 | exc x=>trivial
 | bad=>trivial
theorem F0{k:Nat}{fs:List (State→Res RV)}{g:Fn}{a:A}{rs:A→List RV}{P:A→Pt}{S:A→List Ob}{ds:List D}{Q:Pt}{mg:M T}{e:T→D}{post:T→RV×Pt×List Ob}(h:Ev R p σ (aq fs) (.ok a) (fun v=>(rs v,P v,S v)))(hc:Cap (S a) (P a) (rs a) (ds.map .d) Q)(hl:ds.length=k)(hg:zD g ds mg e)(hp:∀ w,post w=(.val (.d (e w)),Q,S a)):Ev R p σ (yd 6 k (aq fs) g) (nox mg) post:=
 I5 (mA:=M.ok a) (ds:=fun _=>ds) (Q:=fun _=>Q) (mg:=fun _=>mg) (e:=fun _=>e) (rs:=fun _=>rs a) (P:=fun _=>P a) (S:=fun _=>S a) (Ev.cI h rfl) (fun _=>hc) (fun _=>hl) (fun _=>hg) (fun _=>hp)
theorem Fd{c m:String}{k:Nat}{fo:State→Res RV}{fs:List (State→Res RV)}{g:Fn}{b:B}{xo:B→D}{Po:B→Pt}{So:B→List Ob}{a:A}{rs:A→List RV}{P:A→Pt}{S:A→List Ob}{ds:List D}{Q:Pt}{mg:M T}{e:T→D}{post:T→RV×Pt×List Ob}(ho:Ev R p σ (ev fo) (.ok b) (fun b=>(.val (.d (xo b)),Po b,So b)))(hi:yC (Po b) (So b) (.d (xo b)) c m)(h:Ev R (Po b) (So b) (aq fs) (.ok a) (fun v=>(rs v,P v,S v)))(hc:Cap (S a) (P a) (rs a) (ds.map .d) Q)(hl:ds.length+1=k)(hg:zD g (xo b::ds) mg e)(hp:∀ w,post w=(.val (.d (e w)),Q,S a)):Ev R p σ (cc (kx 6) c m k fo (aq fs) g) (nox mg) post:=by
 obtain⟨fl,hi1,hi2⟩:=hi
 refine Ev.aZ ho fun sg hf=>?_
 dsimp only
 rw[hi1 sg hf]
 dsimp only
 rw[if_pos ⟨rfl,hi2⟩]
 refine Ev.aZ h (fun sg hf=>?_) sg hf
 obtain⟨sg2,e2,hf2⟩:=hc.run sg hf
 show Rn R ((aI (rs a) ⟨sg,S a⟩).bind fun args s=>if args.length+1=k then kx 6 g (.d (xo b)::args) s else .stuck) (nox mg) post
 rw[e2,Res.ae,if_pos (by rw[List.length_map];exact hl)]
 unfold kx
 rw[show(Val.d (xo b)::ds.map Val.d)=(xo b::ds).map Val.d from rfl,qc]
 cases hm:mg with
 | ok w=>
  rw[hm]at hg
  exact⟨sg2,by rw[hp w];exact hg _,by rw[hp w];exact hf2⟩
 | exc x=>trivial
 | bad=>trivial
theorem CN{fo fk fd:State→Res RV}{e:T→D}{l:List (List Nat×T)}{a:A}{ro:A→RV}{k:List Nat}{d:T}(ho:Ev R p σ (ev fo) (.ok a) (fun v=>(ro v,p,σ)))(hd:vd p σ (ro a) e l)(hk:Ev R p σ (ev fk) (.ok k) (pD .str p σ))(hx:Ev R p σ (ev fd) (.ok d) (pD e p σ)):Ev R p σ (fY fo fk fd) (.ok ((eX l k).getD d)) (pD e p σ):=by
 refine Ev.aZ ho fun sg hf=>?_
 dsimp only
 rw[Ek hd hf,if_pos rfl]
 refine Ev.aZ hk (Ev.aZ hx fun sg hf=>?_) sg hf
 dsimp only
 rw[zF hd hf]
 cases h:eX l k with
 | none=>exact⟨sg,by rw[show aA l k=none from h];rfl,hf⟩
 | some x=>exact⟨sg,by rw[show aA l k=some x from h];rfl,hf⟩
theorem zk{e:T→D}:∀ l:List (List Nat×T),mN (l.map fun x=>Val.d (aj D.str e x))=some (l.map fun x=>(K0.s x.1,Val.d (e x.2)))
 | []=>rfl
 | x::l=>by rw[List.map_cons,mN,zk l];rfl
theorem HI{e:T→D}{l:List (List Nat×T)}{r:RV}(h:Lv p σ r (aj D.str e) l):Ev R p σ (t8 [r]) (.ok (gE [] l)) (pN (bG e) p σ):=Ev.at (r:=fun v=>RV.new (bG e v)) fun sg hf=>by
 rw[Iy,(h sg hf).1,Option.bind_some,zk]
 dsimp only
 have:=sE K0.s p6 (fun x=>Val.d (e x)) l []
 rw[List.map_nil]at this
 rw[this]
def tM(t:List Nat):M (List Nat):=(gd (decide (t.length≤5592405))).bind fun _=>.ok (Lo t)
theorem Nu{t:List Nat}:Ev R p σ (ug (.val (.d (.str t))) []) (tM t) (pD .str p σ):=Ev.gd (r:=fun v=>RV.val (Val.d (D.str v))) fun h sg _=>by
 show(if t.length≤5592405 then _ else _)=_
 rw[if_pos (of_decide_eq_true h)];rfl
@[irreducible] def ig(l:List (List Nat)):M (List (List Nat)):=(gd (decide (l.length≤sizeLine))).bind fun _=>.ok (bI l)
theorem km{e:T→D}{l:List (List Nat×T)}{r:RV}(h:vd p σ r e l):Ev R p σ (fw [r]) (ig (l.map (·.1))) (Bh .str p σ):=by
 unfold ig
 refine Ev.gd (r:=fun v=>RV.new (oL D.str v)) fun hl sg hf=>?_
 show(match (gF _ r).bind vy with | some ns=>if ns.length≤sizeLine then Res.ok (RV.new (.lst ((bI ns).map fun n=>.d (.str n)))) _ else Res.stuck | none=>Res.stuck)=_
 rw[h sg hf,Option.bind_some,Ds]
 dsimp only
 rw[if_pos (of_decide_eq_true hl)]
end
end Vw
namespace Vw
open PySem L2
section
variable{R:List Ob→Prop}{p:Pt}{σ:List Ob}
@[irreducible] def zl(i j c:Int):M (List Int):=x8 i j c
theorem N1{a b c:Int}:Ev R p σ (uz [.val (.d (.int a)),.val (.d (.int b)),.val (.d (.int c))]) (zl a b c) (pS (fun x=>.d (.int x)) p σ):=by
 unfold zl;exact OO
end
end Vw
namespace K06
open PySem L2 PyProof.Rows Vw
def gq(aB:Int)(gc:Int)(dz:Int)(fJ:Bool):M ((List Int)):=((vG 0 gc).bind fun a1=>foldM (fun(c2:List Int×Int) (k3:Int)=>(((andM (M.ok fJ) (andM ((o3 (10:Int) (18:Int)).bind fun a4=>M.ok (decide (a4≤(if aB<0 then-aB else aB)))) (M.ok ((!(eqB c2.2 (0:Int)))&&(!(eqB c2.2 (-(1:Int)))))))).bind fun b5=>if b5=true then((((pf c2.2 dz).bind fun a24=>(M.ok ()).bind fun w25=>M.ok (a24,w25)).bind fun z26=>gx c2.1 z26.1).bind fun kr=>(tO c2.2 dz).bind fun lV=>M.ok (kr,lV))else((((mulM (7919:Int) k3).bind fun a29=>M.ok (aB+a29)).bind fun a30=>M.ok (a30%(2147483629:Int))).bind fun gj=>(((mulM gj gj).bind fun a32=>M.ok (a32+k3)).bind fun a33=>M.ok (a33%(2147483629:Int))).bind fun fE=>(((((mulM fE fE).bind fun a35=>M.ok (a35%(2147483587:Int))).bind fun a36=>pf a36 dz).bind fun a37=>(M.ok ()).bind fun w38=>M.ok (a37,w38)).bind fun z39=>gx c2.1 z39.1).bind fun lW=>M.ok (lW,c2.2))):M (List Int×Int)).bind fun j23=>M.ok (j23.1,j23.2)) (([]:List Int),aB) a1).bind fun r41=>M.ok (r41.1)
theorem mC{R:List Ob→Prop}{σ:List Ob}{aB:Int}{gc:Int}{dz:Int}{fJ:Bool}:dW R c9 [.d (D.int aB),.d (D.int gc),.d (D.int dz),.d (D.bl fJ)] σ (gq aB gc dz fJ) (fun v=>(.new ((oL D.int) v),σ)):=(fH (dr [some (.v (.d (D.int aB))),some (.v (.d (D.int gc))),some (.v (.d (D.int dz))),some (.v (.d (D.bl fJ))),some (.own ((oL D.int) ([]:List Int))),none,none,none] (pI (Ev.cI (post2:=(pN (oL D.int) _ _)) (cq (l:=fun _=>([]:List Int)) (e:=D.int) au (fun _=>.nil) (fun _=>rfl) (fun _=>rfl)) rfl)) rfl (dr [some (.v (.d (D.int aB))),some (.v (.d (D.int gc))),some (.v (.d (D.int dz))),some (.v (.d (D.bl fJ))),some (.own ((oL D.int) ([]:List Int))),some (.v (.d (D.int aB))),none,none] (e6 (ao (a:=aB) (e:=D.int) rfl)) rfl (jm (jE (P:=fun(c2:List Int×Int)=>[some (.v (.d (D.int aB))),some (.v (.d (D.int gc))),some (.v (.d (D.int dz))),some (.v (.d (D.bl fJ))),some (.own ((oL D.int) c2.1)),some (.v (.d (D.int c2.2))),none,none]) (S:=fun(c2:List Int×Int)=>σ) (lA:=(fun(a1:List Int)=>a1)) (c0:=fun(a1:List Int)=>(([]:List Int),aB)) (mb:=(fun(c2:List Int×Int) (k3:Int)=>(((andM (M.ok fJ) (andM ((o3 (10:Int) (18:Int)).bind fun a4=>M.ok (decide (a4≤(if aB<0 then-aB else aB)))) (M.ok ((!(eqB c2.2 (0:Int)))&&(!(eqB c2.2 (-(1:Int)))))))).bind fun b5=>if b5=true then((((pf c2.2 dz).bind fun a24=>(M.ok ()).bind fun w25=>M.ok (a24,w25)).bind fun z26=>gx c2.1 z26.1).bind fun kr=>(tO c2.2 dz).bind fun lV=>M.ok (kr,lV))else((((mulM (7919:Int) k3).bind fun a29=>M.ok (aB+a29)).bind fun a30=>M.ok (a30%(2147483629:Int))).bind fun gj=>(((mulM gj gj).bind fun a32=>M.ok (a32+k3)).bind fun a33=>M.ok (a33%(2147483629:Int))).bind fun fE=>(((((mulM fE fE).bind fun a35=>M.ok (a35%(2147483587:Int))).bind fun a36=>pf a36 dz).bind fun a37=>(M.ok ()).bind fun w38=>M.ok (a37,w38)).bind fun z39=>gx c2.1 z39.1).bind fun lW=>M.ok (lW,c2.2))):M (List Int×Int)).bind fun j23=>M.ok (j23.1,j23.2))) (Kb (ah (sv (ao (a:=gc) (e:=D.int) rfl)) au) NY) (fun _=>by(repeat' (first | exact trivial | refine And.intro rfl ?_))) (fun _=>rfl) (fun c2 k3=>bb) (fun c2 k3=>(Cv (b:=fun v=>v) (Pc:=fun(j23:List Int×Int)=>[some (.v (.d (D.int aB))),some (.v (.d (D.int gc))),some (.v (.d (D.int dz))),some (.v (.d (D.bl fJ))),some (.own ((oL D.int) j23.1)),some (.v (.d (D.int j23.2))),some (.v (.d (D.int k3))),none]) (Sc:=fun(j23:List Int×Int)=>σ) (Dl (i1 (sv (ao (a:=fJ) (e:=D.bl) rfl))) (Dl (tB (b:=fun v=>v) (sv (jl (sv (er (ah (sv (ao (a:=aB) (e:=D.int) rfl)) au) Nh)) (sv (bg (sv (cD D.int (10:Int))) (sv (cD D.int (18:Int))) C7)) fun a4=>N2))) (D3 (i1 (sv (bg (sv (ao (a:=c2.2) (e:=D.int) rfl)) (sv (cD D.int (0:Int))) (ke cB cB qI (by decide))))) (Eb (i1 (sv (bg (sv (ao (a:=c2.2) (e:=D.int) rfl)) (sv (B5 (sv (cD D.int (1:Int))))) (ke cB cB qI (by decide))))))))) (fun b5=>(cn (fun kr=>[some (.v (.d (D.int aB))),some (.v (.d (D.int gc))),some (.v (.d (D.int dz))),some (.v (.d (D.bl fJ))),some (.own ((oL D.int) kr)),some (.v (.d (D.int c2.2))),some (.v (.d (D.int k3))),none]) (mY (rQ (jW (j5 (a:=c2.1) rfl)) (fun _ hf=>tw (jS rfl) hf) (dt (sv (bg (sv (ao (a:=c2.2) (e:=D.int) rfl)) (sv (ao (a:=dz) (e:=D.int) rfl)) CS)) fun a24=>au) fun z26=>(rK rfl))) (fun _=>rfl) fun kr=>(cn (fun lV=>[some (.v (.d (D.int aB))),some (.v (.d (D.int gc))),some (.v (.d (D.int dz))),some (.v (.d (D.bl fJ))),some (.own ((oL D.int) kr)),some (.v (.d (D.int lV))),some (.v (.d (D.int k3))),none]) (e6 (bg (sv (ao (a:=c2.2) (e:=D.int) rfl)) (sv (ao (a:=dz) (e:=D.int) rfl)) DV)) (fun _=>rfl) fun lV=>(gu rfl (by(repeat' (first | exact trivial | refine And.intro rfl ?_))))))) (fun b5=>(cn (fun gj=>[some (.v (.d (D.int aB))),some (.v (.d (D.int gc))),some (.v (.d (D.int dz))),some (.v (.d (D.bl fJ))),some (.own ((oL D.int) c2.1)),some (.v (.d (D.int c2.2))),some (.v (.d (D.int k3))),some (.v (.d (D.int gj)))]) (e6 (mq (sv (jl (sv (ao (a:=aB) (e:=D.int) rfl)) (sv (bg (sv (cD D.int (7919:Int))) (sv (ao (a:=k3) (e:=D.int) rfl)) yg)) fun a29=>lO)) (fun a30=>(sv (cD D.int (2147483629:Int)))) fun a30=>(m4 (a:=a30) (b:=(2147483629:Int)) (by decide)))) (fun _=>rfl) fun gj=>(cn (fun fE=>[some (.v (.d (D.int aB))),some (.v (.d (D.int gc))),some (.v (.d (D.int dz))),some (.v (.d (D.bl fJ))),some (.own ((oL D.int) c2.1)),some (.v (.d (D.int c2.2))),some (.v (.d (D.int k3))),some (.v (.d (D.int fE)))]) (e6 (mq (sv (mq (sv (bg (sv (ao (a:=gj) (e:=D.int) rfl)) (sv (ao (a:=gj) (e:=D.int) rfl)) yg)) (fun a32=>(sv (ao (a:=k3) (e:=D.int) rfl))) fun a32=>lO)) (fun a33=>(sv (cD D.int (2147483629:Int)))) fun a33=>(m4 (a:=a33) (b:=(2147483629:Int)) (by decide)))) (fun _=>rfl) fun fE=>(cn (fun lW=>[some (.v (.d (D.int aB))),some (.v (.d (D.int gc))),some (.v (.d (D.int dz))),some (.v (.d (D.bl fJ))),some (.own ((oL D.int) lW)),some (.v (.d (D.int c2.2))),some (.v (.d (D.int k3))),some (.v (.d (D.int fE)))]) (mY (rQ (jW (j5 (a:=c2.1) rfl)) (fun _ hf=>tw (jS rfl) hf) (dt (sv (mq (sv (mq (sv (bg (sv (ao (a:=fE) (e:=D.int) rfl)) (sv (ao (a:=fE) (e:=D.int) rfl)) yg)) (fun a35=>(sv (cD D.int (2147483587:Int)))) fun a35=>(m4 (a:=a35) (b:=(2147483587:Int)) (by decide)))) (fun a36=>(sv (ao (a:=dz) (e:=D.int) rfl))) fun a36=>CS)) fun a37=>au) fun z39=>(rK rfl))) (fun _=>rfl) fun lW=>(gu rfl (by(repeat' (first | exact trivial | refine And.intro rfl ?_)))))))) fun j23=>(eU rfl (by(repeat' (first | exact trivial | refine And.intro rfl ?_))))))) fun r41=>(cm (Es rfl rfl))))))
def i8(aB:Int):M ((List Nat)):=(if(eqB (aB%(2:Int)) (0:Int))=true then((M.ok (sS " !\"#$&'()*+,-./0123456789:;<=>?@ABCDEFGHIJKLMNOPQRSTUVWXYZ[\\]^_")).bind fun rm=>(jA rm (sS "`abcdefghijklmnopqrstuvwxyz{|}~")).bind fun hO=>(((qx hO).bind fun a3=>(M.ok ()).bind fun w4=>M.ok (a3,w4)).bind fun z5=>nox (gq (aB/(2:Int)) (25:Int) z5.1 true)).bind fun gK=>(((((M.ok (1:Int)).bind fun l9=>(((i7 gK (0:Int)).bind fun a7=>M.ok (a7%(25:Int))).bind fun a8=>M.ok ((1:Int)+a8)).bind fun h10=>M.ok (dF gK (some l9) (some h10))).bind fun l12=>cX (fun(gL:Int)=>M.ok true) (fun(gL:Int)=>zB hO gL) l12).bind fun a13=>(M.ok ()).bind fun w14=>M.ok (a13,w14)).bind fun z15=>joinM (sS "") z15.1).bind fun v16=>M.ok (v16))else((nox (gq aB (14:Int) (12:Int) false)).bind fun eY=>(M.ok [(sS "ab"),(sS "Ab"),(sS "b"),(sS "ba"),(sS "a1"),(sS ""),(sS "1"),(sS "abc"),(sS "b, a"),(sS "c"),(sS "A-B"),(sS "ab")]).bind fun iX=>(((((M.ok (1:Int)).bind fun l20=>((i7 eY (0:Int)).bind fun a19=>M.ok ((1:Int)+a19)).bind fun h21=>M.ok (dF eY (some l20) (some h21))).bind fun l23=>cX (fun(gM:Int)=>M.ok true) (fun(gM:Int)=>i7 iX gM) l23).bind fun a24=>(M.ok ()).bind fun w25=>M.ok (a24,w25)).bind fun z26=>joinM (sS " ") z26.1).bind fun v27=>M.ok (v27)))
theorem AU{R:List Ob→Prop}{σ:List Ob}{aB:Int}:dW R hU [.d (D.int aB)] σ (i8 aB) (fun v=>(.val (.d (D.str v)),σ)):=(fH (pj (i1 (sv (bg (sv (bg (sv (ao (a:=aB) (e:=D.int) rfl)) (sv (cD D.int (2:Int))) (m4 (a:=aB) (b:=(2:Int)) (by decide)))) (sv (cD D.int (0:Int))) (Dh cB cB qI (by decide))))) (cn (fun rm=>[some (.v (.d (D.int aB))),none,none,some (.v (.d (D.str rm))),none]) (e6 (cD D.str (sS " !\"#$&'()*+,-./0123456789:;<=>?@ABCDEFGHIJKLMNOPQRSTUVWXYZ[\\]^_"))) (fun _=>rfl) fun rm=>(cn (fun hO=>[some (.v (.d (D.int aB))),none,none,some (.v (.d (D.str hO))),none]) (e6 (bg (sv (ao (a:=rm) (e:=D.str) rfl)) (sv (cD D.str (sS "`abcdefghijklmnopqrstuvwxyz{|}~"))) uU)) (fun _=>rfl) fun hO=>(cn (fun gK=>[some (.v (.d (D.int aB))),some (.own ((oL D.int) gK)),none,some (.v (.d (D.str hO))),none]) (pI (rP (R':=R) (post:=(pN (oL D.int) _ _)) (ah (sv (bg (sv (ao (a:=aB) (e:=D.int) rfl)) (sv (cD D.int (2:Int))) (uO (a:=aB) (b:=(2:Int)) (CB (by decide) (by decide))))) (ah (sv (cD D.int (25:Int))) (dt (sv (er (ah (sv (ao (a:=hO) (e:=D.str) rfl)) au) Co)) fun a3=>(ah (sv (cD D.bl true)) au)))) (fun _=>(.d (.d (.d (.d .nil))))) (fun _=>rfl) (fun z5=>(mC (aB:=(aB/(2:Int))) (gc:=(25:Int)) (dz:=z5.1) (fJ:=true))) (fun _ _=>rfl))) (fun _=>rfl) fun gK=>(cm (Bv (φ:=fun v16=>v16) (rQ (sv (cD D.str (sS ""))) (fun _ _=>rfl) (dt (sn (o8 (q:=[some (.v (.d (D.int aB))),some (.own ((oL D.int) gK)),none,some (.v (.d (D.str hO))),none]) (p2:=fun(gL:Int)=>[some (.v (.d (D.int aB))),some (.own ((oL D.int) gK)),none,some (.v (.d (D.str hO))),some (.v (.d (D.int gL)))]) (p3:=fun(gL:Int)=>[some (.v (.d (D.int aB))),some (.own ((oL D.int) gK)),none,some (.v (.d (D.str hO))),some (.v (.d (D.int gL)))]) (mt:=(fun(gL:Int)=>M.ok true)) (me:=(fun(gL:Int)=>zB hO gL)) (e:=D.str) (gU (sn (Cc (lo':=some) (hi':=some) (mk:=(fun l h=>M.ok (dF gK l h))) (jW (j5 (a:=gK) rfl)) (pe (sv (cD D.int (1:Int)))) (pe (sv (jl (sv (cD D.int (1:Int))) (sv (mq (sv (bg (jW (j5 (a:=gK) rfl)) (sv (cD D.int (0:Int))) (sW (jS rfl)))) (fun a7=>(sv (cD D.int (25:Int)))) fun a7=>(m4 (a:=a7) (b:=(25:Int)) (by decide)))) fun a8=>lO))) (fun _ _=>(FR (jS rfl)))) (fun v=>bc _ v))) rfl (fun(gL:Int)=>⟨bb,kI,(oW (bg (sv (ao (a:=hO) (e:=D.str) rfl)) (sv (ao (a:=gL) (e:=D.int) rfl)) LB))⟩) (fun _=>by(repeat' (first | exact trivial | refine And.intro rfl ?_))) (fun _=>by(repeat' (first | exact trivial | refine And.intro rfl ?_)))) (fun v=>bc _ v)) fun a13=>au) fun z15=>(DD dY)) fun _=>rfl))))) (cn (fun eY=>[some (.v (.d (D.int aB))),some (.own ((oL D.int) eY)),none,none,none]) (pI (eW (R':=R) (post:=(pN (oL D.int) _ _)) (ah (sv (ao (a:=aB) (e:=D.int) rfl)) (ah (sv (cD D.int (14:Int))) (ah (sv (cD D.int (12:Int))) (ah (sv (cD D.bl false)) au)))) (.d (.d (.d (.d .nil)))) rfl (mC (aB:=aB) (gc:=(14:Int)) (dz:=(12:Int)) (fJ:=false)) (fun _=>rfl))) (fun _=>rfl) fun eY=>(cn (fun iX=>[some (.v (.d (D.int aB))),some (.own ((oL D.int) eY)),some (.own ((oL D.str) iX)),none,none]) (pI (Ev.cI (post2:=(pN (oL D.str) _ _)) (cq (l:=fun _=>([(sS "ab"),(sS "Ab"),(sS "b"),(sS "ba"),(sS "a1"),(sS ""),(sS "1"),(sS "abc"),(sS "b, a"),(sS "c"),(sS "A-B"),(sS "ab")]:List (List Nat))) (e:=D.str) (ah (sv (cD D.str (sS "ab"))) (ah (sv (cD D.str (sS "Ab"))) (ah (sv (cD D.str (sS "b"))) (ah (sv (cD D.str (sS "ba"))) (ah (sv (cD D.str (sS "a1"))) (ah (sv (cD D.str (sS ""))) (ah (sv (cD D.str (sS "1"))) (ah (sv (cD D.str (sS "abc"))) (ah (sv (cD D.str (sS "b, a"))) (ah (sv (cD D.str (sS "c"))) (ah (sv (cD D.str (sS "A-B"))) (ah (sv (cD D.str (sS "ab"))) au)))))))))))) (fun _=>(.d (.d (.d (.d (.d (.d (.d (.d (.d (.d (.d (.d .nil))))))))))))) (fun _=>rfl) (fun _=>rfl)) rfl)) (fun _=>rfl) fun iX=>(cm (Bv (φ:=fun v27=>v27) (rQ (sv (cD D.str (sS " "))) (fun _ _=>rfl) (dt (sn (o8 (q:=[some (.v (.d (D.int aB))),some (.own ((oL D.int) eY)),some (.own ((oL D.str) iX)),none,none]) (p2:=fun(gM:Int)=>[some (.v (.d (D.int aB))),some (.own ((oL D.int) eY)),some (.own ((oL D.str) iX)),none,some (.v (.d (D.int gM)))]) (p3:=fun(gM:Int)=>[some (.v (.d (D.int aB))),some (.own ((oL D.int) eY)),some (.own ((oL D.str) iX)),none,some (.v (.d (D.int gM)))]) (mt:=(fun(gM:Int)=>M.ok true)) (me:=(fun(gM:Int)=>i7 iX gM)) (e:=D.str) (gU (sn (Cc (lo':=some) (hi':=some) (mk:=(fun l h=>M.ok (dF eY l h))) (jW (j5 (a:=eY) rfl)) (pe (sv (cD D.int (1:Int)))) (pe (sv (jl (sv (cD D.int (1:Int))) (sv (bg (jW (j5 (a:=eY) rfl)) (sv (cD D.int (0:Int))) (sW (jS rfl)))) fun a19=>lO))) (fun _ _=>(FR (jS rfl)))) (fun v=>bc _ v))) rfl (fun(gM:Int)=>⟨bb,kI,(oW (bg (jW (j5 (a:=iX) rfl)) (sv (ao (a:=gM) (e:=D.int) rfl)) (sW (jS rfl))))⟩) (fun _=>by(repeat' (first | exact trivial | refine And.intro rfl ?_))) (fun _=>by(repeat' (first | exact trivial | refine And.intro rfl ?_)))) (fun v=>bc _ v)) fun a24=>au) fun z26=>(DD dY)) fun _=>rfl))))))
def eT(aB:Int)(hG:Int):M ((List (List Nat×List Nat))):=(nox (gq aB (4:Int) (9:Int) true)).bind fun names1=>(foldM (fun(c2:List (List Nat)) (jV:List Nat)=>((((qJ [(sS "a"),(sS "ab"),(sS "b"),(sS "body"),(sS "c"),(sS "title"),(sS "tit"),(sS "z"),(sS "zz")] jV).bind fun a4=>((M.ok (1:Int)).bind fun l7=>(((i7 names1 (0:Int)).bind fun a5=>M.ok (a5%(4:Int))).bind fun a6=>M.ok ((1:Int)+a6)).bind fun h8=>M.ok (dF names1 (some l7) (some h8))).bind fun a9=>M.ok (vW a4 a9)).bind fun b10=>if b10=true then((gx c2 jV).bind fun ku=>M.ok ku)else(M.ok c2)):M (List (List Nat))).bind fun j12=>M.ok j12) ([]:List (List Nat)) [(sS "a"),(sS "ab"),(sS "b"),(sS "body"),(sS "c"),(sS "title"),(sS "tit"),(sS "z"),(sS "zz")]).bind fun r14=>(((CF r14).bind fun l=>M.ok (eI l)).bind fun l24=>cX (fun(k15:Int×List Nat)=>M.ok true) (fun(k15:Int×List Nat)=>((((((mulM (3:Int) k15.1).bind fun a16=>M.ok ((1:Int)+a16)).bind fun a17=>tO hG a17).bind fun a18=>(M.ok ()).bind fun w19=>M.ok (a18,w19)).bind fun z20=>nox (i8 z20.1)).bind fun a21=>(M.ok ()).bind fun w22=>M.ok (a21,w22)).bind fun z23=>M.ok (k15.2,z23.1)) l24).bind fun v25=>M.ok (v25)
theorem u0{R:List Ob→Prop}{σ:List Ob}{aB:Int}{hG:Int}:dW R fR [.d (D.int aB),.d (D.int hG)] σ (eT aB hG) (fun v=>(.new ((oL (aj D.str D.str)) v),σ)):=(fH (cn (fun names1=>[some (.v (.d (D.int aB))),some (.v (.d (D.int hG))),some (.own ((oL D.int) names1)),none,none,none]) (pI (eW (R':=R) (post:=(pN (oL D.int) _ _)) (ah (sv (ao (a:=aB) (e:=D.int) rfl)) (ah (sv (cD D.int (4:Int))) (ah (sv (cD D.int (9:Int))) (ah (sv (cD D.bl true)) au)))) (.d (.d (.d (.d .nil)))) rfl (mC (aB:=aB) (gc:=(4:Int)) (dz:=(9:Int)) (fJ:=true)) (fun _=>rfl))) (fun _=>rfl) fun names1=>(dr [some (.v (.d (D.int aB))),some (.v (.d (D.int hG))),some (.own ((oL D.int) names1)),some (.own ((oL D.str) ([]:List (List Nat)))),none,none] (pI (Ev.cI (post2:=(pN (oL D.str) _ _)) (cq (l:=fun _=>([]:List (List Nat))) (e:=D.str) au (fun _=>.nil) (fun _=>rfl) (fun _=>rfl)) rfl)) rfl (jm (jQ (P:=fun(c2:List (List Nat))=>[some (.v (.d (D.int aB))),some (.v (.d (D.int hG))),some (.own ((oL D.int) names1)),some (.own ((oL D.str) c2)),none,none]) (S:=fun(c2:List (List Nat))=>σ) (c0:=([]:List (List Nat))) (mb:=(fun(c2:List (List Nat)) (jV:List Nat)=>((((qJ [(sS "a"),(sS "ab"),(sS "b"),(sS "body"),(sS "c"),(sS "title"),(sS "tit"),(sS "z"),(sS "zz")] jV).bind fun a4=>((M.ok (1:Int)).bind fun l7=>(((i7 names1 (0:Int)).bind fun a5=>M.ok (a5%(4:Int))).bind fun a6=>M.ok ((1:Int)+a6)).bind fun h8=>M.ok (dF names1 (some l7) (some h8))).bind fun a9=>M.ok (vW a4 a9)).bind fun b10=>if b10=true then((gx c2 jV).bind fun ku=>M.ok ku)else(M.ok c2)):M (List (List Nat))).bind fun j12=>M.ok j12)) (gU (sn (Ev.cI (post2:=(pN (oL D.str) _ _)) (cq (l:=fun _=>([(sS "a"),(sS "ab"),(sS "b"),(sS "body"),(sS "c"),(sS "title"),(sS "tit"),(sS "z"),(sS "zz")]:List (List Nat))) (e:=D.str) (ah (sv (cD D.str (sS "a"))) (ah (sv (cD D.str (sS "ab"))) (ah (sv (cD D.str (sS "b"))) (ah (sv (cD D.str (sS "body"))) (ah (sv (cD D.str (sS "c"))) (ah (sv (cD D.str (sS "title"))) (ah (sv (cD D.str (sS "tit"))) (ah (sv (cD D.str (sS "z"))) (ah (sv (cD D.str (sS "zz"))) au))))))))) (fun _=>(.d (.d (.d (.d (.d (.d (.d (.d (.d .nil)))))))))) (fun _=>rfl) (fun _=>rfl)) rfl) (fun v=>bc _ v))) (by(repeat' (first | exact trivial | refine And.intro rfl ?_))) rfl (fun c2 jV=>bb) (fun c2 jV=>(Cv (b:=fun v=>v) (Pc:=fun(j12:List (List Nat))=>[some (.v (.d (D.int aB))),some (.v (.d (D.int hG))),some (.own ((oL D.int) names1)),some (.own ((oL D.str) j12)),some (.v (.d (D.str jV))),none]) (Sc:=fun(j12:List (List Nat))=>σ) (tB (b:=fun v=>v) (sv (CK (sv (qY (sn (Ev.cI (post2:=(pN (oL D.str) _ _)) (cq (l:=fun _=>([(sS "a"),(sS "ab"),(sS "b"),(sS "body"),(sS "c"),(sS "title"),(sS "tit"),(sS "z"),(sS "zz")]:List (List Nat))) (e:=D.str) (ah (sv (cD D.str (sS "a"))) (ah (sv (cD D.str (sS "ab"))) (ah (sv (cD D.str (sS "b"))) (ah (sv (cD D.str (sS "body"))) (ah (sv (cD D.str (sS "c"))) (ah (sv (cD D.str (sS "title"))) (ah (sv (cD D.str (sS "tit"))) (ah (sv (cD D.str (sS "z"))) (ah (sv (cD D.str (sS "zz"))) au))))))))) (fun _=>(.d (.d (.d (.d (.d (.d (.d (.d (.d .nil)))))))))) (fun _=>rfl) (fun _=>rfl)) rfl) (fun v=>bc _ v)) (fun _ hf=>tw dY hf) (ah (sv (ao (a:=jV) (e:=D.str) rfl)) au) (Mf dY))) (fun a4=>(sn (Cc (lo':=some) (hi':=some) (mk:=(fun l h=>M.ok (dF names1 l h))) (jW (j5 (a:=names1) rfl)) (pe (sv (cD D.int (1:Int)))) (pe (sv (jl (sv (cD D.int (1:Int))) (sv (mq (sv (bg (jW (j5 (a:=names1) rfl)) (sv (cD D.int (0:Int))) (sW (jS rfl)))) (fun a5=>(sv (cD D.int (4:Int)))) fun a5=>(m4 (a:=a5) (b:=(4:Int)) (by decide)))) fun a6=>lO))) (fun _ _=>(FR (jS rfl)))) (fun v=>bc _ v))) fun a4 a9=>(ON cB dY qI (by decide))))) (fun b10=>(cn (fun ku=>[some (.v (.d (D.int aB))),some (.v (.d (D.int hG))),some (.own ((oL D.int) names1)),some (.own ((oL D.str) ku)),some (.v (.d (D.str jV))),none]) (mY (qY (jW (j5 (a:=c2) rfl)) (fun _ hf=>tw (jS rfl) hf) (ah (sv (ao (a:=jV) (e:=D.str) rfl)) au) (rK rfl))) (fun _=>rfl) fun ku=>(gu rfl (by(repeat' (first | exact trivial | refine And.intro rfl ?_)))))) (fun b10=>(gu rfl (by(repeat' (first | exact trivial | refine And.intro rfl ?_))))) fun j12=>(eU rfl (by(repeat' (first | exact trivial | refine And.intro rfl ?_))))))) fun r14=>(cm (A8 (φ:=fun v25=>v25) (o8 (q:=[some (.v (.d (D.int aB))),some (.v (.d (D.int hG))),some (.own ((oL D.int) names1)),some (.own ((oL D.str) r14)),none,none]) (p2:=fun(k15:Int×List Nat)=>[some (.v (.d (D.int aB))),some (.v (.d (D.int hG))),some (.own ((oL D.int) names1)),some (.own ((oL D.str) r14)),some (.v (.d (D.str k15.2))),some (.v (.d (D.int k15.1)))]) (p3:=fun(k15:Int×List Nat)=>[some (.v (.d (D.int aB))),some (.v (.d (D.int hG))),some (.own ((oL D.int) names1)),some (.own ((oL D.str) r14)),some (.v (.d (D.str k15.2))),some (.v (.d (D.int k15.1)))]) (mt:=(fun(k15:Int×List Nat)=>M.ok true)) (me:=(fun(k15:Int×List Nat)=>((((((mulM (3:Int) k15.1).bind fun a16=>M.ok ((1:Int)+a16)).bind fun a17=>tO hG a17).bind fun a18=>(M.ok ()).bind fun w19=>M.ok (a18,w19)).bind fun z20=>nox (i8 z20.1)).bind fun a21=>(M.ok ()).bind fun w22=>M.ok (a21,w22)).bind fun z23=>M.ok (k15.2,z23.1))) (e:=(aj D.str D.str)) (u9 (sn (er (ah (jW (j5 (a:=r14) rfl)) au) (Ku (jS rfl))) (fun v=>bc _ v))) rfl (fun(k15:Int×List Nat)=>⟨(e8 rfl rfl (aW bb (aW bb du))),kI,(oW (Ev.map (fun(z23:List Nat×Unit)=>(k15.2,z23.1)) (pD (aj D.str D.str) _ _) (ja (ah (sv (ao (a:=k15.2) (e:=D.str) rfl)) (dt (sv (rP (R':=R) (post:=(pD D.str _ _)) (dt (sv (jl (sv (ao (a:=hG) (e:=D.int) rfl)) (sv (jl (sv (cD D.int (1:Int))) (sv (bg (sv (cD D.int (3:Int))) (sv (ao (a:=k15.1) (e:=D.int) rfl)) yg)) fun a16=>lO)) fun a17=>DV)) fun a18=>au) (fun _=>(.d .nil)) (fun _=>rfl) (fun z20=>(AU (aB:=z20.1))) (fun _ _=>rfl))) fun a21=>au)) (fun _=>(.d (.d .nil))) (fun _=>rfl) (fun _=>rfl)) fun _=>rfl))⟩) (fun _=>by(repeat' (first | exact trivial | refine And.intro rfl ?_))) (fun _=>by(repeat' (first | exact trivial | refine And.intro rfl ?_)))) fun _=>rfl))))))
def iO(cQ:List Int):M ((List (Int×(List (List Nat×List Nat))))):=((zl (1:Int) (if((cQ.length:Int)-(1:Int))<(21:Int)then((cQ.length:Int)-(1:Int))else(21:Int)) (2:Int)).bind fun a1=>foldM (fun(c2:(List (Int×(List (List Nat×List Nat))))×Int) (k3:Int)=>(i7 cQ k3).bind fun c8=>((((((o3 (10:Int) (40:Int)).bind fun a5=>pf (c8/(4:Int)) a5).bind fun a6=>(M.ok ()).bind fun w7=>M.ok (a6,w7)).bind fun z8=>M.ok [((c8/(4:Int))%(9:Int)),z8.1]).bind fun a9=>i7 a9 (if(eqB (c8%(4:Int)) (3:Int))=true then(1:Int)else 0)).bind fun a10=>M.ok ((c2.2+(1:Int))+a10)).bind fun iP=>(((((((i7 cQ (k3+(1:Int))).bind fun a12=>(M.ok ()).bind fun w13=>M.ok (a12,w13)).bind fun z14=>nox (eT (c8/(4:Int)) z14.1)).bind fun a15=>(M.ok ()).bind fun w16=>M.ok (a15,w16)).bind fun z17=>M.ok (iP,z17.1)).bind fun a18=>(M.ok ()).bind fun w19=>M.ok (a18,w19)).bind fun z20=>gx c2.1 z20.1).bind fun dQ=>M.ok (dQ,iP)) (([]:List (Int×(List (List Nat×List Nat)))),(-(1:Int))) a1).bind fun r22=>M.ok (r22.1)
theorem yI{R:List Ob→Prop}{σ:List Ob}{cQ:List Int}:dW R gH [.d ((eL D.int) cQ)] σ (iO cQ) (fun v=>(.new ((oL (aj D.int (eL (aj D.str D.str)))) v),σ)):=(fH (dr [some (.v (.d ((eL D.int) cQ))),some (.own ((oL (aj D.int (eL (aj D.str D.str)))) ([]:List (Int×(List (List Nat×List Nat)))))),none,none,none] (pI (Ev.cI (post2:=(pN (oL (aj D.int (eL (aj D.str D.str)))) _ _)) (cq (l:=fun _=>([]:List (Int×(List (List Nat×List Nat))))) (e:=(aj D.int (eL (aj D.str D.str)))) au (fun _=>.nil) (fun _=>rfl) (fun _=>rfl)) rfl)) rfl (dr [some (.v (.d ((eL D.int) cQ))),some (.own ((oL (aj D.int (eL (aj D.str D.str)))) ([]:List (Int×(List (List Nat×List Nat)))))),some (.v (.d (D.int (-(1:Int))))),none,none] (e6 (B5 (sv (cD D.int (1:Int))))) rfl (jm (jE (P:=fun(c2:(List (Int×(List (List Nat×List Nat))))×Int)=>[some (.v (.d ((eL D.int) cQ))),some (.own ((oL (aj D.int (eL (aj D.str D.str)))) c2.1)),some (.v (.d (D.int c2.2))),none,none]) (S:=fun(c2:(List (Int×(List (List Nat×List Nat))))×Int)=>σ) (lA:=(fun(a1:List Int)=>a1)) (c0:=fun(a1:List Int)=>(([]:List (Int×(List (List Nat×List Nat)))),(-(1:Int)))) (mb:=(fun(c2:(List (Int×(List (List Nat×List Nat))))×Int) (k3:Int)=>(i7 cQ k3).bind fun c8=>((((((o3 (10:Int) (40:Int)).bind fun a5=>pf (c8/(4:Int)) a5).bind fun a6=>(M.ok ()).bind fun w7=>M.ok (a6,w7)).bind fun z8=>M.ok [((c8/(4:Int))%(9:Int)),z8.1]).bind fun a9=>i7 a9 (if(eqB (c8%(4:Int)) (3:Int))=true then(1:Int)else 0)).bind fun a10=>M.ok ((c2.2+(1:Int))+a10)).bind fun iP=>(((((((i7 cQ (k3+(1:Int))).bind fun a12=>(M.ok ()).bind fun w13=>M.ok (a12,w13)).bind fun z14=>nox (eT (c8/(4:Int)) z14.1)).bind fun a15=>(M.ok ()).bind fun w16=>M.ok (a15,w16)).bind fun z17=>M.ok (iP,z17.1)).bind fun a18=>(M.ok ()).bind fun w19=>M.ok (a18,w19)).bind fun z20=>gx c2.1 z20.1).bind fun dQ=>M.ok (dQ,iP))) (Kb (ah (sv (cD D.int (1:Int))) (ah (sv (er (ah (sv (cD D.int (21:Int))) (ah (sv (bg (sv (er (ah (sv (ao (a:=cQ) (e:=(eL D.int)) rfl)) au) (G7 dY))) (sv (cD D.int (1:Int))) GS)) au)) Mx)) (ah (sv (cD D.int (2:Int))) au))) N1) (fun _=>by(repeat' (first | exact trivial | refine And.intro rfl ?_))) (fun _=>rfl) (fun c2 k3=>bb) (fun c2 k3=>(cn (fun c8=>[some (.v (.d ((eL D.int) cQ))),some (.own ((oL (aj D.int (eL (aj D.str D.str)))) c2.1)),some (.v (.d (D.int c2.2))),some (.v (.d (D.int k3))),some (.v (.d (D.int c8)))]) (e6 (bg (sv (ao (a:=cQ) (e:=(eL D.int)) rfl)) (sv (ao (a:=k3) (e:=D.int) rfl)) (sW dY))) (fun _=>rfl) fun c8=>(cn (fun iP=>[some (.v (.d ((eL D.int) cQ))),some (.own ((oL (aj D.int (eL (aj D.str D.str)))) c2.1)),some (.v (.d (D.int iP))),some (.v (.d (D.int k3))),some (.v (.d (D.int c8)))]) (e6 (jl (sv (bg (sv (ao (a:=c2.2) (e:=D.int) rfl)) (sv (cD D.int (1:Int))) lO)) (sv (mq (sn (Ev.map (fun(z8:Int×Unit)=>[((c8/(4:Int))%(9:Int)),z8.1]) (pN (oL D.int) _ _) (cq (l:=fun z8=>([((c8/(4:Int))%(9:Int)),z8.1]:List Int)) (e:=D.int) (ah (sv (bg (sv (bg (sv (ao (a:=c8) (e:=D.int) rfl)) (sv (cD D.int (4:Int))) (uO (a:=c8) (b:=(4:Int)) (CB (by decide) (by decide))))) (sv (cD D.int (9:Int))) (m4 (a:=(c8/(4:Int))) (b:=(9:Int)) (by decide)))) (dt (sv (jl (sv (bg (sv (ao (a:=c8) (e:=D.int) rfl)) (sv (cD D.int (4:Int))) (uO (a:=c8) (b:=(4:Int)) (CB (by decide) (by decide))))) (sv (bg (sv (cD D.int (10:Int))) (sv (cD D.int (40:Int))) C7)) fun a5=>CS)) fun a6=>au)) (fun _=>(.d (.d .nil))) (fun _=>rfl) (fun _=>rfl)) fun _=>rfl) (fun v=>bc _ v)) (fun a9=>(sv (er (ah (sv (bg (sv (bg (sv (ao (a:=c8) (e:=D.int) rfl)) (sv (cD D.int (4:Int))) (m4 (a:=c8) (b:=(4:Int)) (by decide)))) (sv (cD D.int (3:Int))) (Dh cB cB qI (by decide)))) au) Nj))) fun a9=>(sW dY))) fun a10=>lO)) (fun _=>rfl) fun iP=>(cn (fun dQ=>[some (.v (.d ((eL D.int) cQ))),some (.own ((oL (aj D.int (eL (aj D.str D.str)))) dQ)),some (.v (.d (D.int iP))),some (.v (.d (D.int k3))),some (.v (.d (D.int c8)))]) (mY (rQ (jW (j5 (a:=c2.1) rfl)) (fun _ hf=>tw (jS rfl) hf) (dt (sv (Ev.map (fun(z17:(List (List Nat×List Nat))×Unit)=>(iP,z17.1)) (pD (aj D.int (eL (aj D.str D.str))) _ _) (ja (ah (sv (ao (a:=iP) (e:=D.int) rfl)) (dt (sn (rP (R':=R) (post:=(pN (oL (aj D.str D.str)) _ _)) (ah (sv (bg (sv (ao (a:=c8) (e:=D.int) rfl)) (sv (cD D.int (4:Int))) (uO (a:=c8) (b:=(4:Int)) (CB (by decide) (by decide))))) (dt (sv (bg (sv (ao (a:=cQ) (e:=(eL D.int)) rfl)) (sv (bg (sv (ao (a:=k3) (e:=D.int) rfl)) (sv (cD D.int (1:Int))) lO)) (sW dY))) fun a12=>au)) (fun _=>(.d (.d .nil))) (fun _=>rfl) (fun z14=>(u0 (aB:=(c8/(4:Int))) (hG:=z14.1))) (fun _ _=>rfl)) (fun v=>bc _ v)) fun a15=>au)) (fun _=>(.d (.d .nil))) (fun _=>rfl) (fun _=>rfl)) fun _=>rfl)) fun a18=>au) fun z20=>(rK rfl))) (fun _=>rfl) fun dQ=>(eU rfl (by(repeat' (first | exact trivial | refine And.intro rfl ?_))))))))) fun r22=>(cm (Es rfl rfl))))))
def jv(bw:List Nat):M Bool:=(andM ((M.ok (0:Int)).bind fun a1=>(qx bw).bind fun a2=>if decide (a1<a2)=true then(M.ok (12:Int)).bind fun a3=>M.ok (decide (a2≤a3))else M.ok false) (((cX (fun(ik:List Nat)=>M.ok true) (fun(ik:List Nat)=>M.ok (subIn ik (sS "abcdefghijklmnopqrstuvwxyz"))) (chars bw)).bind fun a5=>(M.ok ()).bind fun w6=>M.ok (a5,w6)).bind fun z7=>M.ok (z7.1.all id))).bind fun v8=>M.ok (v8)
theorem DJ{R:List Ob→Prop}{σ:List Ob}{bw:List Nat}:dW R kK [.d (D.str bw)] σ (jv bw) (fun v=>(.val (.d (D.bl v)),σ)):=(fH (cm (Bv (φ:=fun v8=>v8) (DT (sv (Qk (k1:=fun a b=>decide (a<b)) (k2:=fun a b=>decide (a≤b)) (sv (cD D.int (0:Int))) (fun _=>(sv (er (ah (sv (ao (a:=bw) (e:=D.str) rfl)) au) Co))) (fun _ _=>(sv (cD D.int (12:Int)))) (fun _ _=>Ou) (fun _ _=>FL))) (A5 (sv (GC (dt (sn (Gv (q:=[some (.v (.d (D.str bw))),none]) (p2:=fun(ik:List Nat)=>[some (.v (.d (D.str bw))),some (.v (.d (D.str ik)))]) (p3:=fun(ik:List Nat)=>[some (.v (.d (D.str bw))),some (.v (.d (D.str ik)))]) (mt:=(fun(ik:List Nat)=>M.ok true)) (me:=(fun(ik:List Nat)=>M.ok (subIn ik (sS "abcdefghijklmnopqrstuvwxyz")))) (e:=D.bl) (GO (sv (ao (a:=bw) (e:=D.str) rfl))) rfl (fun(ik:List Nat)=>⟨bb,kI,(oW (bg (sv (ao (a:=ik) (e:=D.str) rfl)) (sv (cD D.str (sS "abcdefghijklmnopqrstuvwxyz"))) yX))⟩) (fun _=>by(repeat' (first | exact trivial | refine And.intro rfl ?_))) (fun _=>by(repeat' (first | exact trivial | refine And.intro rfl ?_)))) (fun v=>bc _ v)) fun a5=>au) fun z7=>(MI dY))))) fun _=>rfl)))
def cC(aQ:List (List Nat×List Nat)):M Unit:=(foldM (fun(c1:List Nat) (ay:Int×(List Nat×List Nat))=>(orM ((nox (jv ay.2.1)).bind fun v=>M.ok (!v)) (M.ok (!hZ c1 ay.2.1))).bind fun b3=>if b3=true then((M.ok ay.1).bind fun a4=>M.exc ⟨"NoField",some (D.int a4)⟩)else(M.ok ay.2.1)) (sS "") (eI aQ)).bind fun r5=>M.ok ()
theorem kR{R:List Ob→Prop}{σ:List Ob}(hR:R σ){aQ:List (List Nat×List Nat)}:dW R dq [.d ((eL (aj D.str D.str)) aQ)] σ (cC aQ) (fun v=>(.val (.d (eN v)),σ)):=(p7 (P:=fun _=>[none,none,none,none,none]) (dr [some (.v (.d ((eL (aj D.str D.str)) aQ))),some (.v (.d (D.str (sS "")))),none,none,none] (e6 (cD D.str (sS ""))) rfl (jm (jQ (P:=fun(c1:List Nat)=>[some (.v (.d ((eL (aj D.str D.str)) aQ))),some (.v (.d (D.str c1))),none,none,none]) (S:=fun(c1:List Nat)=>σ) (c0:=(sS "")) (mb:=(fun(c1:List Nat) (ay:Int×(List Nat×List Nat))=>(orM ((nox (jv ay.2.1)).bind fun v=>M.ok (!v)) (M.ok (!hZ c1 ay.2.1))).bind fun b3=>if b3=true then((M.ok ay.1).bind fun a4=>M.exc ⟨"NoField",some (D.int a4)⟩)else(M.ok ay.2.1))) (u9 (sv (ao (a:=aQ) (e:=(eL (aj D.str D.str))) rfl))) (by(repeat' (first | exact trivial | refine And.intro rfl ?_))) rfl (fun c1 ay=>(e8 rfl rfl (aW bb (aW (e8 rfl rfl (aW bb (aW bb du))) du)))) (fun c1 ay=>(tP (b:=fun v=>v) (Lw (Ki (tB (b:=fun v=>v) (sv (eW (R':=R) (post:=(pD D.bl _ _)) (ah (sv (ao (a:=ay.2.1) (e:=D.str) rfl)) au) (.d .nil) rfl (DJ (bw:=ay.2.1)) (fun _=>rfl))))) (x3 (i1 (sv (bg (sv (ao (a:=ay.2.1) (e:=D.str) rfl)) (sv (ao (a:=c1) (e:=D.str) rfl)) OM))))) (fun b3=>(cm (sN (sv (ao (a:=ay.1) (e:=D.int) rfl)) (fun _=>hR)))) (fun b3=>(dr [some (.v (.d ((eL (aj D.str D.str)) aQ))),some (.v (.d (D.str ay.2.1))),some (.v (.d (D.int ay.1))),some (.v (.d (D.str ay.2.1))),some (.v (.d (D.str ay.2.2)))] (e6 (ao (a:=ay.2.1) (e:=D.str) rfl)) rfl (eU rfl (by(repeat' (first | exact trivial | refine And.intro rfl ?_))))))))) fun r5=>(gu (p':=[none,none,none,none,none]) rfl (by(repeat' (first | exact trivial | refine And.intro rfl ?_)))))) (fun _=>rfl))
def dE(ag:List (Int×(List (List Nat×List Nat)))):M Unit:=(foldM (fun(c1:Int) (ay:Int×(Int×(List (List Nat×List Nat))))=>(if(decide (ay.2.1≤c1))=true then((M.ok ay.1).bind fun a3=>M.exc ⟨"NoMake",some (D.int a3)⟩)else((cC ay.2.2).bind fun u4=>M.ok ay.2.1))) (-(1:Int)) (eI ag)).bind fun r5=>M.ok ()
theorem uy{R:List Ob→Prop}{σ:List Ob}(hR:R σ){ag:List (Int×(List (List Nat×List Nat)))}:dW R c6 [.d ((eL (aj D.int (eL (aj D.str D.str)))) ag)] σ (dE ag) (fun v=>(.val (.d (eN v)),σ)):=(p7 (P:=fun _=>[none,none,none,none,none]) (dr [some (.v (.d ((eL (aj D.int (eL (aj D.str D.str)))) ag))),some (.v (.d (D.int (-(1:Int))))),none,none,none] (e6 (B5 (sv (cD D.int (1:Int))))) rfl (jm (Hn rfl (jQ (P:=fun(c1:Int)=>[some (.v (.d ((eL (aj D.int (eL (aj D.str D.str)))) ag))),some (.v (.d (D.int c1))),none,none,none]) (S:=fun(c1:Int)=>σ) (c0:=(-(1:Int))) (mb:=(fun(c1:Int) (ay:Int×(Int×(List (List Nat×List Nat))))=>(if(decide (ay.2.1≤c1))=true then((M.ok ay.1).bind fun a3=>M.exc ⟨"NoMake",some (D.int a3)⟩)else((cC ay.2.2).bind fun u4=>M.ok ay.2.1)))) (u9 (sv (ao (a:=ag) (e:=(eL (aj D.int (eL (aj D.str D.str))))) rfl))) (by(repeat' (first | exact trivial | refine And.intro rfl ?_))) rfl (fun c1 ay=>(e8 rfl rfl (aW bb (aW (e8 rfl rfl (aW bb (aW bb du))) du)))) (fun c1 ay=>(pj (i1 (sv (bg (sv (ao (a:=ay.2.1) (e:=D.int) rfl)) (sv (ao (a:=c1) (e:=D.int) rfl)) FL))) (cm (sN (sv (ao (a:=ay.1) (e:=D.int) rfl)) (fun _=>hR))) (dr [some (.v (.d ((eL (aj D.int (eL (aj D.str D.str)))) ag))),some (.v (.d (D.int ay.2.1))),some (.v (.d (D.int ay.1))),some (.v (.d (D.int ay.2.1))),some (.v (.d ((eL (aj D.str D.str)) ay.2.2)))] (e6 (ao (a:=ay.2.1) (e:=D.int) rfl)) rfl (cn (fun u4=>[some (.v (.d ((eL (aj D.int (eL (aj D.str D.str)))) ag))),some (.v (.d (D.int ay.2.1))),some (.v (.d (D.int ay.1))),some (.v (.d (D.int ay.2.1))),some (.v (.d ((eL (aj D.str D.str)) ay.2.2)))]) (mY (nH (post:=(pD eN _ _)) (ah (sv (ao (a:=ay.2.2) (e:=(eL (aj D.str D.str))) rfl)) au) (.d .nil) rfl (kR (aQ:=ay.2.2) hR) (fun _=>rfl))) (fun _=>rfl) fun u4=>(eU rfl (by(repeat' (first | exact trivial | refine And.intro rfl ?_)))))))))) fun r5=>(gu (p':=[none,none,none,none,none]) rfl (by(repeat' (first | exact trivial | refine And.intro rfl ?_)))))) (fun _=>rfl))
def dU(il:List Nat):M ((List Nat)):=(if(subIn il (sS "ABCDEFGHIJKLMNOPQRSTUVWXYZ"))=true then(((FQ (sS "ABCDEFGHIJKLMNOPQRSTUVWXYZ") il).bind fun a1=>zB (sS "abcdefghijklmnopqrstuvwxyz") a1).bind fun v2=>M.ok (v2))else((if((subIn il (sS "abcdefghijklmnopqrstuvwxyz"))||(subIn il (sS "0123456789")))=true then(M.ok (il))else(M.ok ((sS ""))))))
theorem DU{R:List Ob→Prop}{σ:List Ob}{il:List Nat}:dW R kH [.d (D.str il)] σ (dU il) (fun v=>(.val (.d (D.str v)),σ)):=(fH (pj (i1 (sv (bg (sv (ao (a:=il) (e:=D.str) rfl)) (sv (cD D.str (sS "ABCDEFGHIJKLMNOPQRSTUVWXYZ"))) yX))) (cm (Bv (φ:=fun v2=>v2) (jl (sv (cD D.str (sS "abcdefghijklmnopqrstuvwxyz"))) (sv (qY (sv (cD D.str (sS "ABCDEFGHIJKLMNOPQRSTUVWXYZ"))) (fun _ _=>rfl) (ah (sv (ao (a:=il) (e:=D.str) rfl)) au) MK)) fun a1=>LB) fun _=>rfl)) (pj (uv (i1 (sv (bg (sv (ao (a:=il) (e:=D.str) rfl)) (sv (cD D.str (sS "abcdefghijklmnopqrstuvwxyz"))) yX))) (x3 (i1 (sv (bg (sv (ao (a:=il) (e:=D.str) rfl)) (sv (cD D.str (sS "0123456789"))) yX))))) (cm (nT (ao (a:=il) (e:=D.str) rfl) rfl)) (cm (nT (cD D.str (sS "")) rfl)))))
def fZ(bw:List Nat):M ((List (List Nat×Int×Int))):=(((jA bw (sS " ")).bind fun l=>M.ok (eI (chars l))).bind fun a1=>foldM (fun(c2:(List (List Nat×Int×Int))×List Nat) (bW:Int×List Nat)=>(nox (dU bW.2)).bind fun one4=>((if((eqB one4 (sS ""))&&(!(eqB c2.2 (sS ""))))=true then(((((((qx c2.2).bind fun a14=>M.ok (bW.1-a14)).bind fun a15=>(M.ok ()).bind fun w16=>M.ok (a15,w16)).bind fun z17=>M.ok (c2.2,z17.1,bW.1)).bind fun a18=>(M.ok ()).bind fun w19=>M.ok (a18,w19)).bind fun z20=>gx c2.1 z20.1).bind fun dQ=>M.ok (dQ,(sS "")))else(M.ok (c2.1,c2.2))):M ((List (List Nat×Int×Int))×List Nat)).bind fun j13=>(jA j13.2 one4).bind fun kW=>M.ok (j13.1,kW)) (([]:List (List Nat×Int×Int)),(sS "")) a1).bind fun r23=>M.ok (r23.1)
theorem CD{R:List Ob→Prop}{σ:List Ob}{bw:List Nat}:dW R jT [.d (D.str bw)] σ (fZ bw) (fun v=>(.new ((oL (nZ D.str D.int D.int)) v),σ)):=(fH (dr [some (.v (.d (D.str bw))),some (.own ((oL (nZ D.str D.int D.int)) ([]:List (List Nat×Int×Int)))),none,none,none,none] (pI (Ev.cI (post2:=(pN (oL (nZ D.str D.int D.int)) _ _)) (cq (l:=fun _=>([]:List (List Nat×Int×Int))) (e:=(nZ D.str D.int D.int)) au (fun _=>.nil) (fun _=>rfl) (fun _=>rfl)) rfl)) rfl (dr [some (.v (.d (D.str bw))),some (.own ((oL (nZ D.str D.int D.int)) ([]:List (List Nat×Int×Int)))),some (.v (.d (D.str (sS "")))),none,none,none] (e6 (cD D.str (sS ""))) rfl (jm (jE (P:=fun(c2:(List (List Nat×Int×Int))×List Nat)=>[some (.v (.d (D.str bw))),some (.own ((oL (nZ D.str D.int D.int)) c2.1)),some (.v (.d (D.str c2.2))),none,none,none]) (S:=fun(c2:(List (List Nat×Int×Int))×List Nat)=>σ) (lA:=(fun(a1:List (Int×List Nat))=>a1)) (c0:=fun(a1:List (Int×List Nat))=>(([]:List (List Nat×Int×Int)),(sS ""))) (mb:=(fun(c2:(List (List Nat×Int×Int))×List Nat) (bW:Int×List Nat)=>(nox (dU bW.2)).bind fun one4=>((if((eqB one4 (sS ""))&&(!(eqB c2.2 (sS ""))))=true then(((((((qx c2.2).bind fun a14=>M.ok (bW.1-a14)).bind fun a15=>(M.ok ()).bind fun w16=>M.ok (a15,w16)).bind fun z17=>M.ok (c2.2,z17.1,bW.1)).bind fun a18=>(M.ok ()).bind fun w19=>M.ok (a18,w19)).bind fun z20=>gx c2.1 z20.1).bind fun dQ=>M.ok (dQ,(sS "")))else(M.ok (c2.1,c2.2))):M ((List (List Nat×Int×Int))×List Nat)).bind fun j13=>(jA j13.2 one4).bind fun kW=>M.ok (j13.1,kW))) (Ik (sv (bg (sv (ao (a:=bw) (e:=D.str) rfl)) (sv (cD D.str (sS " "))) uU))) (fun _=>by(repeat' (first | exact trivial | refine And.intro rfl ?_))) (fun _=>rfl) (fun c2 bW=>(e8 rfl rfl (aW bb (aW bb du)))) (fun c2 bW=>(cn (fun one4=>[some (.v (.d (D.str bw))),some (.own ((oL (nZ D.str D.int D.int)) c2.1)),some (.v (.d (D.str c2.2))),some (.v (.d (D.int bW.1))),some (.v (.d (D.str bW.2))),some (.v (.d (D.str one4)))]) (e6 (eW (R':=R) (post:=(pD D.str _ _)) (ah (sv (ao (a:=bW.2) (e:=D.str) rfl)) au) (.d .nil) rfl (DU (il:=bW.2)) (fun _=>rfl))) (fun _=>rfl) fun one4=>(tS (Pc:=fun(j13:(List (List Nat×Int×Int))×List Nat)=>[some (.v (.d (D.str bw))),some (.own ((oL (nZ D.str D.int D.int)) j13.1)),some (.v (.d (D.str j13.2))),some (.v (.d (D.int bW.1))),some (.v (.d (D.str bW.2))),some (.v (.d (D.str one4)))]) (Sc:=fun(j13:(List (List Nat×Int×Int))×List Nat)=>σ) (D3 (i1 (sv (bg (sv (ao (a:=one4) (e:=D.str) rfl)) (sv (cD D.str (sS ""))) (Dh cB cB qS (by decide))))) (Eb (i1 (sv (bg (sv (ao (a:=c2.2) (e:=D.str) rfl)) (sv (cD D.str (sS ""))) (ke cB cB qS (by decide))))))) (cn (fun dQ=>[some (.v (.d (D.str bw))),some (.own ((oL (nZ D.str D.int D.int)) dQ)),some (.v (.d (D.str c2.2))),some (.v (.d (D.int bW.1))),some (.v (.d (D.str bW.2))),some (.v (.d (D.str one4)))]) (mY (rQ (jW (j5 (a:=c2.1) rfl)) (fun _ hf=>tw (jS rfl) hf) (dt (sv (Ev.map (fun(z17:Int×Unit)=>(c2.2,z17.1,bW.1)) (pD (nZ D.str D.int D.int) _ _) (ja (ah (sv (ao (a:=c2.2) (e:=D.str) rfl)) (dt (sv (jl (sv (ao (a:=bW.1) (e:=D.int) rfl)) (sv (er (ah (sv (ao (a:=c2.2) (e:=D.str) rfl)) au) Co)) fun a14=>GS)) fun a15=>(ah (sv (ao (a:=bW.1) (e:=D.int) rfl)) au))) (fun _=>(.d (.d (.d .nil)))) (fun _=>rfl) (fun _=>rfl)) fun _=>rfl)) fun a18=>au) fun z20=>(rK rfl))) (fun _=>rfl) fun dQ=>(dr [some (.v (.d (D.str bw))),some (.own ((oL (nZ D.str D.int D.int)) dQ)),some (.v (.d (D.str (sS "")))),some (.v (.d (D.int bW.1))),some (.v (.d (D.str bW.2))),some (.v (.d (D.str one4)))] (e6 (cD D.str (sS ""))) rfl (gu rfl (by(repeat' (first | exact trivial | refine And.intro rfl ?_)))))) (gu rfl (by(repeat' (first | exact trivial | refine And.intro rfl ?_)))) fun j13=>(cn (fun kW=>[some (.v (.d (D.str bw))),some (.own ((oL (nZ D.str D.int D.int)) j13.1)),some (.v (.d (D.str kW))),some (.v (.d (D.int bW.1))),some (.v (.d (D.str bW.2))),some (.v (.d (D.str one4)))]) (e6 (bg (sv (ao (a:=j13.2) (e:=D.str) rfl)) (sv (ao (a:=one4) (e:=D.str) rfl)) uU)) (fun _=>rfl) fun kW=>(eU rfl (by(repeat' (first | exact trivial | refine And.intro rfl ?_))))))))) fun r23=>(cm (Es rfl rfl))))))
def jy(aQ:List (List Nat×List Nat)):M ((List (List Nat×(Int×(List (List Nat×List Int)))))):=(M.ok ([]:List (List Nat×(Int×(List (List Nat×List Int)))))).bind fun rn=>(foldM (fun(c2:List (List Nat×(Int×(List (List Nat×List Int))))) (bX:List Nat×List Nat)=>((nox (fZ bX.2)).bind fun a4=>foldM (fun(c5:(List (List Nat×List Int))×Int) (d8:List Nat×Int×Int)=>((gp ((eX c5.1 d8.1).getD ([]:List Int)) [c5.2]).bind fun a8=>(M.ok d8.1).bind fun a9=>gB c5.1 a9 a8).bind fun gN=>M.ok (gN,(c5.2+(1:Int)))) (([]:List (List Nat×List Int)),(0:Int)) a4).bind fun r10=>((if(decide ((0:Int)<r10.2))=true then(((M.ok (r10.2,r10.1)).bind fun a16=>(M.ok bX.1).bind fun a17=>gB c2 a17 a16).bind fun lX=>M.ok lX)else(M.ok c2)):M (List (List Nat×(Int×(List (List Nat×List Int)))))).bind fun j14=>M.ok j14) rn aQ).bind fun r18=>M.ok (r18)
theorem xH{R:List Ob→Prop}{σ:List Ob}{aQ:List (List Nat×List Nat)}:dW R gR [.d ((eL (aj D.str D.str)) aQ)] σ (jy aQ) (fun v=>(.new ((bG (aj D.int (az (eL D.int)))) v),σ)):=(fH (cn (fun rn=>[some (.v (.d ((eL (aj D.str D.str)) aQ))),some (.own ((bG (aj D.int (az (eL D.int)))) rn)),none,none,none,none,none,none,none]) (pI (qv (e:=(aj D.int (az (eL D.int)))))) (fun _=>rfl) fun rn=>(jm (jQ (P:=fun(c2:List (List Nat×(Int×(List (List Nat×List Int)))))=>[some (.v (.d ((eL (aj D.str D.str)) aQ))),some (.own ((bG (aj D.int (az (eL D.int)))) c2)),none,none,none,none,none,none,none]) (S:=fun(c2:List (List Nat×(Int×(List (List Nat×List Int)))))=>σ) (c0:=rn) (mb:=(fun(c2:List (List Nat×(Int×(List (List Nat×List Int))))) (bX:List Nat×List Nat)=>((nox (fZ bX.2)).bind fun a4=>foldM (fun(c5:(List (List Nat×List Int))×Int) (d8:List Nat×Int×Int)=>((gp ((eX c5.1 d8.1).getD ([]:List Int)) [c5.2]).bind fun a8=>(M.ok d8.1).bind fun a9=>gB c5.1 a9 a8).bind fun gN=>M.ok (gN,(c5.2+(1:Int)))) (([]:List (List Nat×List Int)),(0:Int)) a4).bind fun r10=>((if(decide ((0:Int)<r10.2))=true then(((M.ok (r10.2,r10.1)).bind fun a16=>(M.ok bX.1).bind fun a17=>gB c2 a17 a16).bind fun lX=>M.ok lX)else(M.ok c2)):M (List (List Nat×(Int×(List (List Nat×List Int)))))).bind fun j14=>M.ok j14)) (gU (sv (ao (a:=aQ) (e:=(eL (aj D.str D.str))) rfl))) (by(repeat' (first | exact trivial | refine And.intro rfl ?_))) rfl (fun c2 bX=>(e8 rfl rfl (aW bb (aW bb du)))) (fun c2 bX=>(dr [some (.v (.d ((eL (aj D.str D.str)) aQ))),some (.own ((bG (aj D.int (az (eL D.int)))) c2)),some (.v (.d (D.str bX.1))),some (.v (.d (D.str bX.2))),some (.own ((bG (eL D.int)) ([]:List (List Nat×List Int)))),none,none,none,none] (pI (qv (e:=(eL D.int)))) rfl (dr [some (.v (.d ((eL (aj D.str D.str)) aQ))),some (.own ((bG (aj D.int (az (eL D.int)))) c2)),some (.v (.d (D.str bX.1))),some (.v (.d (D.str bX.2))),some (.own ((bG (eL D.int)) ([]:List (List Nat×List Int)))),some (.v (.d (D.int (0:Int)))),none,none,none] (e6 (cD D.int (0:Int))) rfl (jm (jE (P:=fun(c5:(List (List Nat×List Int))×Int)=>[some (.v (.d ((eL (aj D.str D.str)) aQ))),some (.own ((bG (aj D.int (az (eL D.int)))) c2)),some (.v (.d (D.str bX.1))),some (.v (.d (D.str bX.2))),some (.own ((bG (eL D.int)) c5.1)),some (.v (.d (D.int c5.2))),none,none,none]) (S:=fun(c5:(List (List Nat×List Int))×Int)=>σ) (lA:=(fun(a4:List (List Nat×Int×Int))=>a4)) (c0:=fun(a4:List (List Nat×Int×Int))=>(([]:List (List Nat×List Int)),(0:Int))) (mb:=(fun(c5:(List (List Nat×List Int))×Int) (d8:List Nat×Int×Int)=>((gp ((eX c5.1 d8.1).getD ([]:List Int)) [c5.2]).bind fun a8=>(M.ok d8.1).bind fun a9=>gB c5.1 a9 a8).bind fun gN=>M.ok (gN,(c5.2+(1:Int))))) (gU (sn (eW (R':=R) (post:=(pN (oL (nZ D.str D.int D.int)) _ _)) (ah (sv (ao (a:=bX.2) (e:=D.str) rfl)) au) (.d .nil) rfl (CD (bw:=bX.2)) (fun _=>rfl)) (fun v=>bc _ v))) (fun _=>by(repeat' (first | exact trivial | refine And.intro rfl ?_))) (fun _=>rfl) (fun c5 d8=>(e8 rfl rfl (aW bb (aW bb (aW bb du))))) (fun c5 d8=>(cn (fun gN=>[some (.v (.d ((eL (aj D.str D.str)) aQ))),some (.own ((bG (aj D.int (az (eL D.int)))) c2)),some (.v (.d (D.str bX.1))),some (.v (.d (D.str bX.2))),some (.own ((bG (eL D.int)) gN)),some (.v (.d (D.int c5.2))),some (.v (.d (D.str d8.1))),some (.v (.d (D.int d8.2.1))),some (.v (.d (D.int d8.2.2)))]) (Kj rfl (sn (bg (wb (jW (j5 (a:=c5.1) rfl)) (Mu rfl) (sv (ao (a:=d8.1) (e:=D.str) rfl)) (sn (Ev.cI (post2:=(pN (oL D.int) _ _)) (cq (l:=fun _=>([]:List Int)) (e:=D.int) au (fun _=>.nil) (fun _=>rfl) (fun _=>rfl)) rfl) (fun v=>bc _ v))) (sn (Ev.cI (post2:=(pN (oL D.int) _ _)) (cq (l:=fun _=>([c5.2]:List Int)) (e:=D.int) (ah (sv (ao (a:=c5.2) (e:=D.int) rfl)) au) (fun _=>(.d .nil)) (fun _=>rfl) (fun _=>rfl)) rfl) (fun v=>bc _ v)) (add_l dY dY)) (fun v=>bc _ v)) (fun _=>(sv (ao (a:=d8.1) (e:=D.str) rfl)))) (fun _=>rfl) fun gN=>(dr [some (.v (.d ((eL (aj D.str D.str)) aQ))),some (.own ((bG (aj D.int (az (eL D.int)))) c2)),some (.v (.d (D.str bX.1))),some (.v (.d (D.str bX.2))),some (.own ((bG (eL D.int)) gN)),some (.v (.d (D.int (c5.2+(1:Int))))),some (.v (.d (D.str d8.1))),some (.v (.d (D.int d8.2.1))),some (.v (.d (D.int d8.2.2)))] (Lh (a:=c5.2) rfl rfl (sv (cD D.int (1:Int)))) rfl (eU rfl (by(repeat' (first | exact trivial | refine And.intro rfl ?_)))))))) fun r10=>(tS (Pc:=fun(j14:List (List Nat×(Int×(List (List Nat×List Int)))))=>[some (.v (.d ((eL (aj D.str D.str)) aQ))),some (.own ((bG (aj D.int (az (eL D.int)))) j14)),some (.v (.d (D.str bX.1))),some (.v (.d (D.str bX.2))),none,some (.v (.d (D.int r10.2))),none,none,none]) (Sc:=fun(j14:List (List Nat×(Int×(List (List Nat×List Int)))))=>σ) (i1 (sv (bg (sv (ao (a:=r10.2) (e:=D.int) rfl)) (sv (cD D.int (0:Int))) Of))) (cn (fun lX=>[some (.v (.d ((eL (aj D.str D.str)) aQ))),some (.own ((bG (aj D.int (az (eL D.int)))) lX)),some (.v (.d (D.str bX.1))),some (.v (.d (D.str bX.2))),some (.v (.d ((az (eL D.int)) r10.1))),some (.v (.d (D.int r10.2))),none,none,none]) (IZ (fun _=>[some (.v (.d ((eL (aj D.str D.str)) aQ))),some (.own ((bG (aj D.int (az (eL D.int)))) c2)),some (.v (.d (D.str bX.1))),some (.v (.d (D.str bX.2))),some (.v (.d ((az (eL D.int)) r10.1))),some (.v (.d (D.int r10.2))),none,none,none]) (sv (Ev.cI (post2:=(pD (aj D.int (az (eL D.int))) _ _)) (ja (ah (sv (ao (a:=r10.2) (e:=D.int) rfl)) (ah (jW (j5 (a:=r10.1) rfl)) au)) (fun _=>(.d (.o rfl (oU _ _) .nil))) (fun _=>rfl) (fun _=>rfl)) rfl)) (fun _=>rfl) (fun _=>(sv (ao (a:=bX.1) (e:=D.str) rfl))) [some (.v (.d ((eL (aj D.str D.str)) aQ))),some (.own ((bG (aj D.int (az (eL D.int)))) c2)),some (.v (.d (D.str bX.1))),some (.v (.d (D.str bX.2))),some (.v (.d ((az (eL D.int)) r10.1))),some (.v (.d (D.int r10.2))),none,none,none] (fun _ _=>rfl)) (fun _=>rfl) fun lX=>(gu rfl (by(repeat' (first | exact trivial | refine And.intro rfl ?_))))) (gu rfl (by(repeat' (first | exact trivial | refine And.intro rfl ?_)))) fun j14=>(eU rfl (by(repeat' (first | exact trivial | refine And.intro rfl ?_)))))))))) fun r18=>(cm (Es rfl rfl)))))
def dD(bw:List Nat):M ((List (List Nat))):=(((jA bw (sS " ")).bind fun t=>M.ok (chars t)).bind fun a1=>foldM (fun(c2:(List (List Nat))×List Nat) (gh:List Nat)=>((if(subIn gh (sS "abcdefghijklmnopqrstuvwxyzABCDEFGHIJKLMNOPQRSTUVWXYZ0123456789"))=true then(((tM gh).bind fun a10=>jA c2.2 a10).bind fun kX=>M.ok (c2.1,kX))else(((if(!(eqB c2.2 (sS "")))=true then((gx c2.1 c2.2).bind fun iY=>M.ok (iY,(sS "")))else(M.ok (c2.1,c2.2))):M ((List (List Nat))×List Nat)).bind fun j13=>M.ok (j13.1,j13.2))):M ((List (List Nat))×List Nat)).bind fun j9=>M.ok (j9.1,j9.2)) (([]:List (List Nat)),(sS "")) a1).bind fun r15=>M.ok (r15.1)
theorem qH{R:List Ob→Prop}{σ:List Ob}{bw:List Nat}:dW R en [.d (D.str bw)] σ (dD bw) (fun v=>(.new ((oL D.str) v),σ)):=(fH (dr [some (.v (.d (D.str bw))),some (.own ((oL D.str) ([]:List (List Nat)))),none,none] (pI (Ev.cI (post2:=(pN (oL D.str) _ _)) (cq (l:=fun _=>([]:List (List Nat))) (e:=D.str) au (fun _=>.nil) (fun _=>rfl) (fun _=>rfl)) rfl)) rfl (dr [some (.v (.d (D.str bw))),some (.own ((oL D.str) ([]:List (List Nat)))),some (.v (.d (D.str (sS "")))),none] (e6 (cD D.str (sS ""))) rfl (jm (jE (P:=fun(c2:(List (List Nat))×List Nat)=>[some (.v (.d (D.str bw))),some (.own ((oL D.str) c2.1)),some (.v (.d (D.str c2.2))),none]) (S:=fun(c2:(List (List Nat))×List Nat)=>σ) (lA:=(fun(a1:List (List Nat))=>a1)) (c0:=fun(a1:List (List Nat))=>(([]:List (List Nat)),(sS ""))) (mb:=(fun(c2:(List (List Nat))×List Nat) (gh:List Nat)=>((if(subIn gh (sS "abcdefghijklmnopqrstuvwxyzABCDEFGHIJKLMNOPQRSTUVWXYZ0123456789"))=true then(((tM gh).bind fun a10=>jA c2.2 a10).bind fun kX=>M.ok (c2.1,kX))else(((if(!(eqB c2.2 (sS "")))=true then((gx c2.1 c2.2).bind fun iY=>M.ok (iY,(sS "")))else(M.ok (c2.1,c2.2))):M ((List (List Nat))×List Nat)).bind fun j13=>M.ok (j13.1,j13.2))):M ((List (List Nat))×List Nat)).bind fun j9=>M.ok (j9.1,j9.2))) (GO (sv (bg (sv (ao (a:=bw) (e:=D.str) rfl)) (sv (cD D.str (sS " "))) uU))) (fun _=>by(repeat' (first | exact trivial | refine And.intro rfl ?_))) (fun _=>rfl) (fun c2 gh=>bb) (fun c2 gh=>(tS (Pc:=fun(j9:(List (List Nat))×List Nat)=>[some (.v (.d (D.str bw))),some (.own ((oL D.str) j9.1)),some (.v (.d (D.str j9.2))),some (.v (.d (D.str gh)))]) (Sc:=fun(j9:(List (List Nat))×List Nat)=>σ) (i1 (sv (bg (sv (ao (a:=gh) (e:=D.str) rfl)) (sv (cD D.str (sS "abcdefghijklmnopqrstuvwxyzABCDEFGHIJKLMNOPQRSTUVWXYZ0123456789"))) yX))) (cn (fun kX=>[some (.v (.d (D.str bw))),some (.own ((oL D.str) c2.1)),some (.v (.d (D.str kX))),some (.v (.d (D.str gh)))]) (e6 (jl (sv (ao (a:=c2.2) (e:=D.str) rfl)) (sv (qY (sv (ao (a:=gh) (e:=D.str) rfl)) (fun _ _=>rfl) au Nu)) fun a10=>uU)) (fun _=>rfl) fun kX=>(gu rfl (by(repeat' (first | exact trivial | refine And.intro rfl ?_))))) (tS (Pc:=fun(j13:(List (List Nat))×List Nat)=>[some (.v (.d (D.str bw))),some (.own ((oL D.str) j13.1)),some (.v (.d (D.str j13.2))),some (.v (.d (D.str gh)))]) (Sc:=fun(j13:(List (List Nat))×List Nat)=>σ) (i1 (sv (bg (sv (ao (a:=c2.2) (e:=D.str) rfl)) (sv (cD D.str (sS ""))) (ke cB cB qS (by decide))))) (cn (fun iY=>[some (.v (.d (D.str bw))),some (.own ((oL D.str) iY)),some (.v (.d (D.str c2.2))),some (.v (.d (D.str gh)))]) (mY (qY (jW (j5 (a:=c2.1) rfl)) (fun _ hf=>tw (jS rfl) hf) (ah (sv (ao (a:=c2.2) (e:=D.str) rfl)) au) (rK rfl))) (fun _=>rfl) fun iY=>(dr [some (.v (.d (D.str bw))),some (.own ((oL D.str) iY)),some (.v (.d (D.str (sS "")))),some (.v (.d (D.str gh)))] (e6 (cD D.str (sS ""))) rfl (gu rfl (by(repeat' (first | exact trivial | refine And.intro rfl ?_)))))) (gu rfl (by(repeat' (first | exact trivial | refine And.intro rfl ?_)))) fun j13=>(gu rfl (by(repeat' (first | exact trivial | refine And.intro rfl ?_))))) fun j9=>(eU rfl (by(repeat' (first | exact trivial | refine And.intro rfl ?_))))))) fun r15=>(cm (Es rfl rfl))))))
end K06
namespace K06
open PySem L2 PyProof.Rows Vw
abbrev In:Type:=List (List Nat×List (Int×List Int))
abbrev Tb:Type:=List (List Nat×In)
abbrev Ls:Type:=List (List K0×Int)
def refs:Nat→List (List Nat)→List (K0×Val)
 | _,[]=>[]
 | k,f::r=>(K0.s f,Val.r k)::refs (k+1) r
def ix:List (List Nat)→List Nat→Option Nat
 | [],_=>none
 | g::r,f=>if g=f then some 0 else(ix r f).map (· +1)
def keys(tb:Tb):List (List Nat):=tb.map (·.1)
def zu(hm:List Int):Ob:=.ins "Piece" [("held_makes",.d (eL D.int hm)),("lengths",.r 1),("table",.r 2)]
def B2(ls:Ls):Ob:=.dit false (ls.map fun p=>(p.1,Val.d (D.int p.2)))
def bM(hm:List Int)(ls:Ls)(tb:Tb):List Ob:=zu hm::B2 ls:: .dic false (refs 3 (keys tb))::tb.map (fun p=>bG (eL (aj D.int (eL D.int))) p.2)
def ad(tb:Tb)(f:List Nat):Tb:=if(ix (keys tb) f).isSome then tb else tb++[(f,[])]
def jx(tb:Tb)(f:List Nat):Nat:=(ix (keys tb) f).getD tb.length
def k6(tb:Tb)(j:Nat):In:=(tb[j]?.map (·.2)).getD []
def setIn(tb:Tb)(j:Nat)(d:In):Tb:=tb.modify j fun p=>(p.1,d)
theorem nk{κ α:Type}[DecidableEq κ](a:κ)(v:α)(l:List (κ×α))(k:κ):aA ((a,v)::l) k=if a=k then some v else aA l k:=by
 unfold aA
 by_cases h:a=k
 ·simp[h]
 ·simp[h]
theorem xM(l:List (List Nat))(f:List Nat):∀ k,aA (refs k l) (K0.s f)=(ix l f).map fun j=>Val.r (k+j):=by
 induction l with
 | nil=>intro k;rfl
 | cons g r ih=>
  intro k
  rw[refs,ix,nk]
  by_cases h:g=f
  ·subst h;simp
  ·have:¬ K0.s g=K0.s f:=fun z=>h (by cases z;rfl)
   rw[if_neg this,if_neg h,ih (k+1)]
   cases ix r f with
   | none=>rfl
   | some j=>
    show some (Val.r (k+1+j))=some (Val.r (k+(j+1)))
    rw[show k+1+j=k+(j+1) by omega]
theorem yE:∀ {l:List (List Nat)} {f:List Nat},ix l f=none→f∉l
 | [],f,h=>by simp
 | g::r,f,h=>by
  unfold ix at h
  split at h
  ·cases h
  ·rename_i hg
   have:=yE (Option.map_eq_none_iff.mp h)
   simp only[List.mem_cons,not_or]
   exact⟨fun z=>hg z.symm,this⟩
theorem lR:∀ {l:List (List Nat)} {f:List Nat} {j:Nat},ix l f=some j→l[j]? =some f
 | [],f,j,h=>by cases h
 | g::r,f,j,h=>by
  unfold ix at h
  split at h
  ·rename_i hg;cases h;simp[hg]
  ·obtain⟨i,e,rfl⟩:=Option.map_eq_some_iff.mp h
   rw[List.getElem?_cons_succ];exact lR e
theorem lZ:∀ (l:List (List Nat)) (k:Nat),(refs k l).map (·.1)=l.map K0.s
 | [],k=>rfl
 | f::r,k=>by rw[refs,List.map_cons,lZ r];rfl
theorem z6(l:List (List Nat))(k:Nat):(refs k l).length=l.length:=by
 have:=congrArg List.length (lZ l k)
 simpa using this
theorem sV:∀ (l:List (List Nat)) (f:List Nat) (k:Nat),refs k (l++[f])=refs k l++[(K0.s f,Val.r (k+l.length))]
 | [],f,k=>rfl
 | g::r,f,k=>by
  rw[List.cons_append,refs,refs,sV r,List.cons_append,List.length_cons,show k+1+r.length=k+(r.length+1) by omega]
theorem Ab{l:List (List Nat)}{f:List Nat}(h:ix l f=none)(k:Nat)(v:Val):aO (refs k l) (K0.s f) v=refs k l++[(K0.s f,v)]:=by
 unfold aO
 have:((refs k l).any fun p=>decide (p.1=K0.s f))=false:=by
  rw[Bool.eq_false_iff]
  intro z
  obtain⟨p,hp,e⟩:=List.any_eq_true.mp z
  have e:=of_decide_eq_true e
  have:p.1∈l.map K0.s:=by rw[←lZ l k];exact List.mem_map_of_mem hp
  rw[e]at this
  obtain⟨g,hg,e2⟩:=List.mem_map.mp this
  cases e2
  exact yE h hg
 rw[this];rfl
theorem E4{κ α:Type}[DecidableEq κ]{c:κ}{v:α}{l:List (κ×α)}(h:∀ p∈l,p.1=c→p.2=v):l.map (fun p=>if p.1=c then(p.1,v)else p)=l:=by
 conv=>rhs;rw[←List.map_id l]
 apply List.map_congr_left
 intro p hp
 by_cases hc:p.1=c
 ·rw[if_pos hc,←h p hp hc];rfl
 ·rw[if_neg hc];rfl
theorem yl:∀ {l:List (List Nat)} {f:List Nat} {j:Nat} (k:Nat),l.Nodup→ix l f=some j→∀ p∈refs k l,p.1=K0.s f→p.2=Val.r (k+j)
 | [],f,j,k,hn,h=>by cases h
 | g::r,f,j,k,hn,h=>by
  intro p hp e
  rw[List.nodup_cons]at hn
  unfold refs at hp
  unfold ix at h
  rcases List.mem_cons.mp hp with rfl | hp
  ·have:g=f:=by cases e;rfl
   rw[if_pos this]at h;cases h;rfl
  ·have hm:f∈r:=by
    have:p.1∈r.map K0.s:=by rw[←lZ r (k+1)];exact List.mem_map_of_mem hp
    rw[e]at this
    obtain⟨x,hx,e2⟩:=List.mem_map.mp this
    cases e2;exact hx
   have hg:¬ g=f:=fun z=>hn.1 (z▸hm)
   rw[if_neg hg]at h
   obtain⟨i,e3,rfl⟩:=Option.map_eq_some_iff.mp h
   rw[yl (k+1) hn.2 e3 p hp e]
   congr 1;omega
theorem yn{l:List (List Nat)}{f:List Nat}{j:Nat}(hn:l.Nodup)(h:ix l f=some j)(k:Nat):aO (refs k l) (K0.s f) (Val.r (k+j))=refs k l:=by
 unfold aO
 split
 ·exact E4 (yl k hn h)
 ·rename_i hx
  exfalso;apply hx
  have:f∈l:=List.mem_of_getElem? (lR h)
  have:K0.s f∈(refs k l).map (·.1):=by rw[lZ];exact List.mem_map_of_mem this
  obtain⟨p,hp,e⟩:=List.mem_map.mp this
  exact List.any_eq_true.mpr ⟨p,hp,decide_eq_true e⟩
theorem lI(tb:Tb)(j:Nat)(d:In):keys (setIn tb j d)=keys tb:=by
 unfold keys setIn
 induction tb generalizing j with
 | nil=>cases j<;> rfl
 | cons p r ih=>cases j with
  | zero=>rfl
  | succ j=>rw[List.modify_succ_cons,List.map_cons,List.map_cons,ih]
theorem xi(tb:Tb)(j:Nat)(d d':In):((setIn tb j d).map fun p=>bG (eL (aj D.int (eL D.int))) p.2).set j (bG (eL (aj D.int (eL D.int))) d')=(setIn tb j d').map fun p=>bG (eL (aj D.int (eL D.int))) p.2:=by
 unfold setIn
 induction tb generalizing j with
 | nil=>cases j<;> rfl
 | cons p r ih=>cases j with
  | zero=>rfl
  | succ j=>rw[List.modify_succ_cons,List.modify_succ_cons,List.map_cons,List.map_cons,List.set_cons_succ,ih]
theorem xu(tb:Tb)(j:Nat)(d:In)(h:j<tb.length):((setIn tb j d).map fun p=>bG (eL (aj D.int (eL D.int))) p.2)[j]? =some (bG (eL (aj D.int (eL D.int))) d):=by
 unfold setIn
 induction tb generalizing j with
 | nil=>cases h
 | cons p r ih=>cases j with
  | zero=>rfl
  | succ j=>rw[List.modify_succ_cons,List.map_cons,List.getElem?_cons_succ,ih j (by simpa using h)]
theorem Ad(tb:Tb)(j:Nat):setIn tb j (k6 tb j)=tb:=by
 unfold setIn k6
 induction tb generalizing j with
 | nil=>cases j<;> rfl
 | cons p r ih=>cases j with
  | zero=>rfl
  | succ j=>rw[List.modify_succ_cons,List.getElem?_cons_succ,ih]
theorem GG(tb:Tb)(f:List Nat):jx tb f<(ad tb f).length:=by
 unfold jx ad
 cases h:ix (keys tb) f with
 | none=>simp
 | some j=>
  have:=lR h
  have:=(List.getElem?_eq_some_iff.mp this).1
  simpa [keys]using this
def rj(tb:Tb):Bool:=decide (tb.length<sizeLine)&&decide ((keys tb).Nodup)
def m5(hm:List Int)(ls:Ls)(tb:Tb)(f:List Nat):List Ob:=if(ix (keys tb) f).isSome then bM hm ls tb else bM hm ls tb++[bG (eL (aj D.int (eL D.int))) []]
section
variable{R:List Ob→Prop}{p:Pt}{hm:List Int}{ls:Ls}{tb:Tb}{f:List Nat}
theorem B3(h0:p[0]? =some (some (.v (.r 0)))){σ:List Ob}(hs:σ[0]? =some (zu hm)):Ev R p σ (eB fT "table" (aa 0)) (.ok ()) (fun _=>(.val (.r 2),p,σ)):=uG (i:=0) (n:=0) (e:=fun _=>.r 2) h0 hs (by decide) rfl
theorem HL(h0:p[0]? =some (some (.v (.r 0)))){σ:List Ob}(hs:σ[0]? =some (zu hm)):Ev R p σ (eB fT "lengths" (aa 0)) (.ok ()) (fun _=>(.val (.r 1),p,σ)):=uG (i:=0) (n:=0) (e:=fun _=>.r 1) h0 hs (by decide) rfl
theorem K5(h0:p[0]? =some (some (.v (.r 0))))(h1:p[1]? =some (some (.v (.d (.str f))))):Ev R p (bM hm ls tb) (mu (iy (eB fT "table" (aa 0)) (aa 1) cN)) (.ok ()) (fun _=>(.val (.r (3+jx tb f)),p,m5 hm ls tb f)):=by
 unfold mu
 refine Ev.aZ (a:=()) (post:=fun _=>(match ix (keys tb) f with | some j=>RV.val (.r (3+j)) | none=>RV.new (.dic false []),p,bM hm ls tb)) ?_ fun sg hf=>?_
 ·unfold iy
  refine Ev.aZ (sv (B3 h0 rfl)) ?_
  refine fun sg hf=>?_
  have hd:gF ⟨sg,bM hm ls tb⟩ (.val (.r 2))=some (refs 3 (keys tb)):=rfl
  have hi:ib ⟨sg,bM hm ls tb⟩ (.val (.r 2))=true:=by unfold ib;rw[hd];rfl
  dsimp only
  rw[hi,if_pos rfl]
  refine Ev.aZ (sv (ao (e:=D.str) (a:=f) h1)) (fun sg hf=>?_) sg hf
  dsimp only
  show Rn R ((cN ⟨sg,bM hm ls tb⟩).bind _) _ _
  have hg:d4 ⟨sg,bM hm ls tb⟩ (.val (.r 2)) (.val (.d (.str f)))=some (aA (refs 3 (keys tb)) (K0.s f)):=rfl
  unfold cN
  rw[Res.ae]
  rw[hg,xM]
  cases ix (keys tb) f with
  | some j=>exact⟨sg,rfl,hf⟩
  | none=>exact⟨sg,rfl,hf⟩
 ·unfold jx m5
  cases ix (keys tb) f with
  | some j=>exact⟨sg,rfl,hf⟩
  | none=>
   refine⟨sg,?_,hf⟩
   show ym (RV.new (.dic false [])) ⟨sg,bM hm ls tb⟩=_
   have:(bM hm ls tb).length=3+tb.length:=by simp[bM];omega
   show Res.ok (RV.val (Val.r (bM hm ls tb).length)) ⟨sg,bM hm ls tb++[.dic false []]⟩=_
   rw[this];rfl
theorem Js(h0:p[0]? =some (some (.v (.r 0))))(h1:p[1]? =some (some (.v (.d (.str f)))))(h4:p[4]? =some (some (.v (.r (3+jx tb f))))):Ev R p (m5 hm ls tb f) (fu (eB fT "table" (aa 0)) (aa 1) (aa 4)) (gd (rj tb)) (fun _=>(.nx,p,bM hm ls (ad tb f))):=by
 have hs:(m5 hm ls tb f)[0]? =some (zu hm):=by unfold m5;split<;> rfl
 refine Ev.aZ (a:=()) (sv (mI h4)) (Ev.aZ (sv (B3 h0 hs)) (Ev.aZ (sv (ao (e:=D.str) (a:=f) h1)) fun sg hf=>?_))
 dsimp only
 cases hk:rj tb with
 | false=>trivial
 | true=>
  rw[i2]
  refine⟨sg,?_,hf⟩
  rw[show bL (RV.val (Val.r (3+jx tb f))) ⟨sg,m5 hm ls tb f⟩=Res.ok (Val.r (3+jx tb f)) ⟨sg,m5 hm ls tb f⟩from rfl]
  dsimp only
  unfold rj at hk
  rw[Bool.and_eq_true,decide_eq_true_eq,decide_eq_true_eq]at hk
  have e0:ff (.val (.r 2)) (.val (.d (.str f))) (Val.r (3+jx tb f)) ⟨sg,m5 hm ls tb f⟩=some ⟨sg,bM hm ls (ad tb f)⟩:=by
   have ho:ob ⟨sg,m5 hm ls tb f⟩ (.val (.r 2))=some (.dic false (refs 3 (keys tb))):=by unfold m5;split<;> rfl
   unfold ff
   rw[ho]
   show(if(refs 3 (keys tb)).length<sizeLine then some (wr (.val (.r 2)) (.dic false (aO (refs 3 (keys tb)) (K0.s f) (Val.r (3+jx tb f)))) ⟨sg,m5 hm ls tb f⟩)else none)=_
   rw[if_pos (by rw[z6];simpa [keys]using hk.1)]
   unfold m5 jx ad
   cases hx:ix (keys tb) f with
   | some j=>
    rw[Option.getD_some,yn hk.2 hx]
    rfl
   | none=>
    rw[Option.getD_none,Ab hx]
    show some ({ sg:=sg,st:=(bM hm ls tb++[bG (eL (aj D.int (eL D.int))) []]).set 2 _ }:State)=some ⟨sg,bM hm ls (tb++[(f,[])])⟩
    congr 2
    unfold bM
    simp only[List.cons_append,List.set_cons_succ,List.set_cons_zero,keys,List.map_append,List.map_cons,List.map_nil,sV,List.length_map]
  rw[e0];rfl
theorem Ko(j:Nat)(h:j<tb.length)(d:In):(bM hm ls (setIn tb j d))[3+j]? =some (bG (eL (aj D.int (eL D.int))) d):=by
 unfold bM
 rw[show 3+j=j+1+1+1 by omega,List.getElem?_cons_succ,List.getElem?_cons_succ,List.getElem?_cons_succ]
 exact xu tb j d h
theorem LY(j:Nat)(d d':In):(bM hm ls (setIn tb j d)).set (3+j) (bG (eL (aj D.int (eL D.int))) d')=bM hm ls (setIn tb j d'):=by
 unfold bM
 rw[show 3+j=j+1+1+1 by omega,List.set_cons_succ,List.set_cons_succ,List.set_cons_succ,xi,lI,lI]
end
def yx(aH:Int)(aG:List (List Nat×List Int))(d:List (List Nat×(List (Int×List Int)))):M (List (List Nat×(List (Int×List Int)))):=(foldM (fun(c1:List (List Nat×(List (Int×List Int)))) (dJ:List Nat)=>(((((((mm aG dJ).bind fun a3=>(M.ok ()).bind fun w4=>M.ok (a3,w4)).bind fun z5=>M.ok (aH,z5.1)).bind fun a6=>(M.ok ()).bind fun w7=>M.ok (a6,w7)).bind fun z8=>M.ok [z8.1]).bind fun a9=>gp ((eX c1 dJ).getD ([]:List (Int×List Int))) a9).bind fun a11=>(M.ok dJ).bind fun a12=>gB c1 a12 a11).bind fun d10=>M.ok d10) d (aG.map fun p=>p.1)).bind fun r13=>M.ok r13
theorem JM{R:List Ob→Prop}{S:(List (List Nat×(List (Int×List Int))))→List Ob}{n:Nat}{aC:List Nat}{aH:Int}{aG:List (List Nat×List Int)}(hr:∀ d,(S d)[n]? =some ((bG (eL (aj D.int (eL D.int)))) d))(hw:∀ d d',(S d).set n ((bG (eL (aj D.int (eL D.int)))) d')=S d')(d:List (List Nat×(List (Int×List Int)))):Sg false R [some (.v (.r 0)),some (.v (.d (D.str aC))),some (.v (.d (D.int aH))),some (.v (.d ((az (eL D.int)) aG))),some (.v (.r n)),none] (S d) (ak [iM]) (yx aH aG d) (fun v=>.nx [some (.v (.r 0)),some (.v (.d (D.str aC))),some (.v (.d (D.int aH))),some (.v (.d ((az (eL D.int)) aG))),some (.v (.r n)),none] (S v)):=(jm (jQ (P:=fun(c1:List (List Nat×(List (Int×List Int))))=>[some (.v (.r 0)),some (.v (.d (D.str aC))),some (.v (.d (D.int aH))),some (.v (.d ((az (eL D.int)) aG))),some (.v (.r n)),none]) (S:=fun(c1:List (List Nat×(List (Int×List Int))))=>S c1) (c0:=d) (mb:=(fun(c1:List (List Nat×(List (Int×List Int)))) (dJ:List Nat)=>(((((((mm aG dJ).bind fun a3=>(M.ok ()).bind fun w4=>M.ok (a3,w4)).bind fun z5=>M.ok (aH,z5.1)).bind fun a6=>(M.ok ()).bind fun w7=>M.ok (a6,w7)).bind fun z8=>M.ok [z8.1]).bind fun a9=>gp ((eX c1 dJ).getD ([]:List (Int×List Int))) a9).bind fun a11=>(M.ok dJ).bind fun a12=>gB c1 a12 a11).bind fun d10=>M.ok d10)) (Gy (sv (ao (a:=aG) (e:=(az (eL D.int))) rfl))) (by(repeat' (first | exact trivial | refine And.intro rfl ?_))) rfl (fun c1 dJ=>bb) (fun c1 dJ=>(bQ (fun _=>[some (.v (.r 0)),some (.v (.d (D.str aC))),some (.v (.d (D.int aH))),some (.v (.d ((az (eL D.int)) aG))),some (.v (.r n)),some (.v (.d (D.str dJ)))]) (fun d10=>S d10) (BN (sn (jl (wb (sv (mI (a:=c1) rfl)) (GJ (hr _)) (sv (ao (a:=dJ) (e:=D.str) rfl)) (sn (Ev.cI (post2:=(pN (oL (aj D.int (eL D.int))) _ _)) (cq (l:=fun _=>([]:List (Int×List Int))) (e:=(aj D.int (eL D.int))) au (fun _=>.nil) (fun _=>rfl) (fun _=>rfl)) rfl) (fun v=>bc _ v))) (sn (Ev.map (fun(z8:(Int×List Int)×Unit)=>[z8.1]) (pN (oL (aj D.int (eL D.int))) _ _) (cq (l:=fun z8=>([z8.1]:List (Int×List Int))) (e:=(aj D.int (eL D.int))) (dt (sv (Ev.map (fun(z5:List Int×Unit)=>(aH,z5.1)) (pD (aj D.int (eL D.int)) _ _) (ja (ah (sv (ao (a:=aH) (e:=D.int) rfl)) (dt (sv (bg (sv (ao (a:=aG) (e:=(az (eL D.int))) rfl)) (sv (ao (a:=dJ) (e:=D.str) rfl)) (HF ij))) fun a3=>au)) (fun _=>(.d (.d .nil))) (fun _=>rfl) (fun _=>rfl)) fun _=>rfl)) fun a6=>au) (fun _=>(.d .nil)) (fun _=>rfl) (fun _=>rfl)) fun _=>rfl) (fun v=>bc _ v)) fun a9=>(add_l dY dY)) (fun v=>bc _ v)) (Ev.cI (b:=()) (sv (mI (a:=c1) rfl)) rfl) (hr _) (sv (ao (a:=dJ) (e:=D.str) rfl))) (fun _=>rfl) (fun _=>hw _ _) fun d10=>(eU rfl (by(repeat' (first | exact trivial | refine And.intro rfl ?_))))))) fun r13=>(gu (p':=[some (.v (.r 0)),some (.v (.d (D.str aC))),some (.v (.d (D.int aH))),some (.v (.d ((az (eL D.int)) aG))),some (.v (.r n)),none]) rfl (by(repeat' (first | exact trivial | refine And.intro rfl ?_)))))
def l8(tb:Tb)(f:List Nat)(aH:Int)(aG:List (List Nat×List Int)):M Tb:=(gd (rj tb)).bind fun _=>(yx aH aG (k6 (ad tb f) (jx tb f))).bind fun d=>.ok (setIn (ad tb f) (jx tb f) d)
theorem Le{R:List Ob→Prop}{hm:List Int}{ls:Ls}{tb:Tb}{f:List Nat}{aH:Int}{aG:List (List Nat×List Int)}:dW R dX [.r 0,.d (.str f),.d (D.int aH),.d ((az (eL D.int)) aG)] (bM hm ls tb) (l8 tb f aH aG) (fun v=>(.val (.d .non),bM hm ls v)):=by
 refine p7 (w:=false) (P:=fun _=>[none,none,none,none,none,none]) ?_ (fun _=>rfl)
 refine fB [some (.v (.r 0)),some (.v (.d (.str f))),some (.v (.d (D.int aH))),some (.v (.d ((az (eL D.int)) aG))),some (.v (.r (3+jx tb f))),none] (m5 hm ls tb f) (e6 (x:=fun _=>.r (3+jx tb f)) (P:=fun _=>_) (S:=fun _=>_) (K5 rfl rfl)) rfl rfl ?_
 have h1:Ev R [some (.v (.r 0)),some (.v (.d (.str f))),some (.v (.d (D.int aH))),some (.v (.d ((az (eL D.int)) aG))),some (.v (.r (3+jx tb f))),none] (m5 hm ls tb f) ip (gd (rj tb)) (fun _=>(.nx,[some (.v (.r 0)),some (.v (.d (.str f))),some (.v (.d (D.int aH))),some (.v (.d ((az (eL D.int)) aG))),some (.v (.r (3+jx tb f))),none],bM hm ls (ad tb f))):=Js rfl rfl rfl
 refine bQ (fun _=>[some (.v (.r 0)),some (.v (.d (.str f))),some (.v (.d (D.int aH))),some (.v (.d ((az (eL D.int)) aG))),some (.v (.r (3+jx tb f))),none]) (fun _=>bM hm ls (setIn (ad tb f) (jx tb f) (k6 (ad tb f) (jx tb f)))) h1 (fun _=>rfl) (fun _=>by rw[Ad]) fun _=>?_
 have h:=JM (R:=R) (aC:=f) (aH:=aH) (aG:=aG) (S:=fun d=>bM hm ls (setIn (ad tb f) (jx tb f) d)) (fun d=>Ko (jx tb f) (GG tb f) d) (fun d d'=>LY (jx tb f) d d') (k6 (ad tb f) (jx tb f))
 intro sg hf
 have h:=h sg hf
 cases hm:yx aH aG (k6 (ad tb f) (jx tb f))with
 | bad=>trivial
 | exc x=>rw[hm]at h;exact h
 | ok v=>
  rw[hm]at h
  obtain⟨⟨sg',e,hf'⟩,_⟩:=h
  refine⟨⟨sg',e,hf'.weak (by repeat' (first | exact trivial | refine And.intro rfl ?_))⟩,fun z=>by cases z⟩
end K06
namespace K06
open PySem L2 PyProof.Rows Vw
section
variable{R:List Ob→Prop}{p:Pt}{σ:List Ob}{hm:List Int}{ls:Ls}{tb:Tb}{f:List Nat}{A:Type}
theorem v7{Tf:List (String×String)}{f c:String}{fs:List (String×Val)}{i n:Nat}{fv:State→Res RV}{m:M A}{x:A→Val}{S:A→List Ob}(hv:Ev R p σ (ev fv) m (fun v=>(.val (x v),p,S v)))(h0:p[i]? =some (some (.v (.r n))))(hS:∀ v,(S v)[n]? =some (.ins c fs))(hT:Tf.contains (c,f)=true)(hl:fs.length<1000):Ev R p σ (ni Tf f (aa i) fv) m (fun v=>(.nx,p,(S v).set n (.ins c (xx f (x v) fs)))):=fun sg hf=>by
 have:=hv sg hf
 cases m with
 | ok v=>
  obtain⟨sg',e,hf'⟩:=this
  refine⟨sg',?_,hf'⟩
  show(ev fv ⟨sg,σ⟩).bind _=_
  rw[e,Res.ae]
  show((aa i ⟨sg',S v⟩).bind settle).bind _=_
  rw[nh,hf'.2 _ _ h0]
  show(match bL (RV.val (x v)) ⟨sg',S v⟩with | .ok x s=>(match ob s (.val (.r n))with | some (.ins c fs)=>if Tf.contains (c,f)&&decide (fs.length<1000)then Res.ok Fl.nx (wr (.val (.r n)) (.ins c (xx f x fs)) s)else .stuck | _=>.stuck) | _=>.stuck)=_
  rw[ic]
  dsimp only
  have ho:ob ⟨sg',S v⟩ (.val (.r n))=some (.ins c fs):=by
   show(match (S v)[n]? with | some .gone=>none | some o=>some o | none=>none)=_
   rw[hS]
  rw[ho]
  dsimp only
  rw[hT,decide_eq_true hl];rfl
 | exc x=>obtain⟨s,e,r⟩:=this;exact⟨s,by show(ev fv ⟨sg,σ⟩).bind _=_;rw[e];rfl,r⟩
 | bad=>trivial
def putL(ls:Ls)(mk:Int)(f:List Nat)(many:Int):M Ls:=(gd (decide (ls.length<sizeLine))).bind fun _=>.ok (aO ls [K0.i mk,K0.s f] many)
theorem I7{mk many:Int}(h0:p[0]? =some (some (.v (.r 0))))(h2:p[2]? =some (some (.v (.d (D.int mk)))))(h4:p[4]? =some (some (.v (.d (.str f)))))(h5:p[5]? =some (some (.v (.d (D.int many))))):Ev R p (bM hm ls tb) (fu (eB fT "lengths" (aa 0)) (gi [(aa 2),(aa 4)]) (aa 5)) (putL ls mk f many) (fun v=>(.nx,p,bM hm v tb)):=by
 have ht:Ev R p (bM hm ls tb) (gi [(aa 2),(aa 4)]) (.ok ()) (fun _=>(.val (.d (.tup [.int mk,.str f])),p,bM hm ls tb)):=ja (ah (sv (ao (a:=mk) (e:=D.int) h2)) (ah (sv (ao (a:=f) (e:=D.str) h4)) au)) (fun _=>.d (.d .nil)) (fun _=>rfl) (fun _=>rfl)
 refine Ev.aZ (sv (ao (a:=many) (e:=D.int) h5)) (Ev.aZ (sv (HL h0 rfl)) (Ev.aZ (sv ht) fun sg hf=>?_))
 unfold putL
 by_cases hl:ls.length<sizeLine
 ·rw[decide_eq_true hl,i2]
  refine⟨sg,?_,hf⟩
  dsimp only[ic]
  rw[ic]
  dsimp only
  have e0:ff (.val (.r 1)) (.val (.d (.tup [.int mk,.str f]))) (.d (.int many)) ⟨sg,bM hm ls tb⟩=some ⟨sg,bM hm (aO ls [K0.i mk,K0.s f] many) tb⟩:=by
   have ho:ob ⟨sg,bM hm ls tb⟩ (.val (.r 1))=some (B2 ls):=rfl
   unfold ff
   rw[ho]
   show(if(ls.map fun p=>(p.1,Val.d (D.int p.2))).length<sizeLine then some (wr (.val (.r 1)) (.dit false (aO (ls.map fun p=>(p.1,Val.d (D.int p.2))) [K0.i mk,K0.s f] (.d (.int many)))) ⟨sg,bM hm ls tb⟩)else none)=_
   rw[if_pos (by simpa using hl),iG (fun a=>a) (fun _ _ h=>h) (fun x=>Val.d (D.int x)) ls [K0.i mk,K0.s f] many]
   rfl
  rw[e0];rfl
 ·rw[decide_eq_false hl];trivial
end
abbrev bj:Type:=List (Int×List (List Nat×List Nat))
abbrev dk:bj→D:=eL (aj D.int (eL (aj D.str D.str)))
def C0(mk:Int)(c:Ls×Tb)(y:List Nat×Int×List (List Nat×List Int)):M (Ls×Tb):=(putL c.1 mk y.1 y.2.1).bind fun ls=>(nox (l8 c.2 y.1 mk y.2.2)).bind fun tb=>.ok (ls,tb)
def uD(c:Ls×Tb)(z:Int×List (List Nat×List Nat)):M (Ls×Tb):=(((nox (jy z.2)).bind fun l=>.ok l).bind fun l=>foldM (C0 z.1) c l).bind fun c=>.ok c
def mz(ag:bj):M (List Int×Ls×Tb):=(dE ag).bind fun _=>(cX (fun(nQ:Int×(List (List Nat×List Nat)))=>.ok true) (fun(nQ:Int×(List (List Nat×List Nat)))=>.ok nQ.1) ag).bind fun hm=>(foldM uD ([],[]) ag).bind fun c=>.ok (hm,c)
def P7(ag:bj):Pt:=[some (.v (.r 0)),some (.v (.d (dk ag))),none,none,none,none,none]
def u2(ag:bj)(z:Int×List (List Nat×List Nat)):Pt:=[some (.v (.r 0)),some (.v (.d (dk ag))),some (.v (.d (D.int z.1))),some (.v (.d (eL (aj D.str D.str) z.2))),none,none,none]
def xk(ag:bj)(z:Int×List (List Nat×List Nat))(y:List Nat×Int×List (List Nat×List Int)):Pt:=[some (.v (.r 0)),some (.v (.d (dk ag))),some (.v (.d (D.int z.1))),some (.v (.d (eL (aj D.str D.str) z.2))),some (.v (.d (D.str y.1))),some (.v (.d (D.int y.2.1))),some (.v (.d (az (eL D.int) y.2.2)))]
theorem OS{R:List Ob→Prop}{ag:bj}{z:Int×List (List Nat×List Nat)}{hm:List Int}(c:Ls×Tb)(y:List Nat×Int×List (List Nat×List Int)):Sg false R (xk ag z y) (bM hm c.1 c.2) gZ (C0 z.1 c y) (fun c'=>.go (u2 ag z) (bM hm c'.1 c'.2)):=by
 have h1:Ev R (xk ag z y) (bM hm c.1 c.2) (fu (eB fT "lengths" (aa 0)) (gi [(aa 2),(aa 4)]) (aa 5)) (putL c.1 z.1 y.1 y.2.1) (fun v=>(.nx,xk ag z y,bM hm v c.2)):=I7 rfl rfl rfl rfl
 refine bQ (fun _=>xk ag z y) (fun v=>bM hm v c.2) h1 (fun _=>rfl) (fun _=>rfl) fun ls=>?_
 have h2:Ev R (xk ag z y) (bM hm ls c.2) (cc bF "Piece" "take_in" 4 (aa 0) (aq [(aa 4),(aa 2),(aa 6)]) dX) (nox (l8 c.2 y.1 z.1 y.2.2)) (fun v=>(.val (.d .non),xk ag z y,bM hm ls v)):=
  fL (R':=R) (b:=()) (xo:=fun(_:Unit)=>.r 0) (sv (mI (n:=0) (a:=()) rfl)) (D1 (c:="Piece") (m:="take_in") (σ:=bM hm ls c.2) (n:=0) rfl rfl) (ah (sv (ao (a:=y.1) (e:=D.str) rfl)) (ah (sv (ao (a:=z.1) (e:=D.int) rfl)) (ah (sv (ao (a:=y.2.2) (e:=(az (eL D.int))) rfl)) au))) (.d (.d (.d .nil))) rfl Le (fun _=>rfl)
 refine bQ (fun _=>xk ag z y) (fun v=>bM hm ls v) (mY h2) (fun _=>rfl) (fun _=>rfl) fun tb=>?_
 exact eU rfl (by repeat' (first | exact trivial | refine And.intro rfl ?_))
theorem Nz{R:List Ob→Prop}{ag:bj}{hm:List Int}(c:Ls×Tb)(z:Int×List (List Nat×List Nat)):Sg false R (u2 ag z) (bM hm c.1 c.2) e9 (uD c z) (fun c'=>.go (P7 ag) (bM hm c'.1 c'.2)):=by
 have hs:Ev R (u2 ag z) (bM hm c.1 c.2) (sD (cw 1 (aq [(aa 3)]) gR) pairsOf) ((nox (jy z.2)).bind fun l=>.ok l) (pS (fun x=>.d (aj D.str (aj D.int (az (eL D.int))) x)) (u2 ag z) (bM hm c.1 c.2)):=Hf (sn (eW (R':=R) (post:=(pN (bG (aj D.int (az (eL D.int)))) _ _)) (ah (sv (ao (a:=z.2) (e:=(eL (aj D.str D.str))) rfl)) au) (.d .nil) rfl (xH (aQ:=z.2)) (fun _=>rfl)) (fun v=>oU _ v))
 refine bQ (fun _=>u2 ag z) (fun v=>bM hm v.1 v.2) (jE (P:=fun _=>u2 ag z) (S:=fun c=>bM hm c.1 c.2) (lA:=fun l=>l) (c0:=fun _=>c) (p2:=fun _ y=>xk ag z y) hs (fun _=>by repeat' (first | exact trivial | refine And.intro rfl ?_)) (fun _=>rfl) (fun c y=>e8 rfl rfl (aW bb (aW (e8 rfl rfl (aW bb (aW bb du))) du))) (fun c y=>OS c y)) (fun _=>rfl) (fun _=>rfl) fun v=>?_
 exact eU rfl (by repeat' (first | exact trivial | refine And.intro rfl ?_))
theorem Jz{R:List Ob→Prop}{ag:bj}(hR:R [.ins "Piece" []]):dW R bY [.r 0,.d (dk ag)] [.ins "Piece" []] (mz ag) (fun v=>(.val (.d .non),bM v.1 v.2.1 v.2.2)):=by
 refine p7 (w:=false) (P:=fun _=>P7 ag) ?_ (fun _=>rfl)
 have h0:Ev R (P7 ag) [.ins "Piece" []] (jL 1 (aq [(aa 1)]) c6) (dE ag) (pD eN (P7 ag) [.ins "Piece" []]):=nH (post:=(pD eN _ _)) (ah (sv (ao (a:=ag) (e:=dk) rfl)) au) (.d .nil) rfl (uy (ag:=ag) hR) (fun _=>rfl)
 refine bQ (fun _=>P7 ag) (fun _=>[.ins "Piece" []]) (mY (r:=fun v=>.val (.d (eN v))) h0) (fun _=>rfl) (fun _=>rfl) fun _=>?_
 have h1:Ev R (P7 ag) [.ins "Piece" []] (oE 1 (qt [2,3] (.tp [(.nm 2),(.nm 3)]) (aa 1) bZ (aa 2)) (fq [2,3] (.tp [(.nm 2),(.nm 3)]) (sD (aa 1) itemsOf) bZ (aa 2))) (cX (fun(nQ:Int×(List (List Nat×List Nat)))=>.ok true) (fun(nQ:Int×(List (List Nat×List Nat)))=>.ok nQ.1) ag) (pN (oL D.int) (P7 ag) [.ins "Piece" []]):=
  Mm rfl (Gv (q:=P7 ag) (p2:=fun z=>u2 ag z) (p3:=fun z=>u2 ag z) (e:=D.int) (gU (sv (ao (a:=ag) (e:=dk) rfl))) rfl (fun z=>⟨(e8 rfl rfl (aW bb (aW bb du))),kI,(oW (ao (a:=z.1) (e:=D.int) rfl))⟩) (fun _=>by repeat' (first | exact trivial | refine And.intro rfl ?_)) (fun _=>by repeat' (first | exact trivial | refine And.intro rfl ?_)))
 refine bQ (fun _=>P7 ag) (fun hm=>[.ins "Piece" [("held_makes",.d (eL D.int hm))]]) (v7 (x:=fun v=>.d (eL D.int v)) (S:=fun _=>[.ins "Piece" []]) (n:=0) (sn h1 (fun v=>bc D.int v)) rfl (fun _=>rfl) (by decide) (by simp)) (fun _=>rfl) (fun _=>rfl) fun hm=>?_
 have h2:Ev R (P7 ag) [.ins "Piece" [("held_makes",.d (eL D.int hm))]] (gS yc) (.ok ()) (fun _=>(.val (.r 1),P7 ag,[.ins "Piece" [("held_makes",.d (eL D.int hm))],.dit false []])):=fun sg hf=>⟨sg,rfl,hf⟩
 refine fB (P7 ag) [.ins "Piece" [("held_makes",.d (eL D.int hm)),("lengths",.r 1)],.dit false []] (v7 (x:=fun _=>.r 1) (S:=fun _=>_) (n:=0) (sv h2) rfl (fun _=>rfl) (by decide) (by simp)) rfl rfl ?_
 have h3:Ev R (P7 ag) [.ins "Piece" [("held_makes",.d (eL D.int hm)),("lengths",.r 1)],.dit false []] (gS cN) (.ok ()) (fun _=>(.val (.r 2),P7 ag,[.ins "Piece" [("held_makes",.d (eL D.int hm)),("lengths",.r 1)],.dit false [],.dic false []])):=fun sg hf=>⟨sg,rfl,hf⟩
 refine fB (P7 ag) (bM hm [] []) (v7 (x:=fun _=>.r 2) (S:=fun _=>_) (n:=0) (sv h3) rfl (fun _=>rfl) (by decide) (by simp)) rfl rfl ?_
 refine bQ (fun _=>P7 ag) (fun v=>bM hm v.1 v.2) (Hn rfl (jQ (P:=fun _=>P7 ag) (S:=fun(c:Ls×Tb)=>bM hm c.1 c.2) (c0:=([],[])) (p2:=fun _ z=>u2 ag z) (gU (sv (ao (a:=ag) (e:=dk) rfl))) (by repeat' (first | exact trivial | refine And.intro rfl ?_)) rfl (fun c z=>e8 rfl rfl (aW bb (aW bb du))) (fun c z=>Nz c z))) (fun _=>rfl) (fun _=>rfl) fun c=>?_
 exact gu (p':=P7 ag) rfl (by repeat' (first | exact trivial | refine And.intro rfl ?_))
end K06
namespace K06
open PySem L2 PyProof.Rows Vw
abbrev d9:Type:=List Int×Ls×Tb
def aY(p:d9):D:=D.ins "Piece" [("held_makes",eL D.int p.1),("lengths",D.dit (p.2.1.map fun q=>(q.1,D.int q.2))),("table",az (az (eL (aj D.int (eL D.int)))) p.2.2)]
theorem qU{κ α:Type}{f:Val→Option D}(hf:∀ x,f (.d x)=some x)(k:α→κ)(e:α→D):∀ l:List α,frzK f (l.map fun p=>(k p,Val.d (e p)))=some (l.map fun p=>(k p,e p))
 | []=>rfl
 | p::l=>by
  rw[List.map_cons,frzK,hf,qU hf k e l];rfl
theorem pb(ok:Nat→Bool)(n:Nat)(st:List Ob)(x:D):bp ok n st (.d x)=some x:=by cases n<;> rfl
theorem Ly(n:Nat)(st:List Ob)(d:In):jM (bp bP n st) (bG (eL (aj D.int (eL D.int))) d)=some (az (eL (aj D.int (eL D.int))) d):=by
 show(frzK (bp bP n st) (d.map fun p=>(K0.s p.1,Val.d ((eL (aj D.int (eL D.int))) p.2)))).map D.dic=_
 rw[qU (pb bP n st) (fun p:List Nat×List (Int×List Int)=>K0.s p.1) (fun p=>(eL (aj D.int (eL D.int))) p.2)]
 rfl
theorem zA(n:Nat)(st:List Ob):∀ (tb:Tb) (k:Nat),(∀ i,i<tb.length→st[k+i]? =tb[i]?.map fun p=>bG (eL (aj D.int (eL D.int))) p.2)→frzK (bp bP (n+1) st) (refs k (keys tb))=some (tb.map fun p=>(K0.s p.1,az (eL (aj D.int (eL D.int))) p.2))
 | [],k,h=>rfl
 | p::tb,k,h=>by
  have h0:st[k]? =some (bG (eL (aj D.int (eL D.int))) p.2):=by simpa using h 0 (by simp)
  have ih:=zA n st tb (k+1) fun i hi=>by
   have:=h (i+1) (by simpa using hi)
   rw[show k+1+i=k+(i+1) by omega,this];rfl
  have e0:bp bP (n+1) st (.r k)=some (az (eL (aj D.int (eL D.int))) p.2):=by
   show(if bP k=true then(match st[k]? with | some o=>jM (bp bP n st) o | none=>none)else none)=_
   rw[if_pos (show bP k=true from rfl),h0]
   exact Ly n st p.2
  show frzK (bp bP (n+1) st) ((K0.s p.1,Val.r k)::refs (k+1) (keys tb))=_
  rw[frzK,e0,ih];rfl
theorem DZ(p:d9):bp bP 6 (bM p.1 p.2.1 p.2.2) (.r 0)=some (aY p):=by
 have e1:bp bP 5 (bM p.1 p.2.1 p.2.2) (.r 1)=some (D.dit (p.2.1.map fun q=>(q.1,D.int q.2))):=by
  show(frzK (bp bP 4 (bM p.1 p.2.1 p.2.2)) (p.2.1.map fun q=>(q.1,Val.d (D.int q.2)))).map D.dit=_
  rw[qU (pb bP 4 _) (fun q:List K0×Int=>q.1) (fun q=>D.int q.2)]
  rfl
 have e2:bp bP 5 (bM p.1 p.2.1 p.2.2) (.r 2)=some (az (az (eL (aj D.int (eL D.int)))) p.2.2):=by
  show(frzK (bp bP 4 (bM p.1 p.2.1 p.2.2)) (refs 3 (keys p.2.2))).map D.dic=_
  rw[zA 3 _ p.2.2 3 fun i hi=>by
   show(zu p.1::B2 p.2.1:: .dic false (refs 3 (keys p.2.2))::p.2.2.map (fun p=>bG (eL (aj D.int (eL D.int))) p.2))[3+i]? =_
   rw[show 3+i=i+1+1+1 by omega,List.getElem?_cons_succ,List.getElem?_cons_succ,List.getElem?_cons_succ,List.getElem?_map]]
  rfl
 show(jo (bp bP 5 (bM p.1 p.2.1 p.2.2)) [("held_makes",.d (eL D.int p.1)),("lengths",.r 1),("table",.r 2)]).map (D.ins "Piece")=_
 rw[jo,pb,jo,e1,jo,e2]
 rfl
def b6(aD:d9)(aH:Int)(aC:List Nat):M Int:=M.ok ((aA aD.2.1 [K0.i aH,K0.s aC]).getD 0)
theorem nC{R:List Ob→Prop}{σ:List Ob}{aD:d9}{aH:Int}{aC:List Nat}:dW R eS [.d (aY aD),.d (D.int aH),.d (D.str aC)] σ (b6 aD aH aC) (fun v=>(.val (.d (D.int v)),σ)):=by
 refine fH (cm (Bv (φ:=fun v=>v) (x:=fun v=>.d (D.int v)) (P:=fun _=>[some (.v (.d (aY aD))),some (.v (.d (D.int aH))),some (.v (.d (D.str aC)))]) (S:=fun _=>σ) (m:=M.ok ((aA aD.2.1 [K0.i aH,K0.s aC]).getD 0)) ?_ fun _=>rfl))
 have hfld:Ev R [some (.v (.d (aY aD))),some (.v (.d (D.int aH))),some (.v (.d (D.str aC)))] σ (eB fT "lengths" (aa 0)) (M.ok ()) (fun _=>(.val (.d (D.dit (aD.2.1.map fun q=>(q.1,D.int q.2)))),_,σ)):=qu (a:=()) (e:=fun _=>D.dit (aD.2.1.map fun q=>(q.1,D.int q.2))) (sv (ao (a:=aD) (e:=aY) rfl)) (by decide) rfl
 have ht:Ev R [some (.v (.d (aY aD))),some (.v (.d (D.int aH))),some (.v (.d (D.str aC)))] σ (gi [(aa 1),(aa 2)]) (M.ok ()) (fun _=>(.val (.d (.tup [.int aH,.str aC])),_,σ)):=ja (ah (sv (ao (a:=aH) (e:=D.int) rfl)) (ah (sv (ao (a:=aC) (e:=D.str) rfl)) au)) (fun _=>.d (.d .nil)) (fun _=>rfl) (fun _=>rfl)
 refine Ev.aZ (sv hfld) fun sg hf=>?_
 have hi:ib ⟨sg,σ⟩ (.val (.d (D.dit (aD.2.1.map fun q=>(q.1,D.int q.2)))))=true:=rfl
 dsimp only
 rw[hi,if_pos rfl]
 refine Ev.aZ (sv ht) (Ev.aZ (sv (cD D.int (0:Int))) fun sg hf=>?_) sg hf
 have hg:d4 ⟨sg,σ⟩ (.val (.d (D.dit (aD.2.1.map fun q=>(q.1,D.int q.2))))) (.val (.d (.tup [.int aH,.str aC])))=some ((aA aD.2.1 [K0.i aH,K0.s aC]).map fun x=>Val.d (D.int x)):=by
  show some (aA ((aD.2.1.map fun q=>(q.1,D.int q.2)).map fun p=>(p.1,Val.d p.2)) [K0.i aH,K0.s aC])=_
  rw[List.map_map]
  exact congrArg some (qN (fun a=>a) (fun _ _ h=>h) (fun x=>Val.d (D.int x)) aD.2.1 [K0.i aH,K0.s aC])
 dsimp only
 rw[hg]
 cases aA aD.2.1 [K0.i aH,K0.s aC]with
 | none=>exact⟨sg,rfl,hf⟩
 | some x=>exact⟨sg,rfl,hf⟩
def cg(aD:d9):M ((List Int)):=M.ok ((aD.1))
theorem vR{R:List Ob→Prop}{σ:List Ob}{aD:d9}:dW R cM [.d (aY aD)] σ (cg aD) (fun v=>(.new ((oL D.int) v),σ)):=(fH (cm (Oi (er (ah (sv (qu (a:=(aD.1)) (e:=(eL D.int)) (sv (ao (a:=aD) (e:=aY) rfl)) rfl rfl)) au) (LH dY)) rfl)))
def bT(aD:d9):M ((List (List Nat))):=(ig ((aD.2.2).map fun p=>p.1)).bind fun v1=>M.ok (v1)
theorem nA{R:List Ob→Prop}{σ:List Ob}{aD:d9}:dW R eF [.d (aY aD)] σ (bT aD) (fun v=>(.new ((oL D.str) v),σ)):=(fH (cm (A8 (φ:=fun v1=>v1) (er (ah (sv (qu (a:=(aD.2.2)) (e:=(az (az (eL (aj D.int (eL D.int)))))) (sv (ao (a:=aD) (e:=aY) rfl)) rfl rfl)) au) (km ij)) fun _=>rfl)))
def bB(aD:d9)(aC:List Nat):M ((List (List Nat))):=(ig (((eX (aD.2.2) aC).getD ([]:List (List Nat×(List (Int×List Int))))).map fun p=>p.1)).bind fun v1=>M.ok (v1)
theorem j6{R:List Ob→Prop}{σ:List Ob}{aD:d9}{aC:List Nat}:dW R cj [.d (aY aD),.d (D.str aC)] σ (bB aD aC) (fun v=>(.new ((oL D.str) v),σ)):=(fH (cm (A8 (φ:=fun v1=>v1) (er (ah (wb (sv (qu (a:=(aD.2.2)) (e:=(az (az (eL (aj D.int (eL D.int)))))) (sv (ao (a:=aD) (e:=aY) rfl)) rfl rfl)) ij (sv (ao (a:=aC) (e:=D.str) rfl)) (sn (qv (e:=(eL (aj D.int (eL D.int))))) (fun v=>oU _ v))) au) (km ij)) fun _=>rfl)))
end K06
namespace K06
open PySem L2 PyProof.Rows Vw
def zx:List Nat:=sS "abcdefghijklmnopqrstuvwxyz"
def lJ(t:List Nat):Bool:=decide (0<t.length)&&(decide (t.length≤12)&&t.all fun c=>decide (c∈zx))
theorem C8{t:List Nat}(h:t.length≤16777216):jv t=.ok (lJ t):=by
 unfold jv lJ
 have hc:cX (fun(ik:List Nat)=>M.ok true) (fun(ik:List Nat)=>M.ok (subIn ik (sS "abcdefghijklmnopqrstuvwxyz"))) (chars t)=.ok ((chars t).map fun s=>subIn s zx):=nO (fun _ _=>rfl) (fun _ _=>rfl) (by simpa [chars]using h)
 rw[hc,wj h]
 simp only[M.ae]
 have ha:((chars t).map fun s=>subIn s zx).all id=t.all fun c=>decide (c∈zx):=by
  simp only[chars,List.map_map,List.all_map,Function.comp_def,og,id]
 rw[ha]
 by_cases h1:(0:Int)<(t.length:Int)
 ·have h1':0<t.length:=by omega
  rw[if_pos (by simpa using h1)]
  by_cases h2:(t.length:Int)≤12
  ·have h2':t.length≤12:=by omega
   simp only[decide_eq_true h2,decide_eq_true h1',decide_eq_true h2',rM,if_true,Bool.true_and,M.ae]
  ·have h2':¬ t.length≤12:=by omega
   simp[decide_eq_false h2,decide_eq_false h2',rM]
 ·have h1':¬ 0<t.length:=by omega
  rw[if_neg (by simpa using h1)]
  simp[decide_eq_false h1',rM]
def iI:Nat→List Nat→List (List Nat×List Nat)→Option Int
 | _,_,[]=>none
 | k,last,z::r=>if(!lJ z.1|| !hZ last z.1)=true then some (k:Int)else iI (k+1) z.1 r
def n7:Nat→Int→bj→Option (Bool×Int)
 | _,_,[]=>none
 | k,last,z::r=>if z.1≤last then some (true,(k:Int))else match iI 0 [] z.2 with
  | some p=>some (false,p)
  | none=>n7 (k+1) z.1 r
def dy{T:Type}:Nat→List T→List (Int×T)
 | _,[]=>[]
 | k,x::l=>((k:Int),x)::dy (k+1) l
theorem zt{T:Type}:∀ (l:List T) (k:Nat),l.mapIdx (fun i x=>(((i+k:Nat):Int),x))=dy k l
 | [],k=>rfl
 | x::l,k=>by
  rw[List.mapIdx_cons,dy]
  congr 1
  ·simp
  ·rw[←zt l (k+1)]
   congr 1
   funext i x
   rw[show i+1+k=i+(k+1) by omega]
theorem mE{T:Type}(l:List T):eI l=dy 0 l:=by rw[←zt];rfl
def Tx(d:List (List Nat×List Nat)):Prop:=∀ z∈d,z.1.length≤1000∧z.2.length≤2000
theorem xm:∀ (d:List (List Nat×List Nat)) (k:Nat) (last:List Nat),Tx d→(foldM (fun(c1:List Nat) (ay:Int×(List Nat×List Nat))=>(orM ((nox (jv ay.2.1)).bind fun v=>M.ok (!v)) (M.ok (!hZ c1 ay.2.1))).bind fun b3=>if b3=true then((M.ok ay.1).bind fun a4=>M.exc ⟨"NoField",some (D.int a4)⟩)else(M.ok ay.2.1)) last (dy k d)).bind (fun r5=>M.ok ())=match iI k last d with
  | none=>.ok ()
  | some p=>.exc ⟨"NoField",some (.int p)⟩
 | [],k,last,h=>rfl
 | z::r,k,last,h=>by
  have hz:=h z (by simp)
  have ih:=xm r (k+1) z.1 (fun y hy=>h y (by simp[hy]))
  rw[dy,d6]
  rw[show((k:Int),z).2.1=z.1 from rfl,C8 (by omega),show nox (M.ok (lJ z.1))=M.ok (lJ z.1)from rfl,M.ae,Er,iI]
  cases h1:lJ z.1 with
  | false=>simp
  | true=>
   cases h2:hZ last z.1 with
   | false=>simp
   | true=>
    simp only[Bool.not_true,Bool.or_false,Bool.false_eq_true,if_false,M.ae]
    exact ih
theorem EW{d:List (List Nat×List Nat)}(h:Tx d):cC d=match iI 0 [] d with
  | none=>.ok ()
  | some p=>.exc ⟨"NoField",some (.int p)⟩:=by
 unfold cC
 rw[mE]
 exact xm d 0 [] h
theorem uW:∀ (d:bj) (k:Nat) (last:Int),(∀ z∈d,Tx z.2)→(foldM (fun(c1:Int) (ay:Int×(Int×(List (List Nat×List Nat))))=>(if(decide (ay.2.1≤c1))=true then((M.ok ay.1).bind fun a3=>M.exc ⟨"NoMake",some (D.int a3)⟩)else((cC ay.2.2).bind fun u4=>M.ok ay.2.1))) last (dy k d)).bind (fun r5=>M.ok ())=match n7 k last d with
  | none=>.ok ()
  | some (true,p)=>.exc ⟨"NoMake",some (.int p)⟩
  | some (false,p)=>.exc ⟨"NoField",some (.int p)⟩
 | [],k,last,h=>rfl
 | z::r,k,last,h=>by
  have ih:=uW r (k+1) z.1 (fun y hy=>h y (by simp[hy]))
  rw[dy,d6,n7]
  by_cases hc:z.1≤last
  ·rw[if_pos (by simpa using hc),if_pos hc];rfl
  ·rw[if_neg (by simpa using hc),if_neg hc,show((k:Int),z).2.2=z.2 from rfl,EW (h z (by simp))]
   cases iI 0 [] z.2 with
   | some p=>rfl
   | none=>exact ih
theorem CY{d:bj}(h:∀ z∈d,Tx z.2):dE d=match n7 0 (-1) d with
  | none=>.ok ()
  | some (true,p)=>.exc ⟨"NoMake",some (.int p)⟩
  | some (false,p)=>.exc ⟨"NoField",some (.int p)⟩:=by
 unfold dE
 rw[mE]
 exact uW d 0 (-1) h
theorem wI{a b:Int}(h1:0≤b)(h2:b≤1000000)(h3:a.natAbs<2^64):o3 a b=.ok (a^b.toNat):=by
 unfold o3
 rw[d7 (decide_eq_true ⟨h1,h2,h3⟩),M.ae]
theorem lH{a m:Int}(h:0<m):0≤a%m∧a%m<m:=⟨Int.emod_nonneg _ (by omega),Int.emod_lt_of_pos _ h⟩
theorem EO{a b:M Bool}(h1:∃ x,a=.ok x)(h2:∃ y,b=.ok y):∃ z,andM a b=.ok z:=by
 obtain⟨x,rfl⟩:=h1
 obtain⟨y,rfl⟩:=h2
 cases x
 ·exact⟨false,rfl⟩
 ·exact⟨y,rfl⟩
theorem xB{T U κ:Type}{mt:T→M Bool}{me:T→M U}(K:T→κ)(G:U→κ)(P:U→Prop):∀ (l:List T) (acc:List U),(∀ x∈l,mt x=.ok true)→(∀ x∈l,Sat (me x) fun y=>G y=K x∧P y)→acc.length+l.length≤16777216→∃ r,eJ mt me acc l=.ok (acc++r)∧r.map G=l.map K∧∀ y∈r,P y
 | [],acc,h1,h2,hl=>⟨[],by simp[eJ],rfl,fun y h=>by cases h⟩
 | x::l,acc,h1,h2,hl=>by
  obtain⟨y,e,hg,hp⟩:=h2 x (by simp)
  simp only[List.length_cons]at hl
  obtain⟨r,e2,h3,h4⟩:=xB K G P l (acc++[y]) (fun z hz=>h1 z (by simp[hz])) (fun z hz=>h2 z (by simp[hz])) (by simp;omega)
  refine⟨y::r,?_,by simp[hg,h3],fun z hz=>?_⟩
  ·rw[eJ,h1 x (by simp),M.ae,if_pos rfl,e,M.ae,d7 (by rw[zL];exact decide_eq_true (by omega)),M.ae,e2]
   simp
  ·rcases List.mem_cons.mp hz with rfl | hz
   ·exact hp
   ·exact h4 z hz
theorem DH{T U κ:Type}{mt:T→M Bool}{me:T→M U}(K:T→κ)(G:U→κ)(P:U→Prop){l:List T}(h1:∀ x∈l,mt x=.ok true)(h2:∀ x∈l,Sat (me x) fun y=>G y=K x∧P y)(hl:l.length≤16777216):Sat (cX mt me l) fun r=>r.map G=l.map K∧∀ y∈r,P y:=by
 obtain⟨r,e,h⟩:=xB K G P l [] h1 h2 (by simpa using hl)
 exact⟨r,by unfold cX;rw[e];simp[nox],h⟩
theorem KL{a b:List Nat}(h:ju a b=true)(hne:a≠b):hZ a b=true:=by
 cases h2:hZ a b with
 | true=>rfl
 | false=>exact absurd (yH h (by unfold ju;rw[h2];rfl)) hne
theorem sH:∀ (d:List (List Nat×List Nat)) (k:Nat) (last:List Nat),(∀ z∈d,lJ z.1=true)→(last::d.map (·.1)).Pairwise (fun a b=>hZ a b=true)→iI k last d=none
 | [],k,last,h,hp=>rfl
 | z::r,k,last,h,hp=>by
  rw[List.map_cons]at hp
  have hp':=List.pairwise_cons.mp hp
  rw[iI,h z (by simp),hp'.1 z.1 (by simp)]
  simp only[Bool.not_true,Bool.or_false,Bool.false_eq_true,if_false]
  exact sH r (k+1) z.1 (fun y hy=>h y (by simp[hy])) hp'.2
theorem m7{T:Type}:∀ (l:List T) (k:Nat),(dy k l).map (fun k=>k.2)=l
 | [],k=>rfl
 | x::l,k=>by rw[dy,List.map_cons,m7 l]
end K06
namespace K06
open PySem L2 PyProof.Rows Vw
theorem sM{κ α:Type}[DecidableEq κ](l:List (κ×α))(k:κ)(v:α):(aO l k v).length≤l.length+1:=by
 unfold aO;split<;> simp
theorem sX{κ α:Type}[DecidableEq κ]{l:List (κ×α)}{k:κ}{v:α}{p:κ×α}(h:p∈aO l k v):p∈l∨p=(k,v):=by
 unfold aO at h
 split at h
 ·obtain⟨q,hq,e⟩:=List.mem_map.mp h
  split at e
  ·rename_i hk;right;rw[←e,hk]
  ·left;rw[←e];exact hq
 ·rcases List.mem_append.mp h with h | h
  ·exact .inl h
  ·right;simpa using h
theorem zo{κ α:Type}[DecidableEq κ]{l:List (κ×α)}{k:κ}(h:k∈l.map (·.1)):∃ v,aA l k=some v:=by
 obtain⟨p,hp,rfl⟩:=List.mem_map.mp h
 unfold aA
 cases e:l.find? fun q=>decide (q.1=p.1)with
 | some q=>exact⟨q.2,rfl⟩
 | none=>have:=List.find?_eq_none.mp e p hp;simp at this
theorem uR{κ α:Type}[DecidableEq κ]{l:List (κ×α)}{k:κ}{v:α}(h:l.length<16777216):gB l k v=.ok (aO l k v):=by
 unfold gB
 rw[d7 (by rw[zL];exact decide_eq_true h),M.ae]
def Bx:List Nat:=sS "ABCDEFGHIJKLMNOPQRSTUVWXYZ"
theorem EJ:∀ c∈Bx,(match dU [c]with | .ok v=>decide (v.length≤1) | _=>false)=true:=by decide+kernel
theorem u3(c:Nat):Sat (dU [c]) fun v=>v.length≤1:=by
 by_cases h:c∈Bx
 ·have:=EJ c h
  cases e:dU [c]with
  | ok v=>rw[e]at this;exact⟨v,rfl,of_decide_eq_true this⟩
  | exc x=>rw[e]at this;cases this
  | bad=>rw[e]at this;cases this
 ·unfold dU
  rw[show subIn [c] (sS "ABCDEFGHIJKLMNOPQRSTUVWXYZ")=decide (c∈Bx)from og c _,decide_eq_false h,if_neg (by simp)]
  refine rC (fun _=>aX (by simp)) fun _=>aX (by decide)
end K06
namespace K06
open PySem L2 PyProof.Rows Vw
abbrev WR:Type:=List (List Nat×Int×Int)
def wF(c2:WR×List Nat)(bW:Int×List Nat):M (WR×List Nat):=(nox (dU bW.2)).bind fun one4=>((if((eqB one4 (sS ""))&&(!(eqB c2.2 (sS ""))))=true then(((((((qx c2.2).bind fun a14=>M.ok (bW.1-a14)).bind fun a15=>(M.ok ()).bind fun w16=>M.ok (a15,w16)).bind fun z17=>M.ok (c2.2,z17.1,bW.1)).bind fun a18=>(M.ok ()).bind fun w19=>M.ok (a18,w19)).bind fun z20=>gx c2.1 z20.1).bind fun dQ=>M.ok (dQ,(sS "")))else(M.ok (c2.1,c2.2))):M ((List (List Nat×Int×Int))×List Nat)).bind fun j13=>(jA j13.2 one4).bind fun kW=>M.ok (j13.1,kW)
theorem Ge(t:List Nat):fZ t=(((jA t (sS " ")).bind fun l=>M.ok (eI (chars l))).bind fun a1=>foldM wF ([],sS "") a1).bind fun r=>M.ok r.1:=rfl
theorem xq{T:Type}:∀ (a b:List T) (k:Nat),dy k (a++b)=dy k a++dy (k+a.length) b
 | [],b,k=>rfl
 | x::a,b,k=>by
  rw[List.cons_append,dy,dy,xq a b (k+1)]
  rw[show k+1+a.length=k+(x::a).length by simp;omega];rfl
def j4(t:List Nat):List (List Nat):=match fZ t with
 | .ok r=>r.map (·.1)
 | _=>[]
theorem fS{C T:Type}{f:C→T→M C}(I:List T→C→Prop):∀ (l:List T) (c:C),I l c→(∀ c x r,I (x::r) c→Sat (f c x) (I r))→Sat (foldM f c l) (I [])
 | [],c,h,hf=>aX h
 | x::l,c,h,hf=>by
  rw[d6]
  exact aL (hf c x l h) fun c' h'=>fS I l c' h' hf
def LW:List Nat:=sS "0123456789"
def sG:List Nat:=sS "abcdefghijklmnopqrstuvwxyzABCDEFGHIJKLMNOPQRSTUVWXYZ0123456789"
def je(c:Nat):List Nat:=match dU [c]with
 | .ok v=>v
 | _=>[]
theorem yo(c:Nat):dU [c]=.ok (je c):=by
 obtain⟨v,e,_⟩:=u3 c
 unfold je
 rw[e]
theorem Jf:∀ c∈sG,(match tM [c]with | .ok v=>decide (v=je c)&& !(je c).isEmpty&&decide ((je c).length≤1) | _=>false)=true:=by decide+kernel
theorem vo:(∀ c∈Bx,c∈sG)∧(∀ c∈zx,c∈sG)∧∀ c∈LW,c∈sG:=by decide+kernel
theorem yW{c:Nat}(h:c∉sG):je c=[]:=by
 have h1:c∉Bx:=fun z=>h (vo.1 c z)
 have h2:c∉zx:=fun z=>h (vo.2.1 c z)
 have h3:c∉LW:=fun z=>h (vo.2.2 c z)
 have:dU [c]=.ok []:=by
  unfold dU
  rw[show subIn [c] (sS "ABCDEFGHIJKLMNOPQRSTUVWXYZ")=decide (c∈Bx)from og c _,show subIn [c] (sS "abcdefghijklmnopqrstuvwxyz")=decide (c∈zx)from og c _,show subIn [c] (sS "0123456789")=decide (c∈LW)from og c _,decide_eq_false h1,decide_eq_false h2,decide_eq_false h3]
  rfl
 have e:=yo c
 rw[this]at e
 exact(M.ok.inj e).symm
theorem Bt{c:Nat}(h:c∈sG):tM [c]=.ok (je c)∧je c≠[]∧(je c).length≤1:=by
 have:=Jf c h
 cases e:tM [c]with
 | ok v=>
  rw[e]at this
  simp only[Bool.and_eq_true,decide_eq_true_eq,Bool.not_eq_true']at this
  refine⟨by rw[this.1.1],fun z=>?_,this.2⟩
  rw[z]at this
  cases this.1.2
 | exc x=>rw[e]at this;cases this
 | bad=>rw[e]at this;cases this
def wS(a:List (List Nat)×List Nat)(c:Nat):List (List Nat)×List Nat:=if je c=[]then(if a.2=[]then(a.1,[])else(a.1++[a.2],[]))else(a.1,a.2++je c)
theorem Ed{a:List (List Nat)×List Nat}{c:Nat}(h:c∈sG∨c∉sG):(wS a c).1.length≤a.1.length+1∧(wS a c).2.length≤a.2.length+1:=by
 unfold wS
 rcases h with h | h
 ·obtain⟨_,h2,h3⟩:=Bt h
  rw[if_neg h2]
  simp
  omega
 ·rw[if_pos (yW h)]
  split<;> simp
def wL(t:List Nat):List (List Nat)×List Nat:=(t++[32]).foldl wS ([],[])
theorem yY(w:List Nat):eqB w (sS "")=decide (w=[]):=rfl
theorem xJ:∀ (t:List Nat) (F:WR) (w:List Nat) (i:Nat),F.length+t.length≤2000→w.length+t.length≤2000→∃ F',foldM wF (F,w) (dy i (chars t))=.ok (F',(t.foldl wS (F.map (·.1),w)).2)∧F'.map (·.1)=(t.foldl wS (F.map (·.1),w)).1
 | [],F,w,i,_,_=>⟨F,rfl,rfl⟩
 | c::t,F,w,i,h1,h2=>by
  simp only[List.length_cons]at h1 h2
  have hl:(je c).length≤1:=by
   obtain⟨v,e,h⟩:=u3 c
   rw[yo]at e
   rw[M.ok.inj e];exact h
  have step:∃ F2 w2,wF (F,w) ((i:Int),[c])=.ok (F2,w2)∧(F2.map (·.1),w2)=wS (F.map (·.1),w) c∧F2.length≤F.length+1∧w2.length≤w.length+1:=by
   unfold wF
   dsimp only
   rw[yo,i6,M.ae]
   unfold wS
   dsimp only
   rw[yY,yY]
   by_cases ho:je c=[]
   ·rw[if_pos ho,decide_eq_true ho]
    by_cases hw:w=[]
    ·subst hw
     rw[if_pos rfl]
     simp only[decide_true,Bool.not_true,Bool.and_false,Bool.false_eq_true,if_false,M.ae]
     rw[ho,ki (by simp)]
     exact⟨F,[],rfl,rfl,by omega,by simp⟩
    ·rw[if_neg hw,decide_eq_false hw]
     simp only[Bool.not_false,Bool.and_true,if_true]
     rw[wj (by omega)]
     simp only[M.ae]
     rw[kg (by omega)]
     simp only[M.ae]
     rw[ho,show sS ""=[]from rfl,ki (by simp)]
     exact⟨_,_,rfl,by simp,by simp,by simp⟩
   ·rw[if_neg ho,decide_eq_false ho]
    simp only[Bool.false_and,Bool.false_eq_true,if_false,M.ae]
    rw[ki (by omega)]
    exact⟨F,w++je c,rfl,rfl,by omega,by simp;omega⟩
  obtain⟨F2,w2,e1,e2,l1,l2⟩:=step
  show ∃ F',(foldM wF (F,w) (((i:Int),[c])::dy (i+1) (chars t)))=_∧_
  rw[d6,e1,M.ae]
  obtain⟨F',e3,e4⟩:=xJ t F2 w2 (i+1) (by omega) (by omega)
  rw[e2]at e3 e4
  exact⟨F',e3,e4⟩
def lF(c2:(List (List Nat))×List Nat)(gh:List Nat):M ((List (List Nat))×List Nat):=((if(subIn gh (sS "abcdefghijklmnopqrstuvwxyzABCDEFGHIJKLMNOPQRSTUVWXYZ0123456789"))=true then(((tM gh).bind fun a10=>jA c2.2 a10).bind fun kX=>M.ok (c2.1,kX))else(((if(!(eqB c2.2 (sS "")))=true then((gx c2.1 c2.2).bind fun iY=>M.ok (iY,(sS "")))else(M.ok (c2.1,c2.2))):M ((List (List Nat))×List Nat)).bind fun j13=>M.ok (j13.1,j13.2))):M ((List (List Nat))×List Nat)).bind fun j9=>M.ok (j9.1,j9.2)
theorem DF(t:List Nat):dD t=(((jA t (sS " ")).bind fun t=>M.ok (chars t)).bind fun a1=>foldM lF (([]:List (List Nat)),(sS "")) a1).bind fun r15=>M.ok (r15.1):=rfl
theorem zm:∀ (t:List Nat) (A:List (List Nat)) (w:List Nat),A.length+t.length≤2000→w.length+t.length≤2000→foldM lF (A,w) (chars t)=.ok (t.foldl wS (A,w))
 | [],A,w,_,_=>rfl
 | c::t,A,w,h1,h2=>by
  simp only[List.length_cons]at h1 h2
  have step:lF (A,w) [c]=.ok (wS (A,w) c):=by
   unfold lF
   rw[show subIn [c] (sS "abcdefghijklmnopqrstuvwxyzABCDEFGHIJKLMNOPQRSTUVWXYZ0123456789")=decide (c∈sG)from og c _]
   unfold wS
   dsimp only
   by_cases h:c∈sG
   ·obtain⟨e1,e2,e3⟩:=Bt h
    rw[decide_eq_true h,if_pos rfl,e1,M.ae,ki (by omega),if_neg e2]
    rfl
   ·rw[decide_eq_false h,if_neg (by decide),if_pos (yW h),yY]
    by_cases hw:w=[]
    ·subst hw
     rfl
    ·rw[decide_eq_false hw,if_neg hw]
     simp only[Bool.not_false,if_true]
     rw[kg (by omega)]
     rfl
  show foldM lF (A,w) ([c]::chars t)=_
  rw[d6,step,M.ae]
  have hl:=Ed (a:=(A,w)) (c:=c) (Classical.em _)
  dsimp only at hl
  have e0:(c::t).foldl wS (A,w)=t.foldl wS (wS (A,w) c):=rfl
  rw[e0]
  generalize wS (A,w) c=q at hl
  obtain⟨A2,w2⟩:=q
  dsimp only at hl
  exact zm t A2 w2 (by omega) (by omega)
theorem BO:∀ (t:List Nat) (a:List (List Nat)×List Nat),(t.foldl wS a).1.length≤a.1.length+t.length
 | [],a=>Nat.le_refl _
 | c::t,a=>by
  have:=BO t (wS a c)
  have:=(Ed (a:=a) (c:=c) (Classical.em _)).1
  simp only[List.foldl_cons,List.length_cons]
  omega
theorem kL{t:List Nat}(h:t.length≤1000):(∃ r,fZ t=.ok r)∧j4 t=(wL t).1∧dD t=.ok (j4 t)∧(j4 t).length≤t.length+1:=by
 have hw:∃ r,fZ t=.ok r∧r.map (·.1)=(wL t).1:=by
  rw[Ge,ki (by rw[show(sS " ").length=1 from rfl];omega)]
  simp only[M.ae]
  rw[mE,show sS " "=[32]from rfl]
  obtain⟨F',e1,e2⟩:=xJ (t++[32]) [] [] 0 (by simp;omega) (by simp;omega)
  rw[show sS ""=[]from rfl,e1,M.ae]
  exact⟨F',rfl,e2⟩
 obtain⟨r,e1,e2⟩:=hw
 have e3:j4 t=(wL t).1:=by unfold j4;rw[e1];exact e2
 refine⟨⟨r,e1⟩,e3,?_,?_⟩
 ·rw[DF,ki (by rw[show(sS " ").length=1 from rfl];omega)]
  simp only[M.ae]
  rw[show sS " "=[32]from rfl,show sS ""=[]from rfl,zm (t++[32]) [] [] (by simp;omega) (by simp;omega),M.ae,e3]
  rfl
 ·rw[e3]
  have:=BO (t++[32]) ([],[])
  unfold wL
  simp at this
  simpa using this
end K06
namespace K06
open PySem L2 PyProof.Rows Vw
def FN:List (List Nat):=[(sS "a"),(sS "ab"),(sS "b"),(sS "body"),(sS "c"),(sS "title"),(sS "tit"),(sS "z"),(sS "zz")]
theorem fn_ok:∀ f∈FN,(lJ f&&(decide (f.length≤5)&& !f.isEmpty))=true:=by decide+kernel
theorem wa{f:List Nat}(h:f∈FN):lJ f=true∧f.length≤5∧f≠[]:=by
 have:=fn_ok f h
 simp only[Bool.and_eq_true,Bool.not_eq_true',decide_eq_true_eq]at this
 exact⟨this.1,this.2.1,fun e=>by rw[e]at this;exact absurd this.2.2 (by simp)⟩
theorem gP{κ α:Type}[DecidableEq κ]{l:List (κ×α)}{k:κ}{v:α}:(aO l k v).map (·.1)=if k∈l.map (·.1)then l.map (·.1)else l.map (·.1)++[k]:=by
 unfold aO
 by_cases h:k∈l.map (·.1)
 ·have h2:(l.any fun p=>decide (p.1=k))=true:=by
   obtain⟨p,hp,e⟩:=List.mem_map.mp h
   exact List.any_eq_true.mpr ⟨p,hp,decide_eq_true e⟩
  rw[if_pos h]
  simp only[h2,if_true]
  rw[List.map_map]
  refine List.map_congr_left fun p _=>?_
  simp only[Function.comp]
  split<;> rename_i e<;> first | rfl | exact e.symm
 ·have h2:(l.any fun p=>decide (p.1=k))=false:=by
   rw[List.any_eq_false]
   intro p hp e
   exact h (List.mem_map.mpr ⟨p,hp,of_decide_eq_true e⟩)
  rw[if_neg h]
  simp[h2]
theorem jC{κ α:Type}[DecidableEq κ]{l:List (κ×α)}{k:κ}{v:α}(h:(l.map (·.1)).Nodup):((aO l k v).map (·.1)).Nodup:=by
 rw[gP]
 split
 ·exact h
 ·rename_i hk
  rw[List.nodup_append]
  refine⟨h,by simp,fun a ha b hb e=>hk ?_⟩
  rw[List.mem_singleton]at hb
  rw[←hb,←e];exact ha
theorem ny{κ α:Type}[DecidableEq κ]{l:List (κ×α)}{k:κ}{v:α}(h:aA l k=some v):(k,v)∈l:=by
 unfold aA at h
 obtain⟨p,e,rfl⟩:=Option.map_eq_some_iff.mp h
 have h1:=List.find?_some e
 have h2:=List.mem_of_find?_eq_some e
 rw[←of_decide_eq_true h1];exact h2
theorem cv{κ α:Type}[DecidableEq κ]{l:List (κ×α)}{k:κ}:k∉l.map (·.1)→aA l k=none:=by
 intro h
 cases e:aA l k with
 | none=>rfl
 | some v=>exact absurd (List.mem_map_of_mem (ny e)) h
theorem cL{κ α:Type}[DecidableEq κ](q:κ×α)(l:List (κ×α))(k:κ):aA (q::l) k=if q.1=k then some q.2 else aA l k:=by
 unfold aA
 rw[List.find?_cons]
 by_cases h:q.1=k
 ·simp[h]
 ·simp[h]
theorem d5{κ α:Type}[DecidableEq κ]:∀ {l:List (κ×α)} {q:κ×α},(l.map (·.1)).Nodup→q∈l→aA l q.1=some q.2
 | p::l,q,hn,hq=>by
  rw[List.map_cons]at hn
  obtain⟨n1,n2⟩:=List.nodup_cons.mp hn
  rw[cL]
  rcases List.mem_cons.mp hq with rfl | hq
  ·rw[if_pos rfl]
  ·rw[if_neg (fun e=>n1 (by rw[e];exact List.mem_map_of_mem hq))]
   exact d5 n2 hq
abbrev Doc:Type:=List (List Nat×List Nat)
def jz(W:List (List Nat))(d:Doc):Prop:=iI 0 [] d=none∧d.length≤9∧(d.map (·.1)).Nodup∧∀ z∈d,z.1∈FN∧z.2.length≤60∧(∃ r,fZ z.2=.ok r)∧(j4 z.2).length≤61∧∀ u∈j4 z.2,u∈W
def eO(d:Doc)(g:List Nat):List (List Nat):=((aA d g).map j4).getD []
theorem jz.tx{W:List (List Nat)}{d:Doc}(h:jz W d):Tx d:=fun z hz=>by
 obtain⟨h1,h2,_⟩:=h.2.2.2 z hz
 have:=(wa h1).2.1
 exact⟨by omega,by omega⟩
end K06
namespace K06
open PySem L2 PyProof.Rows Vw
theorem rA{α:Type}[DecidableEq α]:∀ (l m:List α),l.Nodup→(∀ x∈l,x∈m)→l.length≤m.length
 | [],m,h,hs=>Nat.zero_le _
 | x::l,m,h,hs=>by
  obtain⟨h1,h2⟩:=List.nodup_cons.mp h
  have hx:=hs x (by simp)
  have:=rA l (m.erase x) h2 fun y hy=>(List.mem_erase_of_ne (fun e=>h1 (by rw[←e];exact hy))).mpr (hs y (by simp[hy]))
  have h3:=List.length_erase_of_mem hx
  have h4:=List.length_pos_of_mem hx
  simp only[List.length_cons];omega
theorem iq{κ α:Type}[DecidableEq κ](l m:List (κ×α))(k:κ):aA (l++m) k=(aA l k).or (aA m k):=by
 unfold aA
 rw[List.find?_append]
 cases List.find? (fun p=>decide (p.1=k)) l<;> rfl
theorem iE{κ α:Type}[DecidableEq κ]{l:List (κ×α)}{k:κ}{v:α}(h:k∈l.map (·.1)):aO l k v=l.map fun p=>if p.1=k then(p.1,v)else p:=by
 unfold aO
 have h2:(l.any fun p=>decide (p.1=k))=true:=by
  obtain⟨p,hp,e⟩:=List.mem_map.mp h
  exact List.any_eq_true.mpr ⟨p,hp,decide_eq_true e⟩
 simp only[h2,if_true]
theorem eA{κ α:Type}[DecidableEq κ]{l:List (κ×α)}{k:κ}{v:α}(h:k∉l.map (·.1)):aO l k v=l++[(k,v)]:=by
 unfold aO
 have h2:(l.any fun p=>decide (p.1=k))=false:=by
  rw[List.any_eq_false]
  intro p hp e
  exact h (List.mem_map.mpr ⟨p,hp,of_decide_eq_true e⟩)
 simp[h2]
theorem iH{κ α:Type}[DecidableEq κ](l:List (κ×α))(k k':κ)(v:α):aA (aO l k v) k'=if k'=k then some v else aA l k':=by
 by_cases h:k∈l.map (·.1)
 ·rw[iE h]
  induction l with
  | nil=>cases h
  | cons p l ih=>
   rw[List.map_cons,cL,cL]
   by_cases hp:p.1=k
   ·rw[if_pos hp]
    by_cases hk:k'=k
    ·rw[hk,if_pos hp,if_pos rfl]
    ·dsimp only
     rw[if_neg (by rw[hp];exact fun e=>hk e.symm),if_neg hk,if_neg (by rw[hp];exact fun e=>hk e.symm)]
     by_cases h2:k∈l.map (·.1)
     ·rw[ih h2,if_neg hk]
     ·have:(l.map fun p=>if p.1=k then(p.1,v)else p)=l:=by
       conv=>rhs;rw[←List.map_id l]
       exact List.map_congr_left fun q hq=>if_neg fun e=>h2 (by rw[←e];exact List.mem_map_of_mem hq)
      rw[this]
   ·have h2:k∈l.map (·.1):=by
     rw[List.map_cons]at h
     rcases List.mem_cons.mp h with e | h
     ·exact absurd e.symm hp
     ·exact h
    rw[if_neg hp,ih h2]
    by_cases hk:k'=k
    ·subst hk;rw[if_neg hp];simp
    ·rw[if_neg hk,if_neg hk]
 ·rw[eA h,iq,cL]
  by_cases hk:k'=k
  ·subst hk
   rw[cv h,if_pos rfl,if_pos rfl];rfl
  ·rw[if_neg hk,if_neg (fun e=>hk e.symm)]
   show(aA l k').or none=_
   cases aA l k'<;> rfl
abbrev Row:Type:=List (Int×List Int)
def br(tb:Tb)(g w:List Nat):Row:=(aA ((aA tb g).getD []) w).getD []
def pC(W:List (List Nat))(d:In):Prop:=(d.map (·.1)).Nodup∧∀ q∈d,q.1∈W∧q.2≠[]
def fP(W:List (List Nat))(tb:Tb):Prop:=(keys tb).Nodup∧∀ p∈tb,p.1∈FN∧p.2≠[]∧pC W p.2
theorem fP.nil{W:List (List Nat)}:fP W []:=⟨List.nodup_nil,fun p h=>by cases h⟩
theorem fP.len{W:List (List Nat)}{tb:Tb}(h:fP W tb):tb.length≤9:=by
 have:=rA _ FN h.1 fun y hy=>by
  obtain⟨z,hz,e⟩:=List.mem_map.mp hy
  rw[←e];exact(h.2 z hz).1
 unfold keys at this
 rw[List.length_map]at this
 exact this
theorem pC.len{W:List (List Nat)}{d:In}(h:pC W d):d.length≤W.length:=by
 have:=rA _ W h.1 fun y hy=>by
  obtain⟨z,hz,e⟩:=List.mem_map.mp hy
  rw[←e];exact(h.2 z hz).1
 rw[List.length_map]at this
 exact this
theorem fP.AV{W:List (List Nat)}{tb:Tb}(h:fP W tb)(g:List Nat):pC W ((aA tb g).getD []):=by
 cases e:aA tb g with
 | none=>exact⟨List.nodup_nil,fun p h=>by cases h⟩
 | some d=>exact(h.2 _ (ny e)).2.2
theorem fP.put{W:List (List Nat)}{tb:Tb}{f:List Nat}{d:In}(h:fP W tb)(hf:f∈FN)(hd:pC W d)(hn:d≠[]):fP W (aO tb f d):=by
 refine⟨jC h.1,fun p hp=>?_⟩
 rcases sX hp with hp | rfl
 ·exact h.2 p hp
 ·exact⟨hf,hn,hd⟩
theorem Ff(tb:Tb)(f g w:List Nat)(d:In):br (aO tb f d) g w=if g=f then(aA d w).getD []else br tb g w:=by
 unfold br
 rw[iH]
 split<;> rfl
theorem A1{l:List (List Nat)}{f:List Nat}(h:f∉l):ix l f=none:=by
 cases e:ix l f with
 | none=>rfl
 | some j=>exact absurd (List.mem_of_getElem? (lR e)) h
theorem A7{l:List (List Nat)}{f:List Nat}(h:f∈l):∃ j,ix l f=some j:=by
 cases e:ix l f with
 | none=>exact absurd h (yE e)
 | some j=>exact⟨j,rfl⟩
theorem Kh{tb:Tb}{f:List Nat}{d:In}(hn:(keys tb).Nodup):setIn (ad tb f) (jx tb f) d=aO tb f d:=by
 by_cases h:f∈tb.map (·.1)
 ·obtain⟨j,e⟩:=A7 (l:=keys tb) h
  have ej:=lR e
  rw[iE h]
  unfold setIn ad jx
  rw[e]
  simp only[Option.isSome_some,if_true,Option.getD_some]
  refine List.ext_getElem? fun i=>?_
  rw[List.getElem?_modify,List.getElem?_map]
  cases ei:tb[i]? with
  | none=>rfl
  | some p=>
   show some (if j=i then(p.1,d)else p)=some (if p.1=f then(p.1,d)else p)
   unfold keys at ej hn
   by_cases hji:j=i
   ·subst hji
    rw[List.getElem?_map,ei]at ej
    have:p.1=f:=Option.some.inj ej
    rw[if_pos rfl,if_pos this]
   ·rw[if_neg hji]
    rw[if_neg]
    intro hpf
    have hi:(tb.map (·.1))[i]? =some f:=by rw[List.getElem?_map,ei];simp[hpf]
    obtain⟨hi1,hi2⟩:=List.getElem?_eq_some_iff.mp hi
    obtain⟨hj1,hj2⟩:=List.getElem?_eq_some_iff.mp ej
    rcases Nat.lt_trichotomy j i with hlt | heq | hlt
    ·exact List.pairwise_iff_getElem.mp hn j i hj1 hi1 hlt (hj2.trans hi2.symm)
    ·exact hji heq
    ·exact List.pairwise_iff_getElem.mp hn i j hi1 hj1 hlt (hi2.trans hj2.symm)
 ·rw[eA h]
  unfold setIn ad jx
  rw[A1 (l:=keys tb) h]
  simp only[Option.isSome_none,Bool.false_eq_true,if_false,Option.getD_none]
  have key:∀ (l:Tb) (q:List Nat×In) (F:List Nat×In→List Nat×In),(l++[q]).modify l.length F=l++[F q]:=by
   intro l q F
   induction l with
   | nil=>rfl
   | cons a l ih=>rw[List.cons_append,List.length_cons,List.modify_succ_cons,ih];rfl
  exact key tb (f,[]) fun p=>(p.1,d)
theorem IG{tb:Tb}{f:List Nat}(hn:(keys tb).Nodup):k6 (ad tb f) (jx tb f)=(aA tb f).getD []:=by
 by_cases h:f∈tb.map (·.1)
 ·obtain⟨j,e⟩:=A7 (l:=keys tb) h
  have ej:=lR e
  unfold k6 ad jx
  rw[e]
  simp only[Option.isSome_some,if_true,Option.getD_some]
  unfold keys at ej
  rw[List.getElem?_map]at ej
  cases ei:tb[j]? with
  | none=>rw[ei]at ej;cases ej
  | some p=>
   rw[ei]at ej
   have:p.1=f:=Option.some.inj ej
   have hk:=d5 hn (List.mem_of_getElem? ei)
   rw[this]at hk
   rw[hk];rfl
 ·unfold k6 ad jx
  rw[A1 (l:=keys tb) h,cv h]
  simp only[Option.isSome_none,Bool.false_eq_true,if_false,Option.getD_none]
  rw[List.getElem?_append_right (Nat.le_refl _),Nat.sub_self]
  rfl
theorem JP{W:List (List Nat)}{tb:Tb}(h:fP W tb):gd (rj tb)=.ok ():=
 d7 (by unfold rj;rw[zL,decide_eq_true (show tb.length<16777216 by have:=h.len;omega),decide_eq_true h.1];rfl)
theorem w_eq{W:List (List Nat)}{mk:Int}{ps:List (List Nat×List Int)}{d:In}(hW:W.length≤90000)(hp:(ps.map (·.1)).Nodup)(hpw:∀ p∈ps,p.1∈W)(hd:pC W d)(hr:∀ w,((aA d w).getD []).length≤5000):Sat (yx mk ps d) fun d'=>pC W d'∧∀ w,aA d' w=match aA ps w with
  | some a=>some ((aA d w).getD []++[(mk,a)])
  | none=>aA d w:=by
 unfold yx
 refine aL (fS (fun r (c:In)=>pC W c∧r.Nodup∧(∀ w∈r,w∈ps.map (·.1))∧∀ w,aA c w=if w∈r then aA d w else match aA ps w with
  | some a=>some ((aA d w).getD []++[(mk,a)])
  | none=>aA d w) _ d ⟨hd,hp,fun _ h=>h,fun w=>?_⟩ fun c x r hc=>?_) fun v hv=>aX ⟨hv.1,fun w=>by rw[hv.2.2.2 w,if_neg (by simp)]⟩
 ·split
  ·rfl
  ·rename_i h
   rw[cv (l:=ps) h]
 ·obtain⟨hc,hn,hm,he⟩:=hc
  obtain⟨a,ha⟩:=zo (hm x (by simp))
  rw[show mm ps x=.ok a from by unfold mm;rw[ha]]
  simp only[M.ae]
  have hcx:aA c x=aA d x:=by rw[he x,if_pos (by simp)]
  have hxW:x∈W:=by
   obtain⟨p,hp,e⟩:=List.mem_map.mp (hm x (by simp))
   rw[←e];exact hpw p hp
  have:=hr x
  show Sat ((((gp ((aA c x).getD []) [(mk,a)]).bind _).bind _)) _
  rw[hcx,kb (by simp only[List.length_singleton];omega)]
  simp only[M.ae]
  have hcl:=hc.len
  rw[uR (by omega)]
  simp only[M.ae]
  obtain⟨r1,r2⟩:=List.nodup_cons.mp hn
  refine aX ⟨⟨jC hc.1,fun q hq=>?_⟩,r2,fun w hw=>hm w (by simp[hw]),fun w=>?_⟩
  ·rcases sX hq with hq | rfl
   ·exact hc.2 q hq
   ·exact⟨hxW,by simp⟩
  ·rw[iH]
   by_cases hwx:w=x
   ·subst hwx
    rw[if_pos rfl,if_neg r1,ha]
   ·rw[if_neg hwx,he w]
    by_cases hwr:w∈r
    ·rw[if_pos hwr,if_pos (by simp[hwr])]
    ·rw[if_neg hwr,if_neg (by simp[hwx,hwr])]
def yM(ps:List (List Nat×List Int))(mk:Int)(w:List Nat):Row:=((aA ps w).map fun a=>[(mk,a)]).getD []
theorem Jp{W:List (List Nat)}{mk:Int}{ps:List (List Nat×List Int)}{tb:Tb}{f:List Nat}(hW:W.length≤90000)(hp:(ps.map (·.1)).Nodup)(hpw:∀ p∈ps,p.1∈W)(hne:ps≠[])(hf:f∈FN)(ht:fP W tb)(hr:∀ w,(br tb f w).length≤5000):Sat (l8 tb f mk ps) fun tb'=>fP W tb'∧∀ g w,br tb' g w=br tb g w++if g=f then yM ps mk w else []:=by
 unfold l8
 rw[JP ht,M.ae,IG ht.1]
 refine aL (w_eq hW hp hpw (ht.AV f) hr) fun d hd=>aX ?_
 rw[Kh ht.1]
 refine⟨ht.put hf hd.1 fun e=>?_,fun g w=>?_⟩
 ·cases ps with
  | nil=>exact hne rfl
  | cons q ps=>
   have:=hd.2 q.1
   rw[cL,if_pos rfl,e]at this
   cases this
 ·rw[Ff]
  by_cases hg:g=f
  ·subst hg
   rw[if_pos rfl,if_pos rfl,hd.2 w]
   unfold yM br
   cases aA ps w with
   | none=>simp
   | some a=>rfl
  ·rw[if_neg hg,if_neg hg,List.append_nil]
end K06
namespace K06
open PySem L2 PyProof.Rows Vw
def pl(ws:List (List Nat))(w:List Nat):List Int:=(dy 0 ws).filterMap fun p=>if p.2=w then some p.1 else none
theorem zw(ws:List (List Nat))(x w:List Nat):pl (ws++[x]) w=pl ws w++if x=w then [(ws.length:Int)]else []:=by
 unfold pl
 rw[xq,List.filterMap_append]
 congr 1
 show List.filterMap _ [(((0+ws.length:Nat):Int),x)]=_
 by_cases h:x=w
 ·simp[h]
 ·simp[h]
theorem xF{T:Type}:∀ (l:List T) (k:Nat),(dy k l).length=l.length
 | [],k=>rfl
 | x::l,k=>by rw[dy,List.length_cons,List.length_cons,xF l]
theorem yp(ws:List (List Nat))(w:List Nat):(pl ws w).length≤ws.length:=by
 unfold pl
 exact Nat.le_trans (List.length_filterMap_le _ _) (by rw[xF];exact Nat.le_refl _)
theorem Ey{w:List Nat}:∀ {ws:List (List Nat)},w∉ws→pl ws w=[]:=by
 intro ws h
 unfold pl
 rw[List.filterMap_eq_nil_iff]
 intro p hp
 have:p.2∈(dy 0 ws).map (fun k=>k.2):=List.mem_map_of_mem hp
 rw[m7]at this
 rw[if_neg]
 intro e
 exact h (by rw[←e];exact this)
def G3(ws:List (List Nat))(ps:List (List Nat×List Int)):Prop:=(ps.map (·.1)).Nodup∧∀ w,aA ps w=if w∈ws then some (pl ws w)else none
abbrev Ct:Type:=List (List Nat×(Int×List (List Nat×List Int)))
def Hj(d:Doc)(c:Ct):Prop:=(c.map (·.1)).Nodup∧∀ g,(aA c g=none∧eO d g=[])∨∃ ps,aA c g=some (((eO d g).length:Int),ps)∧eO d g≠[]∧G3 (eO d g) ps
theorem uq{d:Doc}{g:List Nat}(h:g∉d.map (·.1)):eO d g=[]:=by unfold eO;rw[cv h];rfl
theorem LF{W:List (List Nat)}{d:Doc}{c:Ct}(hd:jz W d)(h:Hj d c):∀ y∈c,y.1∈FN:=fun y hy=>by
 have hk:=d5 h.1 hy
 rcases h.2 y.1 with⟨h1,_⟩ | ⟨ps,_,h2,_⟩
 ·rw[h1]at hk;cases hk
 ·have:y.1∈d.map (·.1):=Classical.byContradiction fun hn=>h2 (uq hn)
  obtain⟨z,hz,e⟩:=List.mem_map.mp this
  rw[←e];exact(hd.2.2.2 z hz).1
theorem Km{c:Ct}(h:(c.map (·.1)).Nodup)(hf:∀ y∈c,y.1∈FN):c.length≤9:=by
 have:=rA _ FN h fun y hy=>by
  obtain⟨z,hz,e⟩:=List.mem_map.mp hy
  rw[←e];exact hf z hz
 rw[List.length_map]at this
 exact this
theorem vX{pre:Doc}{z:List Nat×List Nat}(hn:z.1∉pre.map (·.1))(g:List Nat):eO (pre++[z]) g=if g=z.1 then j4 z.2 else eO pre g:=by
 unfold eO
 rw[iq,cL]
 by_cases h:g=z.1
 ·subst h
  rw[cv hn,if_pos rfl,if_pos rfl];rfl
 ·rw[if_neg h,if_neg (fun e=>h e.symm)]
  show(((aA pre g).or none).map j4).getD []=_
  cases aA pre g<;> rfl
theorem FG{ws:List (List Nat×Int×Int)}(hl:ws.length≤1000):Sat (foldM (fun(c5:(List (List Nat×List Int))×Int) (d8:List Nat×Int×Int)=>((gp ((eX c5.1 d8.1).getD ([]:List Int)) [c5.2]).bind fun a8=>(M.ok d8.1).bind fun a9=>gB c5.1 a9 a8).bind fun gN=>M.ok (gN,(c5.2+(1:Int)))) (([]:List (List Nat×List Int)),(0:Int)) ws) fun v=>v.2=(ws.length:Int)∧G3 (ws.map (·.1)) v.1:=by
 refine nX (fS (fun r (c:(List (List Nat×List Int))×Int)=>∃ pre,pre++r=ws∧c.2=(pre.length:Int)∧c.1.length≤pre.length∧G3 (pre.map (·.1)) c.1) ws _ ⟨[],rfl,rfl,Nat.le_refl _,List.nodup_nil,fun w=>by simp[aA]⟩ ?_) fun v hv=>by
  obtain⟨pre,e,h1,_,h2⟩:=hv
  rw[List.append_nil]at e
  rw[←e];exact⟨h1,h2⟩
 intro c x r hI
 obtain⟨pre,e,h1,h0,h2⟩:=hI
 have hpl:pre.length+1≤1000:=by have:=congrArg List.length e;simp at this;omega
 have hg:((aA c.1 x.1).getD [])=pl (pre.map (·.1)) x.1:=by
  rw[h2.2 x.1]
  split
  ·rfl
  ·rename_i hn;rw[Ey hn];rfl
 show Sat ((((gp ((aA c.1 x.1).getD []) [c.2]).bind _).bind _)) _
 have hpl2:=yp (pre.map (·.1)) x.1
 rw[List.length_map]at hpl2
 rw[hg,kb (by simp only[List.length_singleton];omega)]
 simp only[M.ae]
 rw[uR (by omega)]
 simp only[M.ae]
 have hpa:pl ((pre++[x]).map (·.1)) x.1=pl (pre.map (·.1)) x.1++[c.2]:=by
  rw[List.map_append,List.map_singleton,zw,if_pos rfl,List.length_map,h1]
 refine aX ⟨pre++[x],by simp[e],by simp[h1],?_,jC h2.1,fun w=>?_⟩
 ·have:=sM c.1 x.1 (pl (pre.map (·.1)) x.1++[c.2])
  simp only[List.length_append,List.length_singleton];omega
 ·rw[iH]
  by_cases hw:w=x.1
  ·subst hw
   rw[if_pos rfl,if_pos (by simp),hpa]
  ·rw[if_neg hw,h2.2 w,List.map_append,List.map_singleton,zw]
   by_cases hm:w∈pre.map (·.1)
   ·rw[if_pos hm,if_pos (List.mem_append_left _ hm),if_neg (fun e=>hw e.symm),List.append_nil]
   ·rw[if_neg hm,if_neg]
    intro h
    rcases List.mem_append.mp h with h | h
    ·exact hm h
    ·exact hw (by simpa using h)
theorem C3{W:List (List Nat)}{d:Doc}(h:jz W d):Sat (jy d) (Hj d):=by
 unfold jy
 rw[M.ae]
 refine aL (fS (fun r (c:Ct)=>∃ pre,pre++r=d∧c.length≤pre.length∧Hj pre c) d _ ⟨[],rfl,Nat.le_refl _,List.nodup_nil,fun g=>.inl ⟨rfl,rfl⟩⟩ ?_) fun v hv=>by
  obtain⟨pre,e,_,h2⟩:=hv
  rw[List.append_nil]at e
  rw[←e];exact aX h2
 intro c x r hI
 obtain⟨pre,e,h0,h2⟩:=hI
 have hx:x∈d:=by rw[←e];simp
 have hnd:x.1∉pre.map (·.1):=by
  have:=h.2.2.1
  rw[←e,List.map_append,List.map_cons]at this
  exact fun hm=>(List.nodup_append.mp this).2.2 x.1 hm x.1 (by simp) rfl
 have hpl:pre.length+1≤9:=by
  have h5:=congrArg List.length e
  have h6:=h.2.1
  rw[List.length_append,List.length_cons]at h5
  omega
 obtain⟨hfn,_,⟨ws,ew⟩,hwl,hwm⟩:=h.2.2.2 x hx
 have hwd:j4 x.2=ws.map (·.1):=by unfold j4;rw[ew]
 rw[ew]
 simp only[nox,M.ae]
 have hk0:aA c x.1=none:=by
  rcases h2.2 x.1 with⟨h3,_⟩ | ⟨ps,_,h3,_⟩
  ·exact h3
  ·exact absurd (uq hnd) h3
 have hk1:x.1∉c.map (·.1):=fun hm=>by
  obtain⟨v,hv⟩:=zo hm
  rw[hk0]at hv;cases hv
 refine aL (FG (by rw[hwd,List.length_map]at hwl;omega)) fun v hv=>?_
 refine aL (P:=fun(c':Ct)=>c'.length≤pre.length+1∧Hj (pre++[x]) c') (rC (fun hc=>?_) fun hc=>?_) fun c' hc'=>aX ⟨pre++[x],by simp[e],by simpa using hc'.1,hc'.2⟩
 ·skip
  rw[uR (by omega),M.ae]
  have hne:ws≠[]:=fun hn=>by
   rw[hv.1,hn]at hc
   exact absurd hc (by decide)
  refine aX ⟨Nat.le_trans (sM _ _ _) (by omega),jC h2.1,fun g=>?_⟩
  rw[iH,vX hnd]
  by_cases hg:g=x.1
  ·rw[if_pos hg,if_pos hg,hwd]
   refine .inr ⟨v.1,?_,by simpa using hne,hv.2⟩
   rw[hv.1,List.length_map]
  ·rw[if_neg hg,if_neg hg]
   exact h2.2 g
 ·have hne:ws=[]:=by
   rw[hv.1]at hc
   cases ws with
   | nil=>rfl
   | cons a l=>exact absurd (by simp:decide ((0:Int)<(((a::l).length:Nat):Int))=true) hc
  refine aX ⟨by omega,h2.1,fun g=>?_⟩
  rw[vX hnd]
  by_cases hg:g=x.1
  ·rw[if_pos hg,hwd,hne]
   exact .inl ⟨by rw[hg];exact hk0,rfl⟩
  ·rw[if_neg hg]
   exact h2.2 g
def rws(ms:bj)(g w:List Nat):Row:=ms.flatMap fun z=>if w∈eO z.2 g then [(z.1,pl (eO z.2 g) w)]else []
theorem lQ(ms:bj)(g w:List Nat):(rws ms g w).length≤ms.length:=by
 unfold rws
 induction ms with
 | nil=>exact Nat.le_refl _
 | cons z ms ih=>
  rw[List.flatMap_cons,List.length_append,List.length_cons]
  split
  ·rw[List.length_singleton];omega
  ·rw[List.length_nil];omega
theorem BG(a b:bj)(g w:List Nat):rws (a++b) g w=rws a g w++rws b g w:=by unfold rws;rw[List.flatMap_append]
def ui(ms:bj)(mk:Int)(g:List Nat):Option Int:=(aA ms mk).bind fun d=>if eO d g=[]then none else some ((eO d g).length:Int)
def su(ls:Ls)(mk:Int)(g:List Nat):Option Int:=aA ls [K0.i mk,K0.s g]
theorem H7(ls:Ls)(mk m:Int)(f g:List Nat)(v:Int):su (aO ls [K0.i mk,K0.s f] v) m g=if m=mk∧g=f then some v else su ls m g:=by
 unfold su
 rw[iH]
 by_cases h:m=mk∧g=f
 ·rw[if_pos h,if_pos (by rw[h.1,h.2])]
 ·rw[if_neg h,if_neg]
  intro e
  injection e with e1 e2
  injection e1 with e1
  injection e2 with e2 _
  injection e2 with e2
  exact h ⟨e1,e2⟩
theorem JT{W:List (List Nat)}{pre:bj}{c:Ls×Tb}{z:Int×Doc}(hW:W.length≤90000)(hz:jz W z.2)(hm:z.1∉pre.map (·.1))(hpl:pre.length≤64)(hl:c.1.length≤90000)(ht:fP W c.2)(hr:∀ g w,br c.2 g w=rws pre g w)(hg:∀ m g,su c.1 m g=ui pre m g):Sat (uD c z) fun r=>r.1.length≤c.1.length+9∧fP W r.2∧(∀ g w,br r.2 g w=rws (pre++[z]) g w)∧∀ m g,su r.1 m g=ui (pre++[z]) m g:=by
 unfold uD
 refine aL (aL (aL (lS (C3 hz)) fun l hl=>aX hl) fun l hc=>?_) fun v hv=>aX hv
 have hfn:=LF hz hc
 have hcl:=Km hc.1 hfn
 refine nX (fS (fun r (d:Ls×Tb)=>∃ q,q++r=l∧d.1.length+r.length≤c.1.length+l.length∧fP W d.2∧(∀ g w,br d.2 g w=rws pre g w++((aA q g).map fun y=>yM y.2 z.1 w).getD [])∧∀ m g,su d.1 m g=if m=z.1 then(aA q g).map (·.1)else ui pre m g) l c ⟨[],rfl,Nat.le_refl _,ht,fun g w=>by rw[hr];simp[aA],fun m g=>?_⟩ fun d y r hI=>?_) fun v hv=>?_
 ·rw[hg]
  split
  ·rename_i e
   unfold ui
   rw[e,cv hm];rfl
  ·rfl
 ·obtain⟨q,e,h1,h2,h3,h4⟩:=hI
  simp only[List.length_cons]at h1
  have hy:y∈l:=by rw[←e];simp
  have hyn:y.1∉q.map (·.1):=by
   have:=hc.1
   rw[←e,List.map_append,List.map_cons]at this
   exact fun hm=>(List.nodup_append.mp this).2.2 y.1 hm y.1 (by simp) rfl
  have hyk:=d5 hc.1 hy
  obtain⟨ps,hps,hne,hpx⟩:∃ ps,y.2=(((eO z.2 y.1).length:Int),ps)∧eO z.2 y.1≠[]∧G3 (eO z.2 y.1) ps:=by
   rcases hc.2 y.1 with⟨h5,_⟩ | ⟨ps,h5,h6,h7⟩
   ·rw[h5]at hyk;cases hyk
   ·rw[h5]at hyk
    exact⟨ps,(Option.some.inj hyk).symm,h6,h7⟩
  have hpw:∀ p∈ps,p.1∈W:=fun p hp=>by
   have hk:=d5 hpx.1 hp
   rw[hpx.2]at hk
   split at hk
   ·rename_i hin
    have hyd:y.1∈z.2.map (·.1):=Classical.byContradiction fun hn=>hne (uq hn)
    obtain⟨x,hx,ex⟩:=List.mem_map.mp hyd
    have:=d5 hz.2.2.1 hx
    rw[ex]at this
    have hw:eO z.2 y.1=j4 x.2:=by unfold eO;rw[this];rfl
    rw[hw]at hin
    exact(hz.2.2.2 x hx).2.2.2.2 _ hin
   ·cases hk
  have hpne:ps≠[]:=fun h0=>by
   subst h0
   cases hw:eO z.2 y.1 with
   | nil=>exact hne hw
   | cons a b=>
    have:=hpx.2 a
    rw[hw,if_pos (by simp)]at this
    cases this
  unfold C0 putL
  rw[d7 (by rw[zL];exact decide_eq_true (by omega)),M.ae,M.ae]
  refine aL (lS (Jp (mk:=z.1) (f:=y.1) (ps:=y.2.2) hW (by rw[hps];exact hpx.1) (by rw[hps];exact hpw) (by rw[hps];exact hpne) (hfn y hy) h2 fun w=>?_)) fun tb htb=>aX ⟨q++[y],by simp[e],?_,htb.1,fun g w=>?_,fun m g=>?_⟩
  ·rw[h3,cv hyn]
   have:=lQ pre y.1 w
   simp;omega
  ·have:=sM d.1 [K0.i z.1,K0.s y.1] y.2.1
   dsimp only;omega
  ·rw[htb.2,h3,iq,cL]
   by_cases hgy:g=y.1
   ·subst hgy
    rw[cv hyn,if_pos rfl,if_pos rfl]
    simp
   ·rw[if_neg hgy,if_neg (fun e=>hgy e.symm)]
    show _=_++(((aA q g).or none).map _).getD []
    rw[Option.or_none,List.append_nil]
  ·dsimp only
   rw[H7,h4,iq,cL]
   by_cases hm1:m=z.1
   ·by_cases hgy:g=y.1
    ·rw[if_pos ⟨hm1,hgy⟩,if_pos hm1,hgy,cv hyn,if_pos rfl];rfl
    ·rw[if_neg (fun h=>hgy h.2),if_pos hm1,if_pos hm1,if_neg (fun e=>hgy e.symm)]
     show _=((aA q g).or none).map _
     rw[Option.or_none]
   ·rw[if_neg (fun h=>hm1 h.1),if_neg hm1,if_neg hm1]
 ·obtain⟨q,e,h1,h2,h3,h4⟩:=hv
  rw[List.append_nil]at e
  subst e
  simp only[List.length_nil]at h1
  refine⟨by omega,h2,fun g w=>?_,fun m g=>?_⟩
  ·rw[h3,BG]
   congr 1
   unfold rws
   rw[List.flatMap_singleton]
   rcases hc.2 g with⟨h5,h6⟩ | ⟨ps,h5,h6,h7⟩
   ·rw[h5,h6,if_neg (by simp)];rfl
   ·rw[h5]
    show yM ps z.1 w=_
    unfold yM
    rw[h7.2 w]
    split<;> rfl
  ·rw[h4]
   unfold ui
   rw[iq,cL]
   by_cases hm1:m=z.1
   ·subst hm1
    rw[if_pos rfl,cv hm,if_pos rfl]
    show _=if eO z.2 g=[]then none else _
    rcases hc.2 g with⟨h5,h6⟩ | ⟨ps,h5,h6,h7⟩
    ·rw[h5,if_pos h6];rfl
    ·rw[h5,if_neg h6];rfl
   ·rw[if_neg hm1,if_neg (fun e=>hm1 e.symm)]
    show _=((aA pre m).or none).bind _
    rw[Option.or_none]
def ky(W:List (List Nat))(d:bj):Prop:=d.length≤64∧(∀ z∈d,jz W z.2∧0≤z.1)∧(d.map (·.1)).Pairwise (· < ·)
theorem ky.nd{W:List (List Nat)}{d:bj}(h:ky W d):(d.map (·.1)).Nodup:=h.2.2.imp fun hab e=>by omega
theorem sF{W:List (List Nat)}:∀ (d:bj) (k:Nat) (last:Int),(∀ z∈d,jz W z.2∧last<z.1)→(d.map (·.1)).Pairwise (· < ·)→n7 k last d=none
 | [],k,last,h,hp=>rfl
 | z::r,k,last,h,hp=>by
  rw[List.map_cons]at hp
  obtain⟨p1,p2⟩:=List.pairwise_cons.mp hp
  obtain⟨h1,h2⟩:=h z (by simp)
  rw[n7,if_neg (by omega),h1.1]
  exact sF r (k+1) z.1 (fun y hy=>⟨(h y (by simp[hy])).1,p1 y.1 (List.mem_map_of_mem hy)⟩) p2
structure PcX (W:List (List Nat)) (ms:bj) (pc:d9):Prop where
 m:pc.1=ms.map (·.1)
 o:ky W ms
 t:fP W pc.2.2
 r:∀ g w,br pc.2.2 g w=rws ms g w
 l:∀ m g,su pc.2.1 m g=ui ms m g
theorem Jl{W:List (List Nat)}{d:bj}(hW:W.length≤90000)(h:ky W d):Sat (mz d) (PcX W d):=by
 unfold mz
 rw[CY (fun z hz=>jz.tx (h.2.1 z hz).1),sF d 0 (-1) (fun z hz=>⟨(h.2.1 z hz).1,by have:=(h.2.1 z hz).2;omega⟩) h.2.2]
 simp only[M.ae]
 rw[nO (F:=fun(z:Int×List (List Nat×List Nat))=>z.1) (fun _ _=>rfl) (fun _ _=>rfl) (by have:=h.1;omega),M.ae]
 refine aL (fS (fun r (c:Ls×Tb)=>∃ pre,pre++r=d∧c.1.length+9*r.length≤9*d.length∧fP W c.2∧(∀ g w,br c.2 g w=rws pre g w)∧∀ m g,su c.1 m g=ui pre m g) d ([],[]) ⟨[],rfl,by simp,fP.nil,fun g w=>rfl,fun m g=>rfl⟩ fun c z r hI=>?_) fun c hI=>?_
 ·obtain⟨pre,e,h1,h2,h3,h4⟩:=hI
  simp only[List.length_cons]at h1
  have hdl:=h.1
  have hz:z∈d:=by rw[←e];simp
  have hn:z.1∉pre.map (·.1):=by
   have:=h.nd
   rw[←e,List.map_append,List.map_cons]at this
   exact fun hm=>(List.nodup_append.mp this).2.2 z.1 hm z.1 (by simp) rfl
  have hpl:pre.length≤64:=by have:=congrArg List.length e;simp at this;omega
  refine nX (JT hW (h.2.1 z hz).1 hn hpl (by omega) h2 h3 h4) fun v hv=>⟨pre++[z],by simp[e],by have:=hv.1;omega,hv.2⟩
 ·obtain⟨pre,e,h1,h2,h3,h4⟩:=hI
  rw[List.append_nil]at e
  subst e
  exact aX ⟨rfl,h,h2,h3,h4⟩
end K06
namespace K06
open PySem L2 PyProof.Rows Vw
theorem Bp{a b:Int}(h:0<b)(h2:b<1000000):tO a b=.ok (a/b):=by
 unfold tO
 have:wq b=true:=by
  unfold wq
  refine decide_eq_true ⟨h,?_⟩
  have:b.natAbs.log2<20:=wD (by omega) (by decide)
  omega
 rw[d7 this,M.ae]
theorem rh{cell base:Int}{n:Nat}{free:Bool}(hn:n≤1000)(hb:0<base)(hb2:base<1000000):Sat (gq cell n base free) fun r=>r.length=n∧∀ x∈r,0≤x∧x<base:=by
 unfold gq
 rw[Ig (by omega),M.ae]
 refine aL (yu (fun m (c:List Int×Int)=>c.1.length=m∧∀ x∈c.1,0≤x∧x<base) ⟨rfl,fun x h=>by cases h⟩ ?_) fun v hv=>aX (by simpa using hv)
 intro m c k hk hm hc
 rw[List.length_map,List.length_range]at hm
 have hk:=IA hk
 have hadd:∀ y:Int,0≤y→y<base→((c.1++[y]).length=m+1∧∀ x∈c.1++[y],0≤x∧x<base):=by
  intro y h1 h2
  refine⟨by simp[hc.1],fun x hx=>?_⟩
  rcases List.mem_append.mp hx with hx | hx
  ·exact hc.2 x hx
  ·have:x=y:=by simpa using hx
   subst this;exact⟨h1,h2⟩
 have hcond:∃ b,(andM (M.ok free) (andM ((o3 (10:Int) (18:Int)).bind fun a4=>M.ok (decide (a4≤(if cell<0 then-cell else cell)))) (M.ok ((!(eqB c.2 (0:Int)))&&(!(eqB c.2 (-(1:Int))))))))=.ok b:=by
  rw[wI (by decide) (by decide) (by decide)]
  exact EO ⟨_,rfl⟩ (EO ⟨_,rfl⟩ ⟨_,rfl⟩)
 obtain⟨b,hb'⟩:=hcond
 rw[hb',M.ae]
 refine aL (P:=fun(j:List Int×Int)=>j.1.length=m+1∧∀ x∈j.1,0≤x∧x<base) (rC (fun _=>?_) fun _=>?_) fun j hj=>aX hj
 ·rw[vU hb]
  simp only[M.ae]
  rw[kg (by omega),M.ae,Bp hb hb2,M.ae]
  exact aX (hadd _ (lH hb).1 (lH hb).2)
 ·rw[rp 20 20 (by decide) (by omega) (by decide) (by decide) (by decide)]
  simp only[M.ae]
  have h1:=lH (a:=cell+7919*k) (m:=2147483629) (by decide)
  rw[rp 40 40 (by omega) (by omega) (by decide) (by decide) (by decide)]
  simp only[M.ae]
  have h2:=lH (a:=(cell+7919*k)%2147483629*((cell+7919*k)%2147483629)+k) (m:=2147483629) (by decide)
  rw[rp 40 40 (by omega) (by omega) (by decide) (by decide) (by decide)]
  simp only[M.ae]
  rw[vU hb]
  simp only[M.ae]
  rw[kg (by omega),M.ae]
  exact aX (hadd _ (lH hb).1 (lH hb).2)
theorem Kw{l:List Int}{b:Int}(h:0≤b):(dF l (some 1) (some (1+b))).length≤b.toNat∧∀ x∈dF l (some 1) (some (1+b)),x∈l:=by
 have:(1+b)=((1+b.toNat:Nat):Int):=by omega
 rw[this,show(1:Int)=((1:Nat):Int)from rfl,FZ]
 refine⟨by rw[List.length_take];omega,fun x hx=>List.mem_of_mem_drop (List.mem_of_mem_take hx)⟩
def HE:List Nat:=sS " !\"#$&'()*+,-./0123456789:;<=>?@ABCDEFGHIJKLMNOPQRSTUVWXYZ[\\]^_"
def HG:List Nat:=sS "`abcdefghijklmnopqrstuvwxyz{|}~"
theorem LM{l:List (List Nat)}{k:Nat}(h:∀ y∈l,y.length≤k):(l.map (·.length)).sum≤l.length*k:=by
 induction l with
 | nil=>simp
 | cons a l ih=>
  have:=ih fun y hy=>h y (by simp[hy])
  have:=h a (by simp)
  simp only[List.map_cons,List.sum_cons,List.length_cons]
  rw[Nat.succ_mul];omega
theorem xI(a:List Nat):∀ (l:List (List Nat)),(TL.joinL a l).length≤(l.map (·.length)).sum+l.length*a.length
 | []=>by simp[TL.joinL]
 | [x]=>by simp[TL.joinL]
 | x::y::l=>by
  have:=xI a (y::l)
  simp only[TL.joinL,List.length_append,List.map_cons,List.sum_cons,List.length_cons]at this ⊢
  rw[Nat.succ_mul]
  omega
theorem ED(a:List Nat)(l:List (List Nat)):(o5 a l).length≤(l.map (·.length)).sum+l.length*a.length:=by
 rw[Gm];exact xI a l
theorem y5{a:List Nat}{l:List (List Nat)}{k n:Nat}(h:∀ y∈l,y.length≤k)(hl:l.length≤n)(ha:a.length≤1)(hn:n*k+n≤60):Sat (joinM a l) fun r=>r.length≤60:=by
 have h1:=LM h
 have h2:l.length*k≤n*k:=Nat.mul_le_mul_right _ hl
 have h3:l.length*a.length≤l.length*1:=Nat.mul_le_mul_left _ ha
 have h4:=ED a l
 unfold joinM
 rw[d7 (decide_eq_true (by omega)),M.ae]
 exact aX (by omega)
theorem Gh(cell:Int):Sat (i8 cell) fun t=>t.length≤60:=by
 unfold i8
 refine rC (fun _=>?_) fun _=>?_
 ·rw[M.ae,show sS " !\"#$&'()*+,-./0123456789:;<=>?@ABCDEFGHIJKLMNOPQRSTUVWXYZ[\\]^_"=HE from rfl,show sS "`abcdefghijklmnopqrstuvwxyz{|}~"=HG from rfl]
  have e1:HE.length=63:=by decide+kernel
  have e2:HG.length=31:=by decide+kernel
  have e3:(HE++HG).length=94:=by rw[List.length_append,e1,e2]
  rw[ki (by omega),M.ae,wj (by omega)]
  simp only[M.ae]
  rw[e3]
  refine aL (lS (rh (n:=25) (by decide) (by decide) (by decide))) fun ds hd=>?_
  have h0:∃ a,a∈ds∧i7 ds 0=.ok a:=oa (by decide) (by rw[hd.1];decide)
  obtain⟨a,ha,e0⟩:=h0
  rw[e0]
  simp only[M.ae]
  have hm:=lH (a:=a) (m:=25) (by decide)
  have hc:=Kw (l:=ds) hm.1
  refine aL (aL (aL (xK (fun y=>y.length≤1) (fun _ _=>rfl) (fun x hx=>?_) (by omega)) fun r hr=>aX (P:=fun(z:List (List Nat)×Unit)=>z.1.length≤25∧∀ y∈z.1,y.length≤1) ⟨by rw[hr.1];omega,hr.2⟩) fun z hz=>y5 hz.2 hz.1 (by decide) (by decide)) fun v hv=>aX hv
  have hx:=hd.2 x (hc.2 x hx)
  obtain⟨c,_,e⟩:=Lk (l:=HE++HG) (i:=x) hx.1 (by rw[e3];exact hx.2) (by omega)
  exact⟨_,e,by simp⟩
 ·refine aL (lS (rh (n:=14) (by decide) (by decide) (by decide))) fun ds hd=>?_
  have h0:∃ a,a∈ds∧i7 ds 0=.ok a:=oa (by decide) (by rw[hd.1];decide)
  obtain⟨a,ha,e0⟩:=h0
  rw[e0]
  simp only[M.ae]
  have hm:=hd.2 a ha
  have hc:=Kw (l:=ds) hm.1
  refine aL (aL (aL (xK (fun y=>y.length≤4) (fun _ _=>rfl) (fun x hx=>?_) (by omega)) fun r hr=>aX (P:=fun(z:List (List Nat)×Unit)=>z.1.length≤12∧∀ y∈z.1,y.length≤4) ⟨by rw[hr.1];omega,hr.2⟩) fun z hz=>y5 hz.2 hz.1 (by decide) (by decide)) fun v hv=>aX hv
  have hx:=hd.2 x (hc.2 x hx)
  exact H9 hx.1 hx.2 (by decide+kernel)
theorem IK:∀ x∈FN,(match qJ FN x with | .ok _=>true | _=>false)=true:=by decide+kernel
theorem Jk:FN.Nodup:=by decide+kernel
def HD(x:List Nat):Int:=match qJ FN x with | .ok v=>v | _=>0
theorem LC{x:List Nat}(h:x∈FN):qJ FN x=.ok (HD x):=by
 have:=IK x h
 unfold HD
 cases e:qJ FN x with
 | ok v=>rfl
 | exc y=>rw[e]at this;cases this
 | bad=>rw[e]at this;cases this
theorem w8{T:Type}(b:T→Bool):∀ (l c:List T),l.foldl (fun c x=>if b x=true then c++[x]else c) c=c++l.filter b
 | [],c=>by simp
 | x::l,c=>by
  rw[List.foldl_cons,w8 b l,List.filter_cons]
  split<;> simp
theorem Ib(cell more:Int):Sat (eT cell more) fun d=>iI 0 [] d=none∧d.length≤9∧(d.map (·.1)).Nodup∧∀ z∈d,z.1∈FN∧z.2.length≤60:=by
 unfold eT
 refine aL (lS (rh (n:=4) (by decide) (by decide) (by decide))) fun ds hd=>?_
 obtain⟨a,ha,e0⟩:∃ a,a∈ds∧i7 ds 0=.ok a:=oa (by decide) (by rw[hd.1];decide)
 rw[e0,show [(sS "a"),(sS "ab"),(sS "b"),(sS "body"),(sS "c"),(sS "title"),(sS "tit"),(sS "z"),(sS "zz")]=FN from rfl]
 simp only[M.ae]
 rw[foldM_eq (g:=fun c x=>if vW (HD x) (dF ds (some 1) (some (1+a%4)))=true then c++[x]else c) (fun c l=>c.length+l.length≤9∧∀ x∈l,x∈FN) FN [] ⟨by decide,fun _ h=>h⟩ (fun c x l hp=>?_)]
 ·rw[M.ae,w8,List.nil_append]
  generalize hF:FN.filter (fun x=>vW (HD x) (dF ds (some 1) (some (1+a%4))))=F
  have hF1:F.length≤9:=by rw[←hF];exact List.length_filter_le _ _
  have hF2:∀ x∈F,x∈FN:=by intro x hx;rw[←hF]at hx;exact(List.mem_filter.mp hx).1
  have hF3:F.Nodup:=by rw[←hF];exact Jk.filter _
  have hs:CF F=.ok (bI F):=by unfold CF;rw[d7 (decide_eq_true (by omega)),M.ae]
  rw[hs]
  simp only[M.ae]
  have hp:=fQ F
  have hlen:(bI F).length=F.length:=hp.length_eq
  have hel:(eI (bI F)).length=F.length:=by simp[eI,hlen]
  have hmem:∀ x∈eI (bI F),0≤x.1∧x.1<10∧x.2∈FN:=by
   intro x hx
   rw[eI,List.mem_mapIdx]at hx
   obtain⟨i,hi,rfl⟩:=hx
   exact⟨by simp,by simp;omega,hF2 _ (hp.subset (List.getElem_mem hi))⟩
  refine aL (DH (fun(k:Int×List Nat)=>k.2) (fun(z:List Nat×List Nat)=>z.1) (fun z=>z.2.length≤60) (fun _ _=>rfl) (fun x hx=>?_) (by omega)) fun v hv=>aX ?_
  ·obtain⟨h1,h2,h3⟩:=hmem x hx
   rw[rp 20 20 (by decide) (by omega) (by decide) (by decide) (by decide)]
   simp only[M.ae]
   rw[Bp (by omega) (by omega)]
   simp only[M.ae]
   refine aL (aL (lS (Gh _)) fun t ht=>aX (P:=fun(z:List Nat×Unit)=>z.1.length≤60) ht) fun t ht=>aX ⟨rfl,ht⟩
  ·obtain⟨hv1,hv2⟩:=hv
   have hv1:v.map (·.1)=bI F:=by
    rw[hv1,mE]
    exact m7 _ _
   have hnd:(bI F).Nodup:=hp.nodup_iff.mpr hF3
   refine⟨sH v 0 [] (fun z hz=>?_) ?_,?_,by rw[hv1];exact hnd,fun z hz=>⟨hF2 _ (hp.subset (by rw[←hv1];exact List.mem_map_of_mem hz)),hv2 z hz⟩⟩
   ·have:z.1∈bI F:=by rw[←hv1];exact List.mem_map_of_mem hz
    exact(wa (hF2 _ (hp.subset this))).1
   ·rw[hv1]
    refine List.pairwise_cons.mpr ⟨fun b hb=>?_,?_⟩
    ·have:=(wa (hF2 _ (hp.subset hb))).2.2
     cases b with
     | nil=>exact absurd rfl this
     | cons a l=>exact decide_eq_true (by simp)
    ·have hn:(bI F).Nodup:=hp.nodup_iff.mpr hF3
     exact List.Pairwise.imp₂ (fun a b h1 h2=>KL h1 h2) (sQ F) hn
   ·have:=congrArg List.length hv1
    simp at this
    omega
 ·obtain⟨h1,h2⟩:=hp
  simp only[List.length_cons]at h1
  rw[LC (h2 x (by simp))]
  simp only[M.ae]
  refine⟨?_,?_⟩
  ·split
   ·rw[kg (by omega)];rfl
   ·rfl
  ·refine⟨?_,fun y hy=>h2 y (by simp[hy])⟩
   split
   ·simp;omega
   ·omega
def wG(d:bj):List (List Nat):=d.flatMap fun z=>z.2.flatMap fun y=>j4 y.2
def C1(d:Doc):Prop:=iI 0 [] d=none∧d.length≤9∧(d.map (·.1)).Nodup∧∀ z∈d,z.1∈FN∧z.2.length≤60
theorem IF{ms:bj}{z:Int×Doc}(hz:z∈ms)(h:C1 z.2):jz (wG ms) z.2:=by
 refine⟨h.1,h.2.1,h.2.2.1,fun y hy=>?_⟩
 obtain⟨h1,h2⟩:=h.2.2.2 y hy
 obtain⟨a,_,_,b⟩:=kL (t:=y.2) (by omega)
 exact⟨h1,h2,a,by omega,fun u hu=>List.mem_flatMap.mpr ⟨z,hz,List.mem_flatMap.mpr ⟨y,hy,hu⟩⟩⟩
theorem tD{A B:Type}{f:A→List B}{k:Nat}:∀ {l:List A},(∀ x∈l,(f x).length≤k)→(l.flatMap f).length≤l.length*k
 | [],_=>by simp
 | x::l,h=>by
  have h1:=h x (by simp)
  have h2:=tD (l:=l) fun y hy=>h y (by simp[hy])
  rw[List.flatMap_cons,List.length_append,List.length_cons,Nat.succ_mul]
  omega
theorem FY{ms:bj}(hl:ms.length≤10)(h:∀ z∈ms,C1 z.2):(wG ms).length≤90000:=by
 have h1:∀ z∈ms,(z.2.flatMap fun y=>j4 y.2).length≤9*61:=fun z hz=>by
  have:=tD (l:=z.2) (f:=fun y=>j4 y.2) (k:=61) fun y hy=>by
   obtain⟨_,_,_,b⟩:=kL (t:=y.2) (by have:=((h z hz).2.2.2 y hy).2;omega)
   have:=((h z hz).2.2.2 y hy).2
   omega
  have:=Nat.mul_le_mul_right 61 (h z hz).2.1
  omega
 have:=tD (l:=ms) h1
 have:=Nat.mul_le_mul_right (9*61) hl
 unfold wG
 omega
def Fw(d:bj):Prop:=d.length≤10∧(∀ z∈d,C1 z.2∧0≤z.1∧z.1<100000000000000000000000000000000000000000000000000)∧(d.map (·.1)).Pairwise (· < ·)
theorem vT{d:bj}(h:Fw d):ky (wG d) d∧(wG d).length≤90000:=⟨⟨by have:=h.1;omega,fun z hz=>⟨IF hz (h.2.1 z hz).1,(h.2.1 z hz).2.1⟩,h.2.2⟩,FY h.1 fun z hz=>(h.2.1 z hz).1⟩
structure MkI (n:Nat) (c:bj×Int):Prop where
 l:c.1.length=n
 d:∀ z∈c.1,C1 z.2
 p:(c.1.map (·.1)).Pairwise (fun a b=>a<b)
 m:∀ x∈c.1.map (·.1), -1<x∧x≤c.2
 b: -1≤c.2
 u:c.2≤(n:Int)*100000000000000000000000000000000000000000
theorem DS{ns:List Int}(hl:ns.length≤63):Sat (iO ns) Fw:=by
 unfold iO
 generalize hj:(if((ns.length:Int)-(1:Int))<(21:Int)then((ns.length:Int)-(1:Int))else(21:Int))=j
 have hj1:j≤21∧j≤(ns.length:Int)- 1∧ -1≤j:=by rw[←hj];split<;> omega
 have hr:zl 1 j 2=.ok ((List.range ((j- 1+2- 1)/2).toNat).map fun(k:Nat)=>1+(k:Int)*2):=by
  unfold zl x8
  rw[d7 (decide_eq_true (by omega)),M.ae]
 rw[hr,M.ae]
 refine aL (yu (fun n c=>MkI n c) ⟨rfl,(fun z h=>by cases h),.nil,(fun x h=>by cases h),by decide,by decide⟩ ?_) fun v hv=>aX ?_
 ·intro n c k hk hn hc
  rw[List.length_map,List.length_range]at hn
  obtain⟨i,hi,rfl⟩:=List.mem_map.mp hk
  have hi:=List.mem_range.mp hi
  obtain⟨a,ha,e1⟩:=oa (l:=ns) (i:=1+(i:Int)*2) (by omega) (by omega)
  obtain⟨b,hb,e2⟩:=oa (l:=ns) (i:=1+(i:Int)*2+1) (by omega) (by omega)
  rw[e1,e2]
  simp only[M.ae]
  rw[wI (by decide) (by decide) (by decide),M.ae,vU (by decide)]
  simp only[M.ae]
  have hm1:=lH (a:=a/4) (m:=9) (by decide)
  have hm2:=lH (a:=a/4) (m:=10^(40:Int).toNat) (by decide)
  have hstep:∃ y:Int,i7 [(a/4)%9,(a/4)%10^(40:Int).toNat] (if(eqB (a%(4:Int)) (3:Int))=true then(1:Int)else 0)=.ok y∧0≤y∧y<10000000000000000000000000000000000000000:=by
   have hP:(10:Int)^(40:Int).toNat=10000000000000000000000000000000000000000:=by decide+kernel
   split
   ·exact⟨_,rfl,hm2.1,by have h2:=hm2.2;generalize (a/4)%10^(40:Int).toNat=q at h2 ⊢;rw[hP]at h2;exact h2⟩
   ·exact⟨_,rfl,hm1.1,by omega⟩
  obtain⟨y,ey,hy,hyu⟩:=hstep
  rw[ey]
  simp only[M.ae]
  obtain⟨dd,ed,hd⟩:=Ib (a/4) b
  have ed':nox (eT (a/4) b)=.ok dd:=by rw[ed];rfl
  rw[ed']
  simp only[M.ae]
  have hl:=hc.l
  rw[kg (by omega)]
  simp only[M.ae]
  have hb:=hc.b
  have hu:=hc.u
  refine aX ⟨by simp[hc.l],fun y hy=>?_,?_,?_,by simp only;omega,by simp only;omega⟩
  ·rcases List.mem_append.mp hy with hy | hy
   ·exact hc.d y hy
   ·rw[List.mem_singleton]at hy
    rw[hy];exact hd
  ·rw[List.map_append,List.pairwise_append]
   refine⟨hc.p,by simp,fun x hx z hz=>?_⟩
   have:z=c.2+1+y:=by simpa using hz
   have:=(hc.m x hx).2
   omega
  ·intro x hx
   rw[List.map_append]at hx
   rcases List.mem_append.mp hx with hx | hx
   ·have:=hc.m x hx
    simp only
    omega
   ·have:x=c.2+1+y:=by simpa using hx
    simp only
    omega
 ·rw[List.length_map,List.length_range]at hv
  exact⟨by have:=hv.l;omega,fun z hz=>⟨hv.d z hz,by have:=(hv.m z.1 (List.mem_map_of_mem hz)).1;omega,by have:=(hv.m z.1 (List.mem_map_of_mem hz)).2;have:=hv.u;omega⟩,hv.p⟩
end K06
namespace K06
open PySem L2 PyProof.Rows Vw
def uK(hm:List Int):Ob:=.ins "Piece" [("held_makes",.d (eL D.int hm)),("lengths",.r 2),("table",.r 3)]
def aT(X:Ob)(hm:List Int)(ls:Ls)(tb:Tb):List Ob:=X::uK hm::B2 ls:: .dic false (refs 4 (keys tb))::tb.map (fun p=>bG (eL (aj D.int (eL D.int))) p.2)
def jO(X:Ob)(hm:List Int)(ls:Ls)(tb:Tb)(f:List Nat):List Ob:=if(ix (keys tb) f).isSome then aT X hm ls tb else aT X hm ls tb++[bG (eL (aj D.int (eL D.int))) []]
section
variable{R:List Ob→Prop}{p:Pt}{X:Ob}{hm:List Int}{ls:Ls}{tb:Tb}{f:List Nat}
theorem yG(h0:p[0]? =some (some (.v (.r 1)))){σ:List Ob}(hs:σ[1]? =some (uK hm)):Ev R p σ (eB fT "table" (aa 0)) (.ok ()) (fun _=>(.val (.r 3),p,σ)):=uG (i:=0) (n:=1) (e:=fun _=>.r 3) h0 hs (by decide) rfl
theorem F9(h0:p[0]? =some (some (.v (.r 1)))){σ:List Ob}(hs:σ[1]? =some (uK hm)):Ev R p σ (eB fT "lengths" (aa 0)) (.ok ()) (fun _=>(.val (.r 2),p,σ)):=uG (i:=0) (n:=1) (e:=fun _=>.r 2) h0 hs (by decide) rfl
theorem Jc(h0:p[0]? =some (some (.v (.r 1))))(h1:p[1]? =some (some (.v (.d (.str f))))):Ev R p (aT X hm ls tb) (mu (iy (eB fT "table" (aa 0)) (aa 1) cN)) (.ok ()) (fun _=>(.val (.r (4+jx tb f)),p,jO X hm ls tb f)):=by
 unfold mu
 refine Ev.aZ (a:=()) (post:=fun _=>(match ix (keys tb) f with | some j=>RV.val (.r (4+j)) | none=>RV.new (.dic false []),p,aT X hm ls tb)) ?_ fun sg hf=>?_
 ·unfold iy
  refine Ev.aZ (sv (yG h0 rfl)) ?_
  refine fun sg hf=>?_
  have hd:gF ⟨sg,aT X hm ls tb⟩ (.val (.r 3))=some (refs 4 (keys tb)):=rfl
  have hi:ib ⟨sg,aT X hm ls tb⟩ (.val (.r 3))=true:=by unfold ib;rw[hd];rfl
  dsimp only
  rw[hi,if_pos rfl]
  refine Ev.aZ (sv (ao (e:=D.str) (a:=f) h1)) (fun sg hf=>?_) sg hf
  dsimp only
  show Rn R ((cN ⟨sg,aT X hm ls tb⟩).bind _) _ _
  have hg:d4 ⟨sg,aT X hm ls tb⟩ (.val (.r 3)) (.val (.d (.str f)))=some (aA (refs 4 (keys tb)) (K0.s f)):=rfl
  unfold cN
  rw[Res.ae]
  rw[hg,xM]
  cases ix (keys tb) f with
  | some j=>exact⟨sg,rfl,hf⟩
  | none=>exact⟨sg,rfl,hf⟩
 ·unfold jx jO
  cases ix (keys tb) f with
  | some j=>exact⟨sg,rfl,hf⟩
  | none=>
   refine⟨sg,?_,hf⟩
   show ym (RV.new (.dic false [])) ⟨sg,aT X hm ls tb⟩=_
   have:(aT X hm ls tb).length=4+tb.length:=by simp[aT];omega
   show Res.ok (RV.val (Val.r (aT X hm ls tb).length)) ⟨sg,aT X hm ls tb++[.dic false []]⟩=_
   rw[this];rfl
theorem E1(h0:p[0]? =some (some (.v (.r 1))))(h1:p[1]? =some (some (.v (.d (.str f)))))(h4:p[4]? =some (some (.v (.r (4+jx tb f))))):Ev R p (jO X hm ls tb f) (fu (eB fT "table" (aa 0)) (aa 1) (aa 4)) (gd (rj tb)) (fun _=>(.nx,p,aT X hm ls (ad tb f))):=by
 have hs:(jO X hm ls tb f)[1]? =some (uK hm):=by unfold jO;split<;> rfl
 refine Ev.aZ (a:=()) (sv (mI h4)) (Ev.aZ (sv (yG h0 hs)) (Ev.aZ (sv (ao (e:=D.str) (a:=f) h1)) fun sg hf=>?_))
 dsimp only
 cases hk:rj tb with
 | false=>trivial
 | true=>
  rw[i2]
  refine⟨sg,?_,hf⟩
  rw[show bL (RV.val (Val.r (4+jx tb f))) ⟨sg,jO X hm ls tb f⟩=Res.ok (Val.r (4+jx tb f)) ⟨sg,jO X hm ls tb f⟩from rfl]
  dsimp only
  unfold rj at hk
  rw[Bool.and_eq_true,decide_eq_true_eq,decide_eq_true_eq]at hk
  have e0:ff (.val (.r 3)) (.val (.d (.str f))) (Val.r (4+jx tb f)) ⟨sg,jO X hm ls tb f⟩=some ⟨sg,aT X hm ls (ad tb f)⟩:=by
   have ho:ob ⟨sg,jO X hm ls tb f⟩ (.val (.r 3))=some (.dic false (refs 4 (keys tb))):=by unfold jO;split<;> rfl
   unfold ff
   rw[ho]
   show(if(refs 4 (keys tb)).length<sizeLine then some (wr (.val (.r 3)) (.dic false (aO (refs 4 (keys tb)) (K0.s f) (Val.r (4+jx tb f)))) ⟨sg,jO X hm ls tb f⟩)else none)=_
   rw[if_pos (by rw[z6];simpa [keys]using hk.1)]
   unfold jO jx ad
   cases hx:ix (keys tb) f with
   | some j=>
    rw[Option.getD_some,yn hk.2 hx]
    rfl
   | none=>
    rw[Option.getD_none,Ab hx]
    show some ({ sg:=sg,st:=(aT X hm ls tb++[bG (eL (aj D.int (eL D.int))) []]).set 3 _ }:State)=some ⟨sg,aT X hm ls (tb++[(f,[])])⟩
    congr 2
    unfold aT
    simp only[List.cons_append,List.set_cons_succ,List.set_cons_zero,keys,List.map_append,List.map_cons,List.map_nil,sV,List.length_map]
  rw[e0];rfl
theorem HP(j:Nat)(h:j<tb.length)(d:In):(aT X hm ls (setIn tb j d))[4+j]? =some (bG (eL (aj D.int (eL D.int))) d):=by
 unfold aT
 rw[show 4+j=j+1+1+1+1 by omega,List.getElem?_cons_succ,List.getElem?_cons_succ,List.getElem?_cons_succ,List.getElem?_cons_succ]
 exact xu tb j d h
theorem IQ(j:Nat)(d d':In):(aT X hm ls (setIn tb j d)).set (4+j) (bG (eL (aj D.int (eL D.int))) d')=aT X hm ls (setIn tb j d'):=by
 unfold aT
 rw[show 4+j=j+1+1+1+1 by omega,List.set_cons_succ,List.set_cons_succ,List.set_cons_succ,List.set_cons_succ,xi,lI,lI]
theorem IP{S:(List (List Nat×(List (Int×List Int))))→List Ob}{n:Nat}{aC:List Nat}{aH:Int}{aG:List (List Nat×List Int)}(hr:∀ d,(S d)[n]? =some ((bG (eL (aj D.int (eL D.int)))) d))(hw:∀ d d',(S d).set n ((bG (eL (aj D.int (eL D.int)))) d')=S d')(d:List (List Nat×(List (Int×List Int)))):Sg false R [some (.v (.r 1)),some (.v (.d (D.str aC))),some (.v (.d (D.int aH))),some (.v (.d ((az (eL D.int)) aG))),some (.v (.r n)),none] (S d) (ak [iM]) (yx aH aG d) (fun v=>.nx [some (.v (.r 1)),some (.v (.d (D.str aC))),some (.v (.d (D.int aH))),some (.v (.d ((az (eL D.int)) aG))),some (.v (.r n)),none] (S v)):=(jm (jQ (P:=fun(c1:List (List Nat×(List (Int×List Int))))=>[some (.v (.r 1)),some (.v (.d (D.str aC))),some (.v (.d (D.int aH))),some (.v (.d ((az (eL D.int)) aG))),some (.v (.r n)),none]) (S:=fun(c1:List (List Nat×(List (Int×List Int))))=>S c1) (c0:=d) (mb:=(fun(c1:List (List Nat×(List (Int×List Int)))) (dJ:List Nat)=>(((((((mm aG dJ).bind fun a3=>(M.ok ()).bind fun w4=>M.ok (a3,w4)).bind fun z5=>M.ok (aH,z5.1)).bind fun a6=>(M.ok ()).bind fun w7=>M.ok (a6,w7)).bind fun z8=>M.ok [z8.1]).bind fun a9=>gp ((eX c1 dJ).getD ([]:List (Int×List Int))) a9).bind fun a11=>(M.ok dJ).bind fun a12=>gB c1 a12 a11).bind fun d10=>M.ok d10)) (Gy (sv (ao (a:=aG) (e:=(az (eL D.int))) rfl))) (by(repeat' (first | exact trivial | refine And.intro rfl ?_))) rfl (fun c1 dJ=>bb) (fun c1 dJ=>(bQ (fun _=>[some (.v (.r 1)),some (.v (.d (D.str aC))),some (.v (.d (D.int aH))),some (.v (.d ((az (eL D.int)) aG))),some (.v (.r n)),some (.v (.d (D.str dJ)))]) (fun d10=>S d10) (BN (sn (jl (wb (sv (mI (a:=c1) rfl)) (GJ (hr _)) (sv (ao (a:=dJ) (e:=D.str) rfl)) (sn (Ev.cI (post2:=(pN (oL (aj D.int (eL D.int))) _ _)) (cq (l:=fun _=>([]:List (Int×List Int))) (e:=(aj D.int (eL D.int))) au (fun _=>.nil) (fun _=>rfl) (fun _=>rfl)) rfl) (fun v=>bc _ v))) (sn (Ev.map (fun(z8:(Int×List Int)×Unit)=>[z8.1]) (pN (oL (aj D.int (eL D.int))) _ _) (cq (l:=fun z8=>([z8.1]:List (Int×List Int))) (e:=(aj D.int (eL D.int))) (dt (sv (Ev.map (fun(z5:List Int×Unit)=>(aH,z5.1)) (pD (aj D.int (eL D.int)) _ _) (ja (ah (sv (ao (a:=aH) (e:=D.int) rfl)) (dt (sv (bg (sv (ao (a:=aG) (e:=(az (eL D.int))) rfl)) (sv (ao (a:=dJ) (e:=D.str) rfl)) (HF ij))) fun a3=>au)) (fun _=>(.d (.d .nil))) (fun _=>rfl) (fun _=>rfl)) fun _=>rfl)) fun a6=>au) (fun _=>(.d .nil)) (fun _=>rfl) (fun _=>rfl)) fun _=>rfl) (fun v=>bc _ v)) fun a9=>(add_l dY dY)) (fun v=>bc _ v)) (Ev.cI (b:=()) (sv (mI (a:=c1) rfl)) rfl) (hr _) (sv (ao (a:=dJ) (e:=D.str) rfl))) (fun _=>rfl) (fun _=>hw _ _) fun d10=>(eU rfl (by(repeat' (first | exact trivial | refine And.intro rfl ?_))))))) fun r13=>(gu (p':=[some (.v (.r 1)),some (.v (.d (D.str aC))),some (.v (.d (D.int aH))),some (.v (.d ((az (eL D.int)) aG))),some (.v (.r n)),none]) rfl (by(repeat' (first | exact trivial | refine And.intro rfl ?_)))))
theorem IE{aH:Int}{aG:List (List Nat×List Int)}:dW R dX [.r 1,.d (.str f),.d (D.int aH),.d ((az (eL D.int)) aG)] (aT X hm ls tb) (l8 tb f aH aG) (fun v=>(.val (.d .non),aT X hm ls v)):=by
 refine p7 (w:=false) (P:=fun _=>[none,none,none,none,none,none]) ?_ (fun _=>rfl)
 refine fB [some (.v (.r 1)),some (.v (.d (.str f))),some (.v (.d (D.int aH))),some (.v (.d ((az (eL D.int)) aG))),some (.v (.r (4+jx tb f))),none] (jO X hm ls tb f) (e6 (x:=fun _=>.r (4+jx tb f)) (P:=fun _=>_) (S:=fun _=>_) (Jc rfl rfl)) rfl rfl ?_
 have h1:Ev R [some (.v (.r 1)),some (.v (.d (.str f))),some (.v (.d (D.int aH))),some (.v (.d ((az (eL D.int)) aG))),some (.v (.r (4+jx tb f))),none] (jO X hm ls tb f) ip (gd (rj tb)) (fun _=>(.nx,[some (.v (.r 1)),some (.v (.d (.str f))),some (.v (.d (D.int aH))),some (.v (.d ((az (eL D.int)) aG))),some (.v (.r (4+jx tb f))),none],aT X hm ls (ad tb f))):=E1 rfl rfl rfl
 refine bQ (fun _=>[some (.v (.r 1)),some (.v (.d (.str f))),some (.v (.d (D.int aH))),some (.v (.d ((az (eL D.int)) aG))),some (.v (.r (4+jx tb f))),none]) (fun _=>aT X hm ls (setIn (ad tb f) (jx tb f) (k6 (ad tb f) (jx tb f)))) h1 (fun _=>rfl) (fun _=>by rw[Ad]) fun _=>?_
 have h:=IP (R:=R) (aC:=f) (aH:=aH) (aG:=aG) (S:=fun d=>aT X hm ls (setIn (ad tb f) (jx tb f) d)) (fun d=>HP (jx tb f) (GG tb f) d) (fun d d'=>IQ (jx tb f) d d') (k6 (ad tb f) (jx tb f))
 intro sg hf
 have h:=h sg hf
 cases hm:yx aH aG (k6 (ad tb f) (jx tb f))with
 | bad=>trivial
 | exc x=>rw[hm]at h;exact h
 | ok v=>
  rw[hm]at h
  obtain⟨⟨sg',e,hf'⟩,_⟩:=h
  refine⟨⟨sg',e,hf'.weak (by repeat' (first | exact trivial | refine And.intro rfl ?_))⟩,fun z=>by cases z⟩
theorem F7{mk many:Int}(h0:p[0]? =some (some (.v (.r 1))))(h2:p[2]? =some (some (.v (.d (D.int mk)))))(h4:p[4]? =some (some (.v (.d (.str f)))))(h5:p[5]? =some (some (.v (.d (D.int many))))):Ev R p (aT X hm ls tb) (fu (eB fT "lengths" (aa 0)) (gi [(aa 2),(aa 4)]) (aa 5)) (putL ls mk f many) (fun v=>(.nx,p,aT X hm v tb)):=by
 have ht:Ev R p (aT X hm ls tb) (gi [(aa 2),(aa 4)]) (.ok ()) (fun _=>(.val (.d (.tup [.int mk,.str f])),p,aT X hm ls tb)):=ja (ah (sv (ao (a:=mk) (e:=D.int) h2)) (ah (sv (ao (a:=f) (e:=D.str) h4)) au)) (fun _=>.d (.d .nil)) (fun _=>rfl) (fun _=>rfl)
 refine Ev.aZ (sv (ao (a:=many) (e:=D.int) h5)) (Ev.aZ (sv (F9 h0 rfl)) (Ev.aZ (sv ht) fun sg hf=>?_))
 unfold putL
 by_cases hl:ls.length<sizeLine
 ·rw[decide_eq_true hl,i2]
  refine⟨sg,?_,hf⟩
  dsimp only[ic]
  rw[ic]
  dsimp only
  have e0:ff (.val (.r 2)) (.val (.d (.tup [.int mk,.str f]))) (.d (.int many)) ⟨sg,aT X hm ls tb⟩=some ⟨sg,aT X hm (aO ls [K0.i mk,K0.s f] many) tb⟩:=by
   have ho:ob ⟨sg,aT X hm ls tb⟩ (.val (.r 2))=some (B2 ls):=rfl
   unfold ff
   rw[ho]
   show(if(ls.map fun p=>(p.1,Val.d (D.int p.2))).length<sizeLine then some (wr (.val (.r 2)) (.dit false (aO (ls.map fun p=>(p.1,Val.d (D.int p.2))) [K0.i mk,K0.s f] (.d (.int many)))) ⟨sg,aT X hm ls tb⟩)else none)=_
   rw[if_pos (by simpa using hl),iG (fun a=>a) (fun _ _ h=>h) (fun x=>Val.d (D.int x)) ls [K0.i mk,K0.s f] many]
   rfl
  rw[e0];rfl
 ·rw[decide_eq_false hl];trivial
def jZ(ag:bj):Pt:=[some (.v (.r 1)),some (.v (.r 0)),none,none,none,none,none]
def o9(ag:bj)(z:Int×List (List Nat×List Nat)):Pt:=[some (.v (.r 1)),some (.v (.r 0)),some (.v (.d (D.int z.1))),some (.v (.d (eL (aj D.str D.str) z.2))),none,none,none]
def qk(ag:bj)(z:Int×List (List Nat×List Nat))(y:List Nat×Int×List (List Nat×List Int)):Pt:=[some (.v (.r 1)),some (.v (.r 0)),some (.v (.d (D.int z.1))),some (.v (.d (eL (aj D.str D.str) z.2))),some (.v (.d (D.str y.1))),some (.v (.d (D.int y.2.1))),some (.v (.d (az (eL D.int) y.2.2)))]
theorem Mv{ag:bj}{z:Int×List (List Nat×List Nat)}(c:Ls×Tb)(y:List Nat×Int×List (List Nat×List Int)):Sg false R (qk ag z y) (aT X hm c.1 c.2) gZ (C0 z.1 c y) (fun c'=>.go (o9 ag z) (aT X hm c'.1 c'.2)):=by
 have h1:Ev R (qk ag z y) (aT X hm c.1 c.2) (fu (eB fT "lengths" (aa 0)) (gi [(aa 2),(aa 4)]) (aa 5)) (putL c.1 z.1 y.1 y.2.1) (fun v=>(.nx,qk ag z y,aT X hm v c.2)):=F7 rfl rfl rfl rfl
 refine bQ (fun _=>qk ag z y) (fun v=>aT X hm v c.2) h1 (fun _=>rfl) (fun _=>rfl) fun ls=>?_
 have h2:Ev R (qk ag z y) (aT X hm ls c.2) (cc bF "Piece" "take_in" 4 (aa 0) (aq [(aa 4),(aa 2),(aa 6)]) dX) (nox (l8 c.2 y.1 z.1 y.2.2)) (fun v=>(.val (.d .non),qk ag z y,aT X hm ls v)):=
  fL (R':=R) (b:=()) (xo:=fun(_:Unit)=>.r 1) (sv (mI (n:=1) (a:=()) rfl)) (D1 (c:="Piece") (m:="take_in") (σ:=aT X hm ls c.2) (n:=1) rfl rfl) (ah (sv (ao (a:=y.1) (e:=D.str) rfl)) (ah (sv (ao (a:=z.1) (e:=D.int) rfl)) (ah (sv (ao (a:=y.2.2) (e:=(az (eL D.int))) rfl)) au))) (.d (.d (.d .nil))) rfl IE (fun _=>rfl)
 refine bQ (fun _=>qk ag z y) (fun v=>aT X hm ls v) (mY h2) (fun _=>rfl) (fun _=>rfl) fun tb=>?_
 exact eU rfl (by repeat' (first | exact trivial | refine And.intro rfl ?_))
theorem Ln{ag:bj}(c:Ls×Tb)(z:Int×List (List Nat×List Nat)):Sg false R (o9 ag z) (aT X hm c.1 c.2) e9 (uD c z) (fun c'=>.go (jZ ag) (aT X hm c'.1 c'.2)):=by
 have hs:Ev R (o9 ag z) (aT X hm c.1 c.2) (sD (cw 1 (aq [(aa 3)]) gR) pairsOf) ((nox (jy z.2)).bind fun l=>.ok l) (pS (fun x=>.d (aj D.str (aj D.int (az (eL D.int))) x)) (o9 ag z) (aT X hm c.1 c.2)):=Hf (sn (eW (R':=R) (post:=(pN (bG (aj D.int (az (eL D.int)))) _ _)) (ah (sv (ao (a:=z.2) (e:=(eL (aj D.str D.str))) rfl)) au) (.d .nil) rfl (xH (aQ:=z.2)) (fun _=>rfl)) (fun v=>oU _ v))
 refine bQ (fun _=>o9 ag z) (fun v=>aT X hm v.1 v.2) (jE (P:=fun _=>o9 ag z) (S:=fun c=>aT X hm c.1 c.2) (lA:=fun l=>l) (c0:=fun _=>c) (p2:=fun _ y=>qk ag z y) hs (fun _=>by repeat' (first | exact trivial | refine And.intro rfl ?_)) (fun _=>rfl) (fun c y=>e8 rfl rfl (aW bb (aW (e8 rfl rfl (aW bb (aW bb du))) du))) (fun c y=>Mv c y)) (fun _=>rfl) (fun _=>rfl) fun v=>?_
 exact eU rfl (by repeat' (first | exact trivial | refine And.intro rfl ?_))
abbrev i0(ms:bj):Ob:=oL (aj D.int (eL (aj D.str D.str))) ms
theorem tc{σ:List Ob}(hR:R σ){ag:bj}(hs:σ[0]? =some (i0 ag)):dW R c6 [.r 0] σ (dE ag) (fun v=>(.val (.d (eN v)),σ)):=(p7 (P:=fun _=>[none,none,none,none,none]) (dr [some (.v (.r 0)),some (.v (.d (D.int (-(1:Int))))),none,none,none] (e6 (B5 (sv (cD D.int (1:Int))))) rfl (jm (G2 (n:=0) rfl (Jt (e:=aj D.int (eL (aj D.str D.str))) (P:=fun(c1:Int)=>[some (.v (.r 0)),some (.v (.d (D.int c1))),none,none,none]) (S:=fun(c1:Int)=>σ) (c0:=(-(1:Int))) (mb:=(fun(c1:Int) (ay:Int×(Int×(List (List Nat×List Nat))))=>(if(decide (ay.2.1≤c1))=true then((M.ok ay.1).bind fun a3=>M.exc ⟨"NoMake",some (D.int a3)⟩)else((cC ay.2.2).bind fun u4=>M.ok ay.2.1)))) (p2:=fun c1 ay=>[some (.v (.r 0)),some (.v (.d (D.int c1))),some (.v (.d (D.int ay.1))),some (.v (.d (D.int ay.2.1))),some (.v (.d ((eL (aj D.str D.str)) ay.2.2)))]) (sv (mI (n:=0) (a:=()) rfl)) (by(repeat' (first | exact trivial | refine And.intro rfl ?_))) (fun _=>hs) (fun c1 ay=>(e8 rfl rfl (aW bb (aW (e8 rfl rfl (aW bb (aW bb du))) du)))) (fun c1 ay=>(pj (i1 (sv (bg (sv (ao (a:=ay.2.1) (e:=D.int) rfl)) (sv (ao (a:=c1) (e:=D.int) rfl)) FL))) (cm (sN (sv (ao (a:=ay.1) (e:=D.int) rfl)) (fun _=>hR))) (dr [some (.v (.r 0)),some (.v (.d (D.int ay.2.1))),some (.v (.d (D.int ay.1))),some (.v (.d (D.int ay.2.1))),some (.v (.d ((eL (aj D.str D.str)) ay.2.2)))] (e6 (ao (a:=ay.2.1) (e:=D.int) rfl)) rfl (cn (fun u4=>[some (.v (.r 0)),some (.v (.d (D.int ay.2.1))),some (.v (.d (D.int ay.1))),some (.v (.d (D.int ay.2.1))),some (.v (.d ((eL (aj D.str D.str)) ay.2.2)))]) (mY (nH (post:=(pD eN _ _)) (ah (sv (ao (a:=ay.2.2) (e:=(eL (aj D.str D.str))) rfl)) au) (.d .nil) rfl (kR (aQ:=ay.2.2) hR) (fun _=>rfl))) (fun _=>rfl) fun u4=>(eU rfl (by(repeat' (first | exact trivial | refine And.intro rfl ?_)))))))))) fun r5=>(gu (p':=[none,none,none,none,none]) rfl (by(repeat' (first | exact trivial | refine And.intro rfl ?_)))))) (fun _=>rfl))
theorem Jr{ag:bj}(hR:R [i0 ag,.ins "Piece" []]):dW R bY [.r 1,.r 0] [i0 ag,.ins "Piece" []] (mz ag) (fun v=>(.val (.d .non),aT (i0 ag) v.1 v.2.1 v.2.2)):=by
 refine p7 (w:=false) (P:=fun _=>jZ ag) ?_ (fun _=>rfl)
 have h0:Ev R (jZ ag) [i0 ag,.ins "Piece" []] (jL 1 (aq [(aa 1)]) c6) (dE ag) (pD eN (jZ ag) [i0 ag,.ins "Piece" []]):=nH (post:=(pD eN _ _)) (ah (sv (mI (n:=0) (a:=()) rfl)) au) (.d .nil) rfl (tc (ag:=ag) hR rfl) (fun _=>rfl)
 refine bQ (fun _=>jZ ag) (fun _=>[i0 ag,.ins "Piece" []]) (mY (r:=fun v=>.val (.d (eN v))) h0) (fun _=>rfl) (fun _=>rfl) fun _=>?_
 have h1:Ev R (jZ ag) [i0 ag,.ins "Piece" []] (oE 1 (qt [2,3] (.tp [(.nm 2),(.nm 3)]) (aa 1) bZ (aa 2)) (fq [2,3] (.tp [(.nm 2),(.nm 3)]) (sD (aa 1) itemsOf) bZ (aa 2))) (cX (fun(nQ:Int×(List (List Nat×List Nat)))=>.ok true) (fun(nQ:Int×(List (List Nat×List Nat)))=>.ok nQ.1) ag) (pN (oL D.int) (jZ ag) [i0 ag,.ins "Piece" []]):=
  M9 (n:=0) rfl (KN (e0:=aj D.int (eL (aj D.str D.str))) (n:=0) (q:=jZ ag) (p2:=fun z=>o9 ag z) (p3:=fun z=>o9 ag z) (e:=D.int) (sv (mI (n:=0) (a:=()) rfl)) rfl rfl (fun z=>⟨(e8 rfl rfl (aW bb (aW bb du))),kI,(oW (ao (a:=z.1) (e:=D.int) rfl))⟩) (fun _=>by repeat' (first | exact trivial | refine And.intro rfl ?_)) (fun _=>by repeat' (first | exact trivial | refine And.intro rfl ?_)))
 refine bQ (fun _=>jZ ag) (fun hm=>[i0 ag,.ins "Piece" [("held_makes",.d (eL D.int hm))]]) (v7 (x:=fun v=>.d (eL D.int v)) (S:=fun _=>[i0 ag,.ins "Piece" []]) (n:=1) (sn h1 (fun v=>bc D.int v)) rfl (fun _=>rfl) (by decide) (by simp)) (fun _=>rfl) (fun _=>rfl) fun hm=>?_
 have h2:Ev R (jZ ag) [i0 ag,.ins "Piece" [("held_makes",.d (eL D.int hm))]] (gS yc) (.ok ()) (fun _=>(.val (.r 2),jZ ag,[i0 ag,.ins "Piece" [("held_makes",.d (eL D.int hm))],.dit false []])):=fun sg hf=>⟨sg,rfl,hf⟩
 refine fB (jZ ag) [i0 ag,.ins "Piece" [("held_makes",.d (eL D.int hm)),("lengths",.r 2)],.dit false []] (v7 (x:=fun _=>.r 2) (S:=fun _=>_) (n:=1) (sv h2) rfl (fun _=>rfl) (by decide) (by simp)) rfl rfl ?_
 have h3:Ev R (jZ ag) [i0 ag,.ins "Piece" [("held_makes",.d (eL D.int hm)),("lengths",.r 2)],.dit false []] (gS cN) (.ok ()) (fun _=>(.val (.r 3),jZ ag,[i0 ag,.ins "Piece" [("held_makes",.d (eL D.int hm)),("lengths",.r 2)],.dit false [],.dic false []])):=fun sg hf=>⟨sg,rfl,hf⟩
 refine fB (jZ ag) (aT (i0 ag) hm [] []) (v7 (x:=fun _=>.r 3) (S:=fun _=>_) (n:=1) (sv h3) rfl (fun _=>rfl) (by decide) (by simp)) rfl rfl ?_
 refine bQ (fun _=>jZ ag) (fun v=>aT (i0 ag) hm v.1 v.2) (G2 (n:=0) rfl (Kv (e:=aj D.int (eL (aj D.str D.str))) (n:=0) (P:=fun _=>jZ ag) (S:=fun(c:Ls×Tb)=>aT (i0 ag) hm c.1 c.2) (c0:=([],[])) (p2:=fun _ z=>o9 ag z) (sv (mI (n:=0) (a:=()) rfl)) (by repeat' (first | exact trivial | refine And.intro rfl ?_)) (fun _=>rfl) (fun c z=>e8 rfl rfl (aW bb (aW bb du))) (fun c z=>Ln c z))) (fun _=>rfl) (fun _=>rfl) fun c=>?_
 exact gu (p':=jZ ag) rfl (by repeat' (first | exact trivial | refine And.intro rfl ?_))
theorem IV(ok:Nat→Bool)(n:Nat)(st:List Ob)(d:In):jM (bp ok n st) (bG (eL (aj D.int (eL D.int))) d)=some (az (eL (aj D.int (eL D.int))) d):=by
 show(frzK (bp ok n st) (d.map fun p=>(K0.s p.1,Val.d ((eL (aj D.int (eL D.int))) p.2)))).map D.dic=_
 rw[qU (pb ok n st) (fun p:List Nat×List (Int×List Int)=>K0.s p.1) (fun p=>(eL (aj D.int (eL D.int))) p.2)]
 rfl
theorem xc(ok:Nat→Bool)(n:Nat)(st:List Ob):∀ (tb:Tb) (k:Nat),(∀ i,ok (k+i)=true)→(∀ i,i<tb.length→st[k+i]? =tb[i]?.map fun p=>bG (eL (aj D.int (eL D.int))) p.2)→frzK (bp ok (n+1) st) (refs k (keys tb))=some (tb.map fun p=>(K0.s p.1,az (eL (aj D.int (eL D.int))) p.2))
 | [],k,hk,h=>rfl
 | p::tb,k,hk,h=>by
  have h0:st[k]? =some (bG (eL (aj D.int (eL D.int))) p.2):=by simpa using h 0 (by simp)
  have ih:=xc ok n st tb (k+1) (fun i=>by have:=hk (i+1);rwa[show k+1+i=k+(i+1) by omega]) fun i hi=>by
   have:=h (i+1) (by simpa using hi)
   rw[show k+1+i=k+(i+1) by omega,this];rfl
  have e0:bp ok (n+1) st (.r k)=some (az (eL (aj D.int (eL D.int))) p.2):=by
   show(if ok k=true then(match st[k]? with | some o=>jM (bp ok n st) o | none=>none)else none)=_
   rw[if_pos (by simpa using hk 0),h0]
   exact IV ok n st p.2
  show frzK (bp ok (n+1) st) ((K0.s p.1,Val.r k)::refs (k+1) (keys tb))=_
  rw[frzK,e0,ih];rfl
abbrev oR:Nat→Bool:=fun k=>decide (k≠0)
theorem CV(X:Ob)(p:d9):bp oR 6 (aT X p.1 p.2.1 p.2.2) (.r 1)=some (aY p):=by
 have e1:bp oR 5 (aT X p.1 p.2.1 p.2.2) (.r 2)=some (D.dit (p.2.1.map fun q=>(q.1,D.int q.2))):=by
  show(frzK (bp oR 4 (aT X p.1 p.2.1 p.2.2)) (p.2.1.map fun q=>(q.1,Val.d (D.int q.2)))).map D.dit=_
  rw[qU (pb oR 4 _) (fun q:List K0×Int=>q.1) (fun q=>D.int q.2)]
  rfl
 have e2:bp oR 5 (aT X p.1 p.2.1 p.2.2) (.r 3)=some (az (az (eL (aj D.int (eL D.int)))) p.2.2):=by
  show(frzK (bp oR 4 (aT X p.1 p.2.1 p.2.2)) (refs 4 (keys p.2.2))).map D.dic=_
  rw[xc oR 3 _ p.2.2 4 (fun i=>decide_eq_true (by omega)) fun i hi=>by
   show(X::uK p.1::B2 p.2.1:: .dic false (refs 4 (keys p.2.2))::p.2.2.map (fun p=>bG (eL (aj D.int (eL D.int))) p.2))[4+i]? =_
   rw[show 4+i=i+1+1+1+1 by omega,List.getElem?_cons_succ,List.getElem?_cons_succ,List.getElem?_cons_succ,List.getElem?_cons_succ,List.getElem?_map]]
  rfl
 show(jo (bp oR 5 (aT X p.1 p.2.1 p.2.2)) [("held_makes",.d (eL D.int p.1)),("lengths",.r 2),("table",.r 3)]).map (D.ins "Piece")=_
 rw[jo,pb,jo,e1,jo,e2]
 rfl
theorem J0:oR=fun k=>decide (k≠0):=rfl
end
end K06
namespace K06
open PySem L2 PyProof.Rows Vw
def sC(o:Nat)(k:List Nat)(σ:List Ob):M (Nat×List Ob):=match σ[o]? with
 | some (.dic false l)=>(match aA l (K0.s k)with
  | some (.r n)=>.ok (n,σ)
  | none=>.ok (σ.length,σ++[.dic false []])
  | _=>.bad)
 | _=>.bad
def stM(o:Nat)(k:List Nat)(n:Nat)(σ:List Ob):M (List Ob):=match σ[o]? with
 | some (.dic false l)=>if l.length<sizeLine then .ok (σ.set o (.dic false (aO l (K0.s k) (.r n))))else .bad
 | _=>.bad
abbrev Rw:Type:=List (Int×List Int)
open Classical in
noncomputable def rowsOf(σ:List Ob)(n:Nat):Option Rw:=if h:∃ r:Rw,σ[n]? =some (iK (eL D.int) r)then some h.choose else none
theorem AK{σ:List Ob}{n:Nat}{r:Rw}(h:rowsOf σ n=some r):σ[n]? =some (iK (eL D.int) r):=by
 unfold rowsOf at h
 split at h
 ·rename_i q
  cases h
  exact q.choose_spec
 ·cases h
noncomputable def CL(n:Nat)(mk at_:Int)(σ:List Ob):M (List Ob):=match rowsOf σ n with
 | some rows=>(((gp ((eX rows mk).getD ([]:List Int)) [at_]).bind fun a=>(M.ok mk).bind fun k=>gB rows k a)).bind fun r=>.ok (σ.set n (iK (eL D.int) r))
 | none=>.bad
noncomputable def wB(f w:List Nat)(mk at_:Int)(σ:List Ob):M (List Ob):=(sC 0 f σ).bind fun v=>(stM 0 f v.1 v.2).bind fun σ2=>(sC v.1 w σ2).bind fun u=>(stM v.1 w u.1 u.2).bind fun σ4=>CL u.1 mk at_ σ4
section
variable{R:List Ob→Prop}{p:Pt}{σ:List Ob}{o i j n s:Nat}{k:List Nat}
theorem Gx(h1:p[i]? =some (some (.v (.r o))))(h2:p[j]? =some (some (.v (.d (.str k))))):Ev R p σ (mu (iy (aa i) (aa j) cN)) (sC o k σ) (fun v=>(.val (.r v.1),p,v.2)):=by
 unfold sC
 cases hs:σ[o]? with
 | none=>exact Ev.bad
 | some ob0=>
  cases ob0 with
  | dic lk l=>
   cases lk with
   | true=>exact Ev.bad
   | false=>
    dsimp only
    have key:∀ sg,Fits p sg→mu (iy (aa i) (aa j) cN) ⟨sg,σ⟩=(match aA l (K0.s k)with | some v=>Kz (.val v) ⟨sg,σ⟩ | none=>Kz (.new (.dic false [])) ⟨sg,σ⟩):=fun sg hf=>by
     have g1:sg[i]? =some (some (.v (.r o))):=hf.2 i _ h1
     have g2:sg[j]? =some (some (.v (.d (.str k)))):=hf.2 j _ h2
     have hd:gF ⟨sg,σ⟩ (.val (.r o))=some l:=Ck hs
     have hi:ib ⟨sg,σ⟩ (.val (.r o))=true:=by unfold ib;rw[hd];rfl
     have e1:ev (aa i) ⟨sg,σ⟩=.ok (.val (.r o)) ⟨sg,σ⟩:=by simp[g1]
     have e2:ev (aa j) ⟨sg,σ⟩=.ok (.val (.d (.str k))) ⟨sg,σ⟩:=by simp[g2]
     have hg:d4 ⟨sg,σ⟩ (.val (.r o)) (.val (.d (.str k)))=some (aA l (K0.s k)):=by
      unfold d4
      rw[hd]
      rfl
     unfold mu iy
     rw[e1,Res.ae,hi,if_pos rfl,e2,Res.ae]
     unfold cN
     rw[Res.ae,hg]
     cases aA l (K0.s k)<;> rfl
    cases hk:aA l (K0.s k)with
    | none=>exact fun sg hf=>⟨sg,by rw[key sg hf,hk];rfl,hf⟩
    | some v=>
     cases v with
     | r m=>exact fun sg hf=>⟨sg,by rw[key sg hf,hk];rfl,hf⟩
     | d x=>exact Ev.bad
     | tp x=>exact Ev.bad
  | _=>exact Ev.bad
theorem G9(h1:p[i]? =some (some (.v (.r o))))(h2:p[j]? =some (some (.v (.d (.str k)))))(h3:p[s]? =some (some (.v (.r n)))):Ev R p σ (fu (aa i) (aa j) (aa s)) (stM o k n σ) (fun v=>(.nx,p,v)):=by
 unfold stM
 cases hs:σ[o]? with
 | none=>exact Ev.bad
 | some ob0=>
  cases ob0 with
  | dic lk l=>
   cases lk with
   | true=>exact Ev.bad
   | false=>
    dsimp only
    by_cases hl:l.length<sizeLine
    case neg=>rw[if_neg hl];exact Ev.bad
    rw[if_pos hl]
    intro sg hf
    refine⟨sg,?_,hf⟩
    have g1:sg[i]? =some (some (.v (.r o))):=hf.2 i _ h1
    have g2:sg[j]? =some (some (.v (.d (.str k)))):=hf.2 j _ h2
    have g3:sg[s]? =some (some (.v (.r n))):=hf.2 s _ h3
    have e1:ev (aa i) ⟨sg,σ⟩=.ok (.val (.r o)) ⟨sg,σ⟩:=by simp[g1]
    have e2:ev (aa j) ⟨sg,σ⟩=.ok (.val (.d (.str k))) ⟨sg,σ⟩:=by simp[g2]
    have e3:ev (aa s) ⟨sg,σ⟩=.ok (.val (.r n)) ⟨sg,σ⟩:=by simp[g3]
    unfold fu
    rw[e3,Res.ae,e1,Res.ae,e2,Res.ae]
    rw[show bL (RV.val (Val.r n)) ⟨sg,σ⟩=Res.ok (Val.r n) ⟨sg,σ⟩from rfl]
    dsimp only
    have e0:ff (.val (.r o)) (.val (.d (.str k))) (Val.r n) ⟨sg,σ⟩=some ⟨sg,σ.set o (.dic false (aO l (K0.s k) (.r n)))⟩:=by
     have ho:ob ⟨sg,σ⟩ (.val (.r o))=some (.dic false l):=by rw[yi,hs]
     unfold ff
     rw[ho]
     show(if l.length<sizeLine then some (wr (.val (.r o)) (.dic false (aO l (K0.s k) (Val.r n))) ⟨sg,σ⟩)else none)=_
     rw[if_pos hl]
     rfl
    rw[e0]
    rfl
  | _=>exact Ev.bad
theorem LX{mk at_:Int}(h9:p[9]? =some (some (.v (.r n))))(h2:p[2]? =some (some (.v (.d (.int mk)))))(h6:p[6]? =some (some (.v (.d (.int at_))))):Ev R p σ (fu (aa 9) (aa 2) (aw (fY (aa 9) (aa 2) (cu [])) (cu [(aa 6)]) (binop .add))) (CL n mk at_ σ) (fun v=>(.nx,p,v)):=by
 unfold CL
 cases hr:rowsOf σ n with
 | none=>exact Ev.bad
 | some rows=>
  have hs:=AK hr
  dsimp only
  exact Ev.map (fun r=>σ.set n (iK (eL D.int) r)) (fun v=>(.nx,p,v)) (HX (sn (bg (N6 (sv (mI (a:=()) h9)) (NF hs) (sv (ao (a:=mk) (e:=D.int) h2)) (sn (Ev.cI (post2:=(pN (oL D.int) _ _)) (cq (l:=fun _=>([]:List Int)) (e:=D.int) au (fun _=>.nil) (fun _=>rfl) (fun _=>rfl)) rfl) (fun v=>bc _ v))) (sn (Ev.cI (post2:=(pN (oL D.int) _ _)) (cq (l:=fun _=>([at_]:List Int)) (e:=D.int) (ah (sv (ao (a:=at_) (e:=D.int) h6)) au) (fun _=>.d .nil) (fun _=>rfl) (fun _=>rfl)) rfl) (fun v=>bc _ v)) (add_l dY dY)) (fun v=>bc _ v)) (Ev.cI (b:=()) (sv (mI (a:=()) h9)) rfl) hs (sv (ao (a:=mk) (e:=D.int) h2))) (fun _=>rfl)
end
abbrev sd(d:D):Option Sl:=some (.v (.d d))
abbrev PT(ms:bj)(s2 s3 s4 s5 s6 s7 s8 s9:Option Sl):Pt:=[sd (dk ms),some (.v (.r 0)),s2,s3,s4,s5,s6,s7,s8,s9]
abbrev fg:List (List Nat×List Nat)→D:=eL (aj D.str D.str)
section
variable{R:List Ob→Prop}{ms:bj}
theorem ML{mk:Int}{d:List (List Nat×List Nat)}{f t:List Nat}(σ:List Ob)(x:Int×List Nat):Sg false R (PT ms (sd (.int mk)) (sd (fg d)) (sd (.str f)) (sd (.str t)) (sd (.int x.1)) (sd (.str x.2)) none none) σ m3 (wB f x.2 mk x.1 σ) (fun σ'=>.go (PT ms (sd (.int mk)) (sd (fg d)) (sd (.str f)) (sd (.str t)) none none none none) σ'):=by
 refine bQ (fun v:Nat×List Ob=>PT ms (sd (.int mk)) (sd (fg d)) (sd (.str f)) (sd (.str t)) (sd (.int x.1)) (sd (.str x.2)) (some (.v (.r v.1))) none) (fun v=>v.2) (e6 (x:=fun v:Nat×List Ob=>.r v.1) (P:=fun _=>PT ms (sd (.int mk)) (sd (fg d)) (sd (.str f)) (sd (.str t)) (sd (.int x.1)) (sd (.str x.2)) none none) (S:=fun v=>v.2) (Gx (o:=0) (k:=f) rfl rfl)) (fun _=>rfl) (fun _=>rfl) fun v=>?_
 refine bQ (fun _:List Ob=>PT ms (sd (.int mk)) (sd (fg d)) (sd (.str f)) (sd (.str t)) (sd (.int x.1)) (sd (.str x.2)) (some (.v (.r v.1))) none) (fun v=>v) (G9 (o:=0) (k:=f) (n:=v.1) rfl rfl rfl) (fun _=>rfl) (fun _=>rfl) fun σ2=>?_
 refine bQ (fun u:Nat×List Ob=>PT ms (sd (.int mk)) (sd (fg d)) (sd (.str f)) (sd (.str t)) (sd (.int x.1)) (sd (.str x.2)) (some (.v (.r v.1))) (some (.v (.r u.1)))) (fun v=>v.2) (e6 (x:=fun u:Nat×List Ob=>.r u.1) (P:=fun _=>PT ms (sd (.int mk)) (sd (fg d)) (sd (.str f)) (sd (.str t)) (sd (.int x.1)) (sd (.str x.2)) (some (.v (.r v.1))) none) (S:=fun v=>v.2) (Gx (o:=v.1) (k:=x.2) rfl rfl)) (fun _=>rfl) (fun _=>rfl) fun u=>?_
 refine bQ (fun _:List Ob=>PT ms (sd (.int mk)) (sd (fg d)) (sd (.str f)) (sd (.str t)) (sd (.int x.1)) (sd (.str x.2)) (some (.v (.r v.1))) (some (.v (.r u.1)))) (fun v=>v) (G9 (o:=v.1) (k:=x.2) (n:=u.1) rfl rfl rfl) (fun _=>rfl) (fun _=>rfl) fun σ4=>?_
 have h:=bQ (w:=false) (rest:=[]) (k:=fun v=>M.ok v) (post:=fun σ'=>OutS.go (PT ms (sd (.int mk)) (sd (fg d)) (sd (.str f)) (sd (.str t)) none none none none) σ') (fun _:List Ob=>PT ms (sd (.int mk)) (sd (fg d)) (sd (.str f)) (sd (.str t)) (sd (.int x.1)) (sd (.str x.2)) (some (.v (.r v.1))) (some (.v (.r u.1)))) (fun v=>v) (LX (R:=R) (σ:=σ4) (n:=u.1) (mk:=mk) (at_:=x.1) (p:=PT ms (sd (.int mk)) (sd (fg d)) (sd (.str f)) (sd (.str t)) (sd (.int x.1)) (sd (.str x.2)) (some (.v (.r v.1))) (some (.v (.r u.1)))) rfl rfl rfl) (fun _=>rfl) (fun _=>rfl) fun _=>eU rfl (by repeat' (first | exact trivial | refine And.intro rfl ?_))
 rw[M.bind_pure]at h
 exact h
noncomputable def B4(mk:Int)(σ:List Ob)(y:List Nat×List Nat):M (List Ob):=((((nox (dD y.2)).bind fun l=>.ok l).bind fun l=>.ok (eI l)).bind fun l=>foldM (fun σ x=>wB y.1 x.2 mk x.1 σ) σ l).bind fun c=>.ok c
theorem MU{mk:Int}{d:List (List Nat×List Nat)}(σ:List Ob)(y:List Nat×List Nat):Sg false R (PT ms (sd (.int mk)) (sd (fg d)) (sd (.str y.1)) (sd (.str y.2)) none none none none) σ nr (B4 mk σ y) (fun σ'=>.go (PT ms (sd (.int mk)) (sd (fg d)) none none none none none none) σ'):=by
 have hs:Ev R (PT ms (sd (.int mk)) (sd (fg d)) (sd (.str y.1)) (sd (.str y.2)) none none none none) σ (sD (cw 1 (aq [(aa 5)]) en) gG) (((nox (dD y.2)).bind fun l=>.ok l).bind fun l=>.ok (eI l)) (pS (fun x=>.d (aj .int D.str x)) (PT ms (sd (.int mk)) (sd (fg d)) (sd (.str y.1)) (sd (.str y.2)) none none none none) σ):=
  u9 (by rw[M.bind_pure];exact sn (eW (R':=R) (post:=(pN (oL D.str) _ _)) (ah (sv (ao (a:=y.2) (e:=D.str) rfl)) au) (.d .nil) rfl (qH (bw:=y.2)) (fun _=>rfl)) (fun v=>bc _ v))
 refine bQ (fun _=>PT ms (sd (.int mk)) (sd (fg d)) (sd (.str y.1)) (sd (.str y.2)) none none none none) (fun v=>v) (jE (P:=fun _=>PT ms (sd (.int mk)) (sd (fg d)) (sd (.str y.1)) (sd (.str y.2)) none none none none) (S:=fun c:List Ob=>c) (lA:=fun l=>l) (c0:=fun _=>σ) (p2:=fun _ x=>PT ms (sd (.int mk)) (sd (fg d)) (sd (.str y.1)) (sd (.str y.2)) (sd (.int x.1)) (sd (.str x.2)) none none) hs (fun _=>by repeat' (first | exact trivial | refine And.intro rfl ?_)) (fun _=>rfl) (fun c x=>e8 rfl rfl (aW bb (aW bb du))) (fun c x=>ML c x)) (fun _=>rfl) (fun _=>rfl) fun c=>?_
 exact eU rfl (by repeat' (first | exact trivial | refine And.intro rfl ?_))
noncomputable def Cw(σ:List Ob)(z:Int×List (List Nat×List Nat)):M (List Ob):=(foldM (B4 z.1) σ z.2).bind fun c=>.ok c
theorem Mb(σ:List Ob)(z:Int×List (List Nat×List Nat)):Sg false R (PT ms (sd (.int z.1)) (sd (fg z.2)) none none none none none none) σ m8 (Cw σ z) (fun σ'=>.go (PT ms none none none none none none none none) σ'):=by
 refine bQ (fun _=>PT ms (sd (.int z.1)) (sd (fg z.2)) none none none none none none) (fun v=>v) (jQ (P:=fun _=>PT ms (sd (.int z.1)) (sd (fg z.2)) none none none none none none) (S:=fun c:List Ob=>c) (c0:=σ) (p2:=fun _ y=>PT ms (sd (.int z.1)) (sd (fg z.2)) (sd (.str y.1)) (sd (.str y.2)) none none none none) (gU (sv (ao (a:=z.2) (e:=fg) rfl))) (by repeat' (first | exact trivial | refine And.intro rfl ?_)) rfl (fun c x=>e8 rfl rfl (aW bb (aW bb du))) (fun c y=>MU c y)) (fun _=>rfl) (fun _=>rfl) fun c=>?_
 exact eU rfl (by repeat' (first | exact trivial | refine And.intro rfl ?_))
noncomputable def zd(ms:bj):M (List Ob):=(foldM Cw [.dic false []] ms).bind fun c=>.ok c
theorem Aa:dW R eg [.d (dk ms)] [] (zd ms) (fun σ=>(.val (.r 0),σ)):=by
 refine fH ?_
 have h1:Ev R [sd (dk ms),none,none,none,none,none,none,none,none,none] [] (gS cN) (.ok ()) (fun _=>(.val (.r 0),[sd (dk ms),none,none,none,none,none,none,none,none,none],[.dic false []])):=fun sg hf=>⟨sg,rfl,hf⟩
 refine fB (PT ms none none none none none none none none) [.dic false []] (e6 (x:=fun _=>.r 0) (P:=fun _=>[sd (dk ms),none,none,none,none,none,none,none,none,none]) (S:=fun _=>[.dic false []]) h1) rfl rfl ?_
 refine bQ (fun _=>PT ms none none none none none none none none) (fun v=>v) (jQ (P:=fun _=>PT ms none none none none none none none none) (S:=fun c:List Ob=>c) (c0:=[.dic false []]) (p2:=fun _ z=>PT ms (sd (.int z.1)) (sd (fg z.2)) none none none none none none) (gU (sv (ao (a:=ms) (e:=dk) rfl))) (by repeat' (first | exact trivial | refine And.intro rfl ?_)) rfl (fun c x=>e8 rfl rfl (aW bb (aW bb du))) (fun c z=>Mb c z)) (fun _=>rfl) (fun _=>rfl) fun c=>?_
 exact cm (nT (x:=fun _=>.r 0) (mI (a:=()) rfl) rfl)
end
abbrev T3:Type:=List (List Nat×List (List Nat×Rw))
abbrev qy:T3→D:=az (az (bx (eL D.int)))
open Classical in
noncomputable def iF(ms:bj):M T3:=(zd ms).bind fun σ=>if h:∃ t:T3,mP 6 ⟨[],σ⟩ (.r 0)=some (qy t)then .ok h.choose else .bad
theorem y0{hY:bj}:zD eg [dk hY] (iF hY) qy:=by
 have h:=Aa (R:=fun _=>True) (ms:=hY)
 unfold zD iF
 cases e:zd hY with
 | ok σ=>
  rw[e]at h
  have h:eg [.d (dk hY)] []=.ok (.val (.r 0)) ⟨[],σ⟩:=h
  rw[M.ae]
  by_cases q:∃ t:T3,mP 6 ⟨[],σ⟩ (.r 0)=some (qy t)
  ·rw[dif_pos q]
   intro s
   show oH 6 (eg [.d (dk hY)] []) s=_
   rw[h]
   unfold oH
   have hc:=q.choose_spec
   generalize q.choose=t at hc ⊢
   dsimp only
   rw[hc]
  ·rw[dif_neg q]
   trivial
 | exc x=>trivial
 | bad=>trivial
end K06
namespace K06
open PySem L2 PyProof.Rows Vw
inductive Ky where
 | root
 | fld (f:List Nat)
 | row (f w:List Nat)
 deriving DecidableEq
def bU(K:List Ky)(k:Ky):Nat:=K.idxOf k
def bE(T:Tb)(f:List Nat):In:=(aA T f).getD []
def obj(T:Tb)(K:List Ky):Ky→Ob
 | .root=>.dic false (T.map fun p=>(K0.s p.1,Val.r (bU K (.fld p.1))))
 | .fld f=>.dic false ((bE T f).map fun q=>(K0.s q.1,Val.r (bU K (.row f q.1))))
 | .row f w=>iK (eL D.int) (br T f w)
structure RpK (σ:List Ob) (T:Tb) (K:List Ky):Prop where
 s:σ=K.map (obj T K)
 r:K[0]? =some .root
 n:K.Nodup
 kf:∀ f,.fld f∈K↔f∈T.map (·.1)
 kw:∀ f w,.row f w∈K↔w∈(bE T f).map (·.1)
 nt:(T.map (·.1)).Nodup
 nw:∀ f,((bE T f).map (·.1)).Nodup
theorem z9{K:List Ky}{k:Ky}(h:k∈K):bU K k<K.length:=List.idxOf_lt_length_of_mem h
theorem rT{K:List Ky}{k:Ky}(h:k∈K):K[bU K k]? =some k:=by
 rw[List.getElem?_eq_getElem (z9 h)]
 exact congrArg some (List.getElem_idxOf (z9 h))
theorem kh{K:List Ky}{k x:Ky}(h:k∈K):bU (K++[x]) k=bU K k:=by
 unfold bU
 rw[List.idxOf_append,if_pos h]
theorem BI{K:List Ky}{x:Ky}(h:x∉K):bU (K++[x]) x=K.length:=by
 unfold bU
 rw[List.idxOf_append,if_neg h]
 simp
theorem tq{K:List Ky}{g:Ky→Ob}{k:Ky}{v:Ob}(hn:K.Nodup)(hk:k∈K):(K.map g).set (bU K k) v=K.map fun x=>if x=k then v else g x:=by
 refine List.ext_getElem? fun i=>?_
 rw[List.getElem?_set,List.getElem?_map,List.getElem?_map,List.length_map]
 by_cases hi:bU K k=i
 ·subst hi
  rw[if_pos rfl,if_pos (z9 hk),rT hk]
  simp
 ·rw[if_neg hi]
  cases e:K[i]? with
  | none=>rfl
  | some x=>
   have hx:x≠k:=fun z=>by
    subst z
    have h2:=rT hk
    obtain⟨a1,a2⟩:=List.getElem?_eq_some_iff.mp e
    obtain⟨b1,b2⟩:=List.getElem?_eq_some_iff.mp h2
    exact hi ((List.getElem_inj hn).mp (b2.trans a2.symm))
   show some (g x)=some (if x=k then v else g x)
   rw[if_neg hx]
theorem map_eq{K:List Ky}{g h:Ky→Ob}(e:∀ x∈K,g x=h x):K.map g=K.map h:=List.map_congr_left e
section
variable{σ:List Ob}{T:Tb}{K:List Ky}{f w:List Nat}
theorem RpK.rt(h:RpK σ T K):Ky.root∈K:=List.mem_of_getElem? h.r
theorem RpK.r0(h:RpK σ T K):bU K .root=0:=by
 obtain⟨a,b⟩:=List.getElem?_eq_some_iff.mp h.r
 have h2:=rT h.rt
 obtain⟨c,d⟩:=List.getElem?_eq_some_iff.mp h2
 exact(List.getElem_inj h.n).mp (d.trans b.symm)
theorem RpK.at_(h:RpK σ T K){k:Ky}(hk:k∈K):σ[bU K k]? =some (obj T K k):=by
 rw[h.s,List.getElem?_map,rT hk]
 rfl
theorem RpK.len(h:RpK σ T K):σ.length=K.length:=by rw[h.s,List.length_map]
theorem yR{A:Type}{l:List (List Nat×A)}{k:List Nat}(F:List Nat→Val):aA (l.map fun p=>(K0.s p.1,F p.1)) (K0.s k)=if k∈l.map (·.1)then some (F k)else none:=by
 induction l with
 | nil=>rfl
 | cons p l ih=>
  rw[List.map_cons,cL]
  by_cases e:p.1=k
  ·rw[if_pos (by rw[e]),if_pos (by simp[e]),e]
  ·rw[if_neg (fun z=>e (by cases z;rfl)),ih]
   by_cases hm:k∈l.map (·.1)
   ·rw[if_pos hm,if_pos (by rw[List.map_cons];exact List.mem_cons_of_mem _ hm)]
   ·rw[if_neg hm,if_neg (by rw[List.map_cons];intro z;rcases List.mem_cons.mp z with z | z;exact e z.symm;exact hm z)]
theorem DW{A:Type}{l:List (List Nat×A)}{k:List Nat}(F:List Nat→Val)(h:k∈l.map (·.1)):aO (l.map fun p=>(K0.s p.1,F p.1)) (K0.s k) (F k)=l.map fun p=>(K0.s p.1,F p.1):=by
 rw[iE (by rw[List.map_map];obtain⟨p,hp,e⟩:=List.mem_map.mp h;exact List.mem_map.mpr ⟨p,hp,by rw[←e];rfl⟩)]
 rw[List.map_map]
 refine List.map_congr_left fun p _=>?_
 show(if K0.s p.1=K0.s k then(K0.s p.1,F k)else(K0.s p.1,F p.1))=_
 split
 ·rename_i e
  cases e
  rfl
 ·rfl
theorem Eo{A:Type}{l:List (List Nat×A)}{k:List Nat}(F:List Nat→Val)(v:Val)(h:k∉l.map (·.1)):aO (l.map fun p=>(K0.s p.1,F p.1)) (K0.s k) v=(l.map fun p=>(K0.s p.1,F p.1))++[(K0.s k,v)]:=
 eA (by
  rw[List.map_map]
  intro z
  obtain⟨p,hp,e⟩:=List.mem_map.mp z
  have e:K0.s p.1=K0.s k:=e
  cases e
  exact h (List.mem_map_of_mem hp))
theorem Bu{o:Nat}{k:Ky}{A:Type}{l:List (List Nat×A)}{x:List Nat}(F:List Nat→Val){n:Nat}(hF:F x=.r n)(ho:σ[o]? =some (.dic false (l.map fun p=>(K0.s p.1,F p.1))))(hx:x∈l.map (·.1))(hl:l.length<16777216):sC o x σ=.ok (n,σ)∧stM o x n σ=.ok σ:=by
 unfold sC stM
 rw[ho]
 dsimp only
 rw[yR F,if_pos hx,hF]
 refine⟨rfl,?_⟩
 rw[List.length_map,if_pos (by rw[zL];exact hl),←hF,DW F hx]
 refine congrArg M.ok (List.ext_getElem? fun i=>?_)
 rw[List.getElem?_set]
 split
 ·rename_i e
  subst e
  rw[ho]
  split
  ·rfl
  ·rename_i hlt
   exact absurd (List.getElem?_eq_some_iff.mp ho).1 hlt
 ·rfl
theorem Bg{o:Nat}{A:Type}{l:List (List Nat×A)}{x:List Nat}(F:List Nat→Val)(ho:σ[o]? =some (.dic false (l.map fun p=>(K0.s p.1,F p.1))))(hx:x∉l.map (·.1))(hl:l.length<16777216):sC o x σ=.ok (σ.length,σ++[.dic false []])∧stM o x σ.length (σ++[.dic false []])=M.ok ((σ++[Ob.dic false []]).set o (Ob.dic false ((l.map fun p=>(K0.s p.1,F p.1))++[(K0.s x,Val.r σ.length)]))):=by
 have hlt:=(List.getElem?_eq_some_iff.mp ho).1
 unfold sC stM
 rw[List.getElem?_append_left hlt,ho]
 dsimp only
 rw[yR F,if_neg hx]
 refine⟨rfl,?_⟩
 rw[List.length_map,if_pos (by rw[zL];exact hl),Eo F _ hx]
theorem oz(hf:f∉T.map (·.1))(g:List Nat):bE (T++[(f,[])]) g=bE T g:=by
 unfold bE
 rw[iq,cL]
 by_cases h:f=g
 ·subst h
  rw[cv hf,if_pos rfl]
  rfl
 ·rw[if_neg h]
  show((aA T g).or none).getD []=_
  rw[Option.or_none]
theorem gD(T:Tb)(g u:List Nat):br T g u=(aA (bE T g) u).getD []:=rfl
theorem oc(d:In)(g:List Nat):bE (aO T f d) g=if g=f then d else bE T g:=by
 unfold bE
 rw[iH]
 split<;> rfl
theorem kl{A B:Type}{l:List (List Nat×A)}(G:List Nat→B):(l.map fun p=>G p.1)=(l.map (·.1)).map G:=by rw[List.map_map];rfl
def la(T:Tb)(f:List Nat):Tb:=if f∈T.map (·.1)then T else T++[(f,[])]
theorem vE(g:List Nat):bE (la T f) g=bE T g:=by
 unfold la
 split
 ·rfl
 ·rename_i h;exact oz h g
theorem tu:f∈(la T f).map (·.1):=by
 unfold la
 split
 ·assumption
 ·simp
theorem OR(h:RpK σ T K)(hl:T.length<16777216):∃ K1 σ1 σ2,sC 0 f σ=.ok (bU K1 (.fld f),σ1)∧stM 0 f (bU K1 (.fld f)) σ1=.ok σ2∧RpK σ2 (la T f) K1:=by
 have h0:σ[0]? =some (.dic false (T.map fun p=>(K0.s p.1,Val.r (bU K (.fld p.1))))):=by
  have:=h.at_ h.rt
  rw[h.r0]at this
  exact this
 by_cases hf:f∈T.map (·.1)
 ·obtain⟨e1,e2⟩:=Bu (o:=0) (k:=.root) (fun g=>Val.r (bU K (.fld g))) (n:=bU K (.fld f)) rfl h0 hf hl
  refine⟨K,σ,σ,e1,e2,?_⟩
  unfold la
  rw[if_pos hf]
  exact h
 ·obtain⟨e1,e2⟩:=Bg (o:=0) (fun g=>Val.r (bU K (.fld g))) h0 hf hl
  have hk:Ky.fld f∉K:=fun z=>hf ((h.kf f).mp z)
  have hx:bU (K++[.fld f]) (.fld f)=σ.length:=by rw[BI hk,h.len]
  refine⟨K++[.fld f],_,_,by rw[hx];exact e1,by rw[hx];exact e2,?_⟩
  unfold la
  rw[if_neg hf]
  have hn:(K++[Ky.fld f]).Nodup:=by
   rw[List.nodup_append]
   exact⟨h.n,by simp,fun x hx y hy e=>by rw[List.mem_singleton]at hy;subst hy;subst e;exact hk hx⟩
  have hr0:bU (K++[Ky.fld f]) .root=0:=by rw[kh h.rt,h.r0]
  refine⟨?_,?_,hn,fun g=>?_,fun g u=>?_,?_,fun g=>?_⟩
  ·have e3:σ++[Ob.dic false []]=(K++[Ky.fld f]).map fun x=>if x=.fld f then Ob.dic false []else obj T K x:=by
    rw[List.map_append,h.s]
    congr 1
    ·exact map_eq fun x hx=>by rw[if_neg (fun z=>by subst z;exact hk hx)]
    ·simp
   rw[e3,←hr0,tq hn (List.mem_append_left _ h.rt)]
   refine map_eq fun x hx2=>?_
   cases x with
   | root=>
    rw[if_pos rfl]
    show _=Ob.dic false ((T++[(f,([]:In))]:Tb).map fun p:List Nat×In=>(K0.s p.1,Val.r (bU (K++[Ky.fld f]) (Ky.fld p.1))))
    rw[List.map_append]
    congr 2
    ·exact List.map_congr_left fun p hp=>by rw[kh ((h.kf p.1).mpr (List.mem_map_of_mem hp))]
    ·show [(K0.s f,Val.r σ.length)]=[(K0.s f,Val.r (bU (K++[.fld f]) (.fld f)))]
     rw[hx]
   | fld g=>
    rw[if_neg (by simp)]
    show _=Ob.dic false ((bE (T++[(f,[])]) g).map fun q=>(K0.s q.1,Val.r (bU (K++[.fld f]) (.row g q.1))))
    rw[oz hf]
    by_cases hg:g=f
    ·subst hg
     rw[if_pos rfl]
     unfold bE
     rw[cv hf]
     rfl
    ·rw[if_neg (fun z=>hg (by cases z;rfl))]
     show Ob.dic false _=_
     congr 1
     exact List.map_congr_left fun q hq=>by rw[kh ((h.kw g q.1).mpr (List.mem_map_of_mem hq))]
   | row g u=>
    rw[if_neg (by simp),if_neg (by simp)]
    show iK (eL D.int) (br T g u)=iK (eL D.int) (br (T++[(f,[])]) g u)
    rw[gD,gD,oz hf]
  ·rw[List.getElem?_append_left (List.getElem?_eq_some_iff.mp h.r).1,h.r]
  ·rw[List.mem_append,List.mem_singleton,h.kf,List.map_append,List.mem_append]
   simp
  ·rw[List.mem_append,List.mem_singleton,h.kw,oz hf]
   simp
  ·rw[List.map_append,List.nodup_append]
   exact⟨h.nt,by simp,fun x hxx y hy e=>by simp at hy;subst hy;subst e;exact hf hxx⟩
  ·rw[oz hf]
   exact h.nw g
def addW(T:Tb)(f w:List Nat):Tb:=if w∈(bE T f).map (·.1)then T else aO T f (bE T f++[(w,[])])
theorem xP(hf:f∈T.map (·.1)):(addW T f w).map (·.1)=T.map (·.1):=by
 unfold addW
 split
 ·rfl
 ·rw[gP,if_pos hf]
theorem zi(g u:List Nat):br (addW T f w) g u=br T g u:=by
 unfold addW
 split
 ·rfl
 ·rename_i hw
  rw[gD,gD,oc]
  by_cases hg:g=f
  ·subst hg
   rw[if_pos rfl,iq,cL]
   by_cases hu:w=u
   ·subst hu
    rw[cv hw,if_pos rfl]
    rfl
   ·rw[if_neg hu]
    show((aA (bE T g) u).or none).getD []=_
    rw[Option.or_none]
  ·rw[if_neg hg]
theorem y6:w∈(bE (addW T f w) f).map (·.1):=by
 unfold addW
 split
 ·assumption
 ·rw[oc,if_pos rfl]
  simp
theorem N0(h:RpK σ T K)(hf:f∈T.map (·.1))(hl:(bE T f).length<16777216):∃ K1 σ1 σ2,sC (bU K (.fld f)) w σ=.ok (bU K1 (.row f w),σ1)∧stM (bU K (.fld f)) w (bU K1 (.row f w)) σ1=.ok σ2∧RpK σ2 (addW T f w) K1:=by
 have hfk:=(h.kf f).mpr hf
 have h0:σ[bU K (.fld f)]? =some (.dic false ((bE T f).map fun p=>(K0.s p.1,Val.r (bU K (.row f p.1))))):=h.at_ hfk
 by_cases hw:w∈(bE T f).map (·.1)
 ·obtain⟨e1,e2⟩:=Bu (k:=.root) (fun g=>Val.r (bU K (.row f g))) (n:=bU K (.row f w)) rfl h0 hw hl
  refine⟨K,σ,σ,e1,e2,?_⟩
  unfold addW
  rw[if_pos hw]
  exact h
 ·obtain⟨e1,e2⟩:=Bg (fun g=>Val.r (bU K (.row f g))) h0 hw hl
  have hk:Ky.row f w∉K:=fun z=>hw ((h.kw f w).mp z)
  have hx:bU (K++[.row f w]) (.row f w)=σ.length:=by rw[BI hk,h.len]
  refine⟨K++[.row f w],_,_,by rw[hx];exact e1,by rw[hx];exact e2,?_⟩
  have hkeys:=xP (T:=T) (w:=w) hf
  have hrow:=zi (T:=T) (f:=f) (w:=w)
  have hws:∀ g,bE (addW T f w) g=if g=f then bE T f++[(w,[])]else bE T g:=fun g=>by
   unfold addW
   rw[if_neg hw,oc]
  generalize addW T f w=T2 at hkeys hrow hws
  have hn:(K++[Ky.row f w]).Nodup:=by
   rw[List.nodup_append]
   exact⟨h.n,by simp,fun x hx y hy e=>by rw[List.mem_singleton]at hy;subst hy;subst e;exact hk hx⟩
  have hr0:bU (K++[Ky.row f w]) (.fld f)=bU K (.fld f):=kh hfk
  refine⟨?_,?_,hn,fun g=>?_,fun g u=>?_,?_,fun g=>?_⟩
  ·have e3:σ++[Ob.dic false []]=(K++[Ky.row f w]).map fun x=>if x=.row f w then Ob.dic false []else obj T K x:=by
    rw[List.map_append,h.s]
    congr 1
    ·exact map_eq fun x hx=>by rw[if_neg (fun z=>by subst z;exact hk hx)]
    ·simp
   rw[e3,←hr0,tq hn (List.mem_append_left _ hfk)]
   refine map_eq fun x hx2=>?_
   cases x with
   | root=>
    rw[if_neg (by simp),if_neg (by simp)]
    show Ob.dic false (T.map fun p=>(K0.s p.1,Val.r (bU K (.fld p.1))))=Ob.dic false (T2.map fun p=>(K0.s p.1,Val.r (bU (K++[.row f w]) (.fld p.1))))
    rw[kl (fun g=>(K0.s g,Val.r (bU K (.fld g)))),kl (l:=T2) (fun g=>(K0.s g,Val.r (bU (K++[Ky.row f w]) (Ky.fld g)))),hkeys]
    congr 1
    exact List.map_congr_left fun g hg=>by rw[kh ((h.kf g).mpr hg)]
   | fld g=>
    show _=Ob.dic false ((bE T2 g).map fun q=>(K0.s q.1,Val.r (bU (K++[.row f w]) (.row g q.1))))
    rw[hws]
    by_cases hg:g=f
    ·subst hg
     rw[if_pos rfl,if_pos rfl,List.map_append]
     congr 2
     ·exact List.map_congr_left fun q hq=>by rw[kh ((h.kw g q.1).mpr (List.mem_map_of_mem hq))]
     ·show [(K0.s w,Val.r σ.length)]=[(K0.s w,Val.r (bU (K++[.row g w]) (.row g w)))]
      rw[hx]
    ·rw[if_neg (fun z=>hg (by cases z;rfl)),if_neg (by simp),if_neg hg]
     show Ob.dic false _=_
     congr 1
     exact List.map_congr_left fun q hq=>by rw[kh ((h.kw g q.1).mpr (List.mem_map_of_mem hq))]
   | row g u=>
    rw[if_neg (by simp)]
    show _=iK (eL D.int) (br T2 g u)
    rw[hrow]
    by_cases hgu:g=f∧u=w
    ·obtain⟨rfl,rfl⟩:=hgu
     rw[if_pos rfl,gD,cv hw]
     rfl
    ·rw[if_neg (fun z=>hgu (by cases z;exact⟨rfl,rfl⟩))]
     rfl
  ·rw[List.getElem?_append_left (List.getElem?_eq_some_iff.mp h.r).1,h.r]
  ·rw[List.mem_append,List.mem_singleton,h.kf,hkeys]
   simp
  ·rw[List.mem_append,List.mem_singleton,h.kw,hws]
   by_cases hg:g=f
   ·subst hg
    rw[if_pos rfl,List.map_append,List.mem_append]
    simp
   ·rw[if_neg hg]
    simp[hg]
  ·rw[hkeys];exact h.nt
  ·rw[hws]
   split
   ·rw[List.map_append,List.nodup_append]
    exact⟨h.nw f,by simp,fun x hxx y hy e=>by simp at hy;subst hy;subst e;exact hw hxx⟩
   ·exact h.nw g
def jn(T:Tb)(f w:List Nat)(r:Row):Tb:=aO T f (aO (bE T f) w r)
theorem Be(r:Row)(g:List Nat):bE (jn T f w r) g=if g=f then aO (bE T f) w r else bE T g:=oc _ g
theorem zW(r:Row)(g u:List Nat):br (jn T f w r) g u=if g=f∧u=w then r else br T g u:=by
 rw[gD,gD,Be]
 by_cases hg:g=f
 ·subst hg
  rw[if_pos rfl,iH]
  by_cases hu:u=w
  ·rw[if_pos hu,if_pos ⟨rfl,hu⟩]
   rfl
  ·rw[if_neg hu,if_neg (fun z=>hu z.2)]
 ·rw[if_neg hg,if_neg (fun z=>hg z.1)]
theorem Ol(h:RpK σ T K)(hf:f∈T.map (·.1))(hw:w∈(bE T f).map (·.1))(r:Row):RpK (σ.set (bU K (.row f w)) (iK (eL D.int) r)) (jn T f w r) K:=by
 have hk:=(h.kw f w).mpr hw
 have hkeys:(jn T f w r).map (·.1)=T.map (·.1):=by unfold jn;rw[gP,if_pos hf]
 have hwk:∀ g,(bE (jn T f w r) g).map (·.1)=(bE T g).map (·.1):=fun g=>by
  rw[Be]
  split
  ·rename_i e
   rw[e,gP,if_pos hw]
  ·rfl
 have hrow:=zW (T:=T) (f:=f) (w:=w) r
 generalize jn T f w r=T2 at hkeys hwk hrow
 refine⟨?_,h.r,h.n,fun g=>by rw[h.kf,hkeys],fun g u=>by rw[h.kw,hwk],by rw[hkeys];exact h.nt,fun g=>by rw[hwk];exact h.nw g⟩
 rw[h.s,tq h.n hk]
 refine map_eq fun x hx=>?_
 cases x with
 | root=>
  rw[if_neg (by simp)]
  show Ob.dic false (T.map fun p=>(K0.s p.1,Val.r (bU K (.fld p.1))))=Ob.dic false (T2.map fun p=>(K0.s p.1,Val.r (bU K (.fld p.1))))
  rw[kl (fun g=>(K0.s g,Val.r (bU K (.fld g)))),kl (fun g=>(K0.s g,Val.r (bU K (.fld g)))),hkeys]
 | fld g=>
  rw[if_neg (by simp)]
  show Ob.dic false ((bE T g).map fun q=>(K0.s q.1,Val.r (bU K (.row g q.1))))=Ob.dic false ((bE T2 g).map fun q=>(K0.s q.1,Val.r (bU K (.row g q.1))))
  rw[kl (fun u=>(K0.s u,Val.r (bU K (.row g u)))),kl (fun u=>(K0.s u,Val.r (bU K (.row g u)))),hwk]
 | row g u=>
  show _=iK (eL D.int) (br T2 g u)
  rw[hrow]
  by_cases hgu:g=f∧u=w
  ·rw[if_pos hgu,if_pos (by rw[hgu.1,hgu.2])]
  ·rw[if_neg hgu,if_neg (fun z=>hgu (by cases z;exact⟨rfl,rfl⟩))]
   rfl
end
end K06
namespace Vw
open PySem L2 PyProof.Rows
section
variable{T:Type}
def bO:Nat→List (Int×List T)→List Val
 | _,[]=>[]
 | k,p::l=>.tp [.d (.int p.1),.r k]::bO (k+1) l
def cells(e:T→D)(l:List (Int×List T)):List Ob:=l.map fun p=>oL e p.2
theorem Bj:∀ (l m:List (Int×List T)) (k:Nat),bO k (l++m)=bO k l++bO (k+l.length) m
 | [],m,k=>rfl
 | p::l,m,k=>by
  rw[List.cons_append,bO,Bj l m (k+1),bO,List.length_cons,show k+1+l.length=k+(l.length+1) by omega]
  rfl
theorem BY:∀ (l:List (Int×List T)) (k:Nat),(bO k l).length=l.length
 | [],k=>rfl
 | p::l,k=>by rw[bO,List.length_cons,List.length_cons,BY l]
theorem jq{e:T→D}{l:List (Int×List T)}:(cells e l).length=l.length:=by rw[cells,List.length_map]
theorem Ay{vs:List Nat}{t:Tg}{fe:State→Res RV}{e:T→D}{enc:Int×List T→D}{K:Slots→Prop}(h:∀ sg τ p,K sg→∃ sg2,dA t (.d (enc p)) (bh vs ⟨sg,τ⟩)=some ⟨sg2,τ⟩∧fe ⟨sg2,τ⟩=.ok (.val (.tp [.d (.int p.1),.r τ.length])) ⟨sg2,τ++[oL e p.2]⟩∧K (cY sg2 vs))(σ:List Ob):∀ (l acc:List (Int×List T)) (sg:Slots),K sg→acc.length+l.length<sizeLine→
  ∃ sg',j2 vs t bZ fe (l.map fun p=>.d (enc p)) (bO σ.length acc) ⟨sg,σ++cells e acc⟩=.ok (bO σ.length (acc++l)) ⟨sg',σ++cells e (acc++l)⟩∧K sg'
 | [],acc,sg,hs,_=>⟨sg,by rw[List.append_nil];rfl,hs⟩
 | p::l,acc,sg,hs,hl=>by
  simp only[List.length_cons]at hl
  have hlen:(σ++cells e acc).length=σ.length+acc.length:=by rw[List.length_append,jq]
  obtain⟨sg2,h1,h2,h3⟩:=h sg (σ++cells e acc) p hs
  obtain⟨sg',ih,hk⟩:=Ay h σ l (acc++[p]) (cY sg2 vs) h3 (by simp;omega)
  refine⟨sg',?_,by exact hk⟩
  have e1:bO σ.length (acc++[p])=bO σ.length acc++[.tp [.d (.int p.1),.r (σ.length+acc.length)]]:=by rw[Bj];rfl
  have e2:σ++cells e (acc++[p])=σ++cells e acc++[oL e p.2]:=by unfold cells;rw[List.map_append,List.append_assoc];rfl
  rw[e1,e2]at ih
  rw[show acc++p::l=acc++[p]++l by simp]
  rw[←ih]
  rw[List.map_cons,j2,h1]
  dsimp only
  rw[show bZ ⟨sg2,σ++cells e acc⟩=.ok true ⟨sg2,σ++cells e acc⟩from rfl]
  dsimp only
  rw[h2,hlen]
  dsimp only
  rw[show bL (RV.val (.tp [.d (.int p.1),.r (σ.length+acc.length)])) ⟨sg2,σ++cells e acc++[oL e p.2]⟩=.ok (.tp [.d (.int p.1),.r (σ.length+acc.length)]) ⟨sg2,σ++cells e acc++[oL e p.2]⟩from rfl]
  dsimp only
  rw[if_pos (by rw[BY];omega)]
  rfl
theorem tH{N:Nat}{L:List Val}{t:Tg}{b:State→Res Fl}{e:T→D}{K:Slots→Prop}{P:Int×List T→Prop}{F:Int×List T→List T}(h:∀ sg τ p j,K sg→P p→τ[j]? =some (oL e p.2)→∃ sg2 sg3,dA t (.tp [.d (.int p.1),.r j]) ⟨sg,τ⟩=some ⟨sg2,τ⟩∧b ⟨sg2,τ⟩=.ok .nx ⟨sg3,τ.set j (oL e (F p))⟩∧K sg3)(σ tail:List Ob):∀ (r:List (Int×List T)) (D:List Ob) (sg:Slots),K sg→(∀ p∈r,P p)→(∃ i,N=σ.length+D.length+r.length+i∧tail[i]? =some (.lst L))→
  ∃ sg',b7 N L t b (bO (σ.length+D.length) r) ⟨sg,σ++D++cells e r++tail⟩=.ok .nx ⟨sg',σ++D++(r.map fun p=>oL e (F p))++tail⟩∧K sg'
 | [],D,sg,hs,_,⟨i,hN,hi⟩=>by
  refine⟨sg,?_,hs⟩
  rw[bO,b7,if_pos]
  ·rfl
  ·show(σ++D++cells e ([]:List (Int×List T))++tail)[N]? =_
   rw[hN,List.getElem?_append_right (by simp[cells]),show σ.length+D.length+([]:List (Int×List T)).length+i-(σ++D++cells e ([]:List (Int×List T))).length=i by simp[cells],hi]
 | p::r,D,sg,hs,hP,⟨i,hN,hi⟩=>by
  simp only[List.length_cons]at hN
  have hlen:(σ++D).length=σ.length+D.length:=List.length_append
  have hj:(σ++D++cells e (p::r)++tail)[σ.length+D.length]? =some (oL e p.2):=by
   rw[List.append_assoc (σ++D),List.getElem?_append_right (Nat.le_of_eq hlen),hlen,Nat.sub_self]
   rfl
  obtain⟨sg2,sg3,h1,h2,h3⟩:=h sg (σ++D++cells e (p::r)++tail) p (σ.length+D.length) hs (hP p (by simp)) hj
  have hset:(σ++D++cells e (p::r)++tail).set (σ.length+D.length) (oL e (F p))=σ++(D++[oL e (F p)])++cells e r++tail:=by
   rw[List.append_assoc (σ++D),List.set_append,if_neg (by omega),hlen,Nat.sub_self]
   simp[cells]
  obtain⟨sg',ih,hk⟩:=tH (N:=N) (L:=L) h σ tail r (D++[oL e (F p)]) sg3 h3 (fun q hq=>hP q (by simp[hq])) ⟨i,by rw[List.length_append,List.length_singleton];omega,hi⟩
  refine⟨sg',?_,hk⟩
  have hst:(σ++D++cells e (p::r)++tail)[N]? =some (.lst L):=by
   rw[hN,List.getElem?_append_right (by simp[cells];omega),show σ.length+D.length+(r.length+1)+i-(σ++D++cells e (p::r)).length=i by simp[cells];omega,hi]
  rw[bO,b7,if_pos hst,h1]
  dsimp only
  rw[h2,hset]
  dsimp only
  rw[show σ.length+D.length+1=σ.length+(D++[oL e (F p)]).length by simp;omega,ih]
  simp
theorem vq{f:Val→Option D}(hf:∀ x,f (.d x)=some x)(e:T→D):∀ l:List T,d0 f (l.map fun x=>Val.d (e x))=some (l.map e)
 | []=>rfl
 | x::l=>by
  rw[List.map_cons,d0,hf,vq hf e l]
  rfl
theorem vw(ok:Nat→Bool)(n:Nat)(st:List Ob)(x:D):bp ok n st (.d x)=some x:=by cases n<;> rfl
theorem EY{e:T→D}{st:List Ob}{k n:Nat}{c:List T}(h:st[k]? =some (oL e c)):bp bP (n+1) st (.r k)=some (eL e c):=by
 show(if bP k=true then(match st[k]? with | some o=>jM (bp bP n st) o | none=>none)else none)=_
 rw[if_pos (show bP k=true from rfl),h]
 show(d0 (bp bP n st) (c.map fun x=>Val.d (e x))).map D.lst=_
 rw[vq (vw bP n st)]
 rfl
theorem A3{e:T→D}{st:List Ob}{n:Nat}:∀ (l:List (Int×List T)) (k:Nat),(∀ i,i<l.length→st[k+i]? =l[i]?.map fun p=>oL e p.2)→d0 (bp bP (n+2) st) (bO k l)=some (l.map (aj D.int (eL e)))
 | [],k,_=>rfl
 | p::l,k,h=>by
  have h0:st[k]? =some (oL e p.2):=by simpa using h 0 (by simp)
  have ih:=A3 (n:=n) l (k+1) fun i hi=>by
   have:=h (i+1) (by simpa using hi)
   rw[show k+1+i=k+(i+1) by omega,this];rfl
  rw[bO,d0,ih]
  have e0:bp bP (n+2) st (.tp [.d (.int p.1),.r k])=some (.tup [.int p.1,eL e p.2]):=by
   show(d0 (bp bP (n+1) st) [.d (.int p.1),.r k]).map D.tup=_
   rw[d0,vw,d0,EY h0]
   rfl
  rw[e0]
  rfl
theorem Fv{e:T→D}{st:List Ob}{n k N:Nat}{l:List (Int×List T)}(hN:st[N]? =some (.lst (bO k l)))(h:∀ i,i<l.length→st[k+i]? =l[i]?.map fun p=>oL e p.2):bp bP (n+3) st (.r N)=some (eL (aj D.int (eL e)) l):=by
 show(if bP N=true then(match st[N]? with | some o=>jM (bp bP (n+2) st) o | none=>none)else none)=_
 rw[if_pos (show bP N=true from rfl),hN]
 show(d0 (bp bP (n+2) st) (bO k l)).map D.lst=_
 rw[A3 l k h]
 rfl
end
end Vw
namespace K06
open PySem L2 PyProof.Rows Vw
abbrev eR:List (Int×List Int)→D:=eL (aj D.int (eL D.int))
@[irreducible] def aJ(l:List (Int×List Int)):M (List (Int×List Int)):=if l.length<sizeLine then .ok l else .bad
theorem three{sg:Slots}(h:sg.length=3):∃ a b c,sg=[a,b,c]:=by
 match sg,h with
 | [a,b,c],_=>exact⟨a,b,c,rfl⟩
theorem Iz(sg:Slots)(τ:List Ob)(p:Int×List Int)(h:sg.length=3):∃ sg2,dA (.tp [(.nm 1),(.nm 2)]) (.d (aj D.int (eL D.int) p)) (bh [1,2] ⟨sg,τ⟩)=some ⟨sg2,τ⟩∧cO ⟨sg2,τ⟩=.ok (.val (.tp [.d (.int p.1),.r τ.length])) ⟨sg2,τ++[oL D.int p.2]⟩∧(cY sg2 [1,2]).length=3:=by
 obtain⟨s0,s1,s2,rfl⟩:=three h
 refine⟨[s0,some (.v (.d (.int p.1))),some (.v (.d (eL D.int p.2)))],rfl,?_,rfl⟩
 unfold cO
 simp[lM,sq,qW]
 rw[if_pos (by rw[zL];decide)]
 rfl
theorem sh{R:List Ob→Prop}{σ:List Ob}{l:List (Int×List Int)}:dW R dO [.d (eR l)] σ (aJ l) (fun v=>(.new (.lst (bO σ.length v)),σ++cells D.int v)):=by
 have h:Ev R [some (.v (.d (eR l))),none,none] σ (fq [1,2] (.tp [(.nm 1),(.nm 2)]) (sD (aa 0) itemsOf) bZ cO) (aJ l) (fun v=>(.new (.lst (bO σ.length v)),[none,none,none],σ++cells D.int v)):=by
  unfold aJ
  by_cases hl:l.length<sizeLine
  case neg=>rw[if_neg hl];exact Ev.bad
  rw[if_pos hl]
  intro sg hf
  have hs:Ev R [some (.v (.d (eR l))),none,none] σ (sD (aa 0) itemsOf) (.ok l) (pS (fun x=>.d (aj D.int (eL D.int) x)) [some (.v (.d (eR l))),none,none] σ):=gU (sv (ao (a:=l) (e:=eR) rfl))
  obtain⟨sg1,e1,hf1⟩:=hs sg hf
  have hlen:sg1.length=3:=hf1.1.symm
  obtain⟨sg2,e2,hk⟩:=Ay (K:=fun sg=>sg.length=3) Iz σ l [] (cY sg1 [1,2]) (by obtain⟨a,b,c,rfl⟩:=three hlen;rfl) (by simpa using hl)
  refine⟨sg2,?_,⟨hk.symm,fun i s h=>?_⟩⟩
  ·unfold fq
   rw[e1,Res.ae]
   rw[List.nil_append,show σ++cells D.int ([]:List (Int×List Int))=σ from List.append_nil σ]at e2
   have e2:j2 [1,2] (.tp [(.nm 1),(.nm 2)]) bZ cO (l.map fun x=>.d (aj D.int (eL D.int) x)) [] (bh [1,2] ⟨sg1,σ⟩)=.ok (bO σ.length l) ⟨sg2,σ++cells D.int l⟩:=e2
   show(j2 [1,2] (.tp [(.nm 1),(.nm 2)]) bZ cO (l.map fun x=>.d (aj D.int (eL D.int) x)) [] (bh [1,2] ⟨sg1,σ⟩)).bind pF=_
   rw[e2,Res.ae]
   rfl
  ·match i,h with
   | 0,h=>cases h
   | 1,h=>cases h
   | 2,h=>cases h
   | i+3,h=>cases h
 have h2:=A8 (φ:=fun v:List (Int×List Int)=>v) (post:=fun v=>OutS.ret (.new (.lst (bO σ.length v))) (σ++cells D.int v)) h (fun _=>rfl)
 rw[M.bind_pure]at h2
 exact fH (cm h2)
def gk(pc:d9)(f w:List Nat):List (Int×List Int):=(eX ((eX pc.2.2 f).getD ([]:In)) w).getD ([]:List (Int×List Int))
theorem i4{R:List Ob→Prop}{σ:List Ob}{aD:d9}{aC:List Nat}{fK:List Nat}:dW R aU [.d (aY aD),.d (D.str aC),.d (D.str fK)] σ (nox (aJ (gk aD aC fK))) (fun v=>(.new (.lst (bO σ.length v)),σ++cells D.int v)):=by
 have h0:Ev R [some (.v (.d (aY aD))),some (.v (.d (D.str aC))),some (.v (.d (D.str fK)))] σ (cw 1 (aq [(fY (fY (eB fT "table" (aa 0)) (aa 1) cN) (aa 2) (cu []))]) dO) (nox (aJ (gk aD aC fK))) (fun v=>(.new (.lst (bO σ.length v)),[some (.v (.d (aY aD))),some (.v (.d (D.str aC))),some (.v (.d (D.str fK)))],σ++cells D.int v)):=
  eW (R':=R) (post:=fun v=>(.new (.lst (bO σ.length v)),[some (.v (.d (aY aD))),some (.v (.d (D.str aC))),some (.v (.d (D.str fK)))],σ++cells D.int v)) (ah (wb (wb (sv (qu (a:=(aD.2.2)) (e:=(az (az (eL (aj D.int (eL D.int)))))) (sv (ao (a:=aD) (e:=aY) (i:=0) rfl)) rfl rfl)) ij (sv (ao (a:=aC) (e:=D.str) (i:=1) rfl)) (sn (qv (e:=(eL (aj D.int (eL D.int))))) (fun v=>oU _ v))) ij (sv (ao (a:=fK) (e:=D.str) (i:=2) rfl)) (sn (Ev.cI (post2:=(pN (oL (aj D.int (eL D.int))) _ _)) (cq (l:=fun _=>([]:List (Int×List Int))) (e:=(aj D.int (eL D.int))) au (fun _=>.nil) (fun _=>rfl) (fun _=>rfl)) rfl) (fun v=>bc _ v))) au) (.d .nil) rfl (sh (R:=R) (σ:=σ) (l:=gk aD aC fK)) (fun _=>rfl)
 have h:=A8 (φ:=fun v:List (Int×List Int)=>v) (post:=fun v=>OutS.ret (.new (.lst (bO σ.length v))) (σ++cells D.int v)) h0 (fun _=>rfl)
 rw[M.bind_pure]at h
 exact fH (cm h)
@[irreducible] def gn(pc:d9)(f w:List Nat):M (List (Int×List Int)):=aJ (gk pc f w)
theorem si{aD:d9}{aC:List Nat}{fK:List Nat}:zD aU [aY aD,D.str aC,D.str fK] (gn aD aC fK) eR:=by
 have h:=i4 (R:=fun _=>True) (σ:=[]) (aD:=aD) (aC:=aC) (fK:=fK)
 unfold zD gn
 cases e:aJ (gk aD aC fK)with
 | ok v=>
  rw[e]at h
  have h:aU [.d (aY aD),.d (D.str aC),.d (D.str fK)] []=.ok (.new (.lst (bO 0 v))) ⟨[],cells D.int v⟩:=h
  intro s
  show oH 6 (aU [.d (aY aD),.d (D.str aC),.d (D.str fK)] []) s=_
  rw[h]
  unfold oH
  dsimp only
  have hz:mP 6 ⟨[],cells D.int v++[.lst (bO 0 v)]⟩ (.r (cells D.int v).length)=some (eR v):=by
   refine Fv (n:=3) (k:=0) (l:=v) (e:=D.int) (by rw[List.getElem?_append_right (Nat.le_refl _),Nat.sub_self];rfl) fun i hi=>?_
   rw[Nat.zero_add,List.getElem?_append_left (by rw[jq];exact hi)]
   unfold cells
   rw[List.getElem?_map]
  rw[hz]
 | exc x=>trivial
 | bad=>trivial
end K06
namespace K06
open PySem L2 PyProof.Rows Vw
abbrev Qc:Type:=List (List Nat×(List (Int×List Int)))
@[irreducible] def BM:Unit→(Int×List Int)→M (Lp Unit Bool):=(fun(c26:Unit) (eC:Int×List Int)=>(((((gp [eC.1] eC.2).bind fun l29=>cX (fun(one28:Int)=>M.ok false) (fun(one28:Int)=>M.ok one28) l29).bind fun a30=>M.ok (!(eqB a30 ([]:List Int)))).bind fun b31=>if b31=true then(M.ok (Lp.ret false))else(M.ok (.go ()))):M (Lp Unit Bool)))
@[irreducible] def z4(aK:d9)(aP:List Nat):Unit→(Int×List (List Nat×List Nat))→M (Lp Unit Bool):=(fun(c34:Unit) (hQ:Int×(List (List Nat×List Nat)))=>((((nox (b6 aK hQ.1 aP)).bind fun a36=>(((nox (dD ((eX (gE [] hQ.2) aP).getD (sS "")))).bind fun a37=>(M.ok ()).bind fun w38=>M.ok (a37,w38)).bind fun z39=>M.ok (z39.1.length:Int)).bind fun a40=>M.ok (!(eqB a36 a40))).bind fun b41=>if b41=true then(M.ok (Lp.ret false))else(M.ok (.go ()))):M (Lp Unit Bool)))
@[irreducible] def Bf(aK:d9)(aP:List Nat)(bN:Qc):Unit→List Nat→M (Lp Unit Bool):=(fun(c15:Unit) (de:List Nat)=>(((M.ok ((eX bN de).getD ([]:List (Int×List Int)))).bind fun dM=>(nox (gn aK aP de)).bind fun eD=>(((CU (dM.map fun p=>p.1)).bind fun l23=>cX (fun(dN:Int)=>M.ok true) (fun(dN:Int)=>((mm dM dN).bind fun a20=>(M.ok ()).bind fun w21=>M.ok (a20,w21)).bind fun z22=>M.ok (dN,z22.1)) l23).bind fun a24=>M.ok (!(eqB eD a24))).bind fun b25=>if b25=true then(M.ok (Lp.ret false))else((gY BM () eD).bind (qP (fun r32=>M.ok (.go ())) Lp.ret))):M (Lp Unit Bool)))
@[irreducible] def BS(aK:d9)(ag:bj)(bu:T3):Unit→List Nat→M (Lp Unit Bool):=(fun(c7:Unit) (aP:List Nat)=>(((M.ok ((eX bu aP).getD ([]:List (List Nat×(List (Int×List Int)))))).bind fun bN=>((nox (bB aK aP)).bind fun a10=>(ig (bN.map fun p=>p.1)).bind fun a11=>M.ok (!(eqB a10 a11))).bind fun b12=>if b12=true then(M.ok (Lp.ret false))else(((ig (bN.map fun p=>p.1)).bind fun a13=>gp a13 [(sS "nothing")]).bind fun a14=>(gY (Bf aK aP bN) () a14).bind (qP (fun r33=>(gY (z4 aK aP) () ag).bind (qP (fun r42=>M.ok (.go ())) Lp.ret)) Lp.ret))):M (Lp Unit Bool)))
noncomputable def iD(aK:d9)(ag:List (Int×(List (List Nat×List Nat)))):M Bool:=(nox (iF ag)).bind fun bu=>((nox (bT aK)).bind fun a2=>(ig (bu.map fun p=>p.1)).bind fun a3=>M.ok (!(eqB a2 a3))).bind fun b4=>if b4=true then(M.ok (false))else(((ig (bu.map fun p=>p.1)).bind fun a5=>gp a5 [(sS "nothing")]).bind fun a6=>(gY (BS aK ag bu) () a6).bind (qP (fun r43=>M.ok (true)) (fun q=>q)))
section
variable{R:List Ob→Prop}{σ:List Ob}{aK:d9}{ag:List (Int×(List (List Nat×List Nat)))}{aP de:List Nat}{bu:List (List Nat×(List (List Nat×(List (Int×List Int)))))}{bN:List (List Nat×(List (Int×List Int)))}{dM eD:List (Int×List Int)}{cU:Unit}{post:Lp Unit Bool→OutS}
theorem PV{eC:Int×List Int}(hg:∀ c,post (.go c)=.go [some (.v (.d (aY aK))),some (.v (.d ((eL (aj D.int (eL (aj D.str D.str)))) ag))),some (.v (.d ((az (az (bx (eL D.int)))) bu))),some (.v (.d (D.str aP))),some (.v (.d ((az (bx (eL D.int))) bN))),some (.v (.d (D.str de))),some (.v (.d ((bx (eL D.int)) dM))),some (.v (.d ((eL (aj D.int (eL D.int))) eD))),none,none,none,none] σ)(he:∀ q,post (.ret q)=.ret (.val (.d (.bl q))) σ):Sg false R [some (.v (.d (aY aK))),some (.v (.d ((eL (aj D.int (eL (aj D.str D.str)))) ag))),some (.v (.d ((az (az (bx (eL D.int)))) bu))),some (.v (.d (D.str aP))),some (.v (.d ((az (bx (eL D.int))) bN))),some (.v (.d (D.str de))),some (.v (.d ((bx (eL D.int)) dM))),some (.v (.d ((eL (aj D.int (eL D.int))) eD))),some (.v (.d (D.int eC.1))),none,some (.v (.d ((eL D.int) eC.2))),none] σ nK (BM cU eC) post:=by
 unfold BM
 exact(tP (b:=fun v=>v) (tB (b:=fun v=>v) (sv (mq (sn (o8 (q:=[some (.v (.d (aY aK))),some (.v (.d ((eL (aj D.int (eL (aj D.str D.str)))) ag))),some (.v (.d ((az (az (bx (eL D.int)))) bu))),some (.v (.d (D.str aP))),some (.v (.d ((az (bx (eL D.int))) bN))),some (.v (.d (D.str de))),some (.v (.d ((bx (eL D.int)) dM))),some (.v (.d ((eL (aj D.int (eL D.int))) eD))),some (.v (.d (D.int eC.1))),none,some (.v (.d ((eL D.int) eC.2))),none]) (p2:=fun(one28:Int)=>[some (.v (.d (aY aK))),some (.v (.d ((eL (aj D.int (eL (aj D.str D.str)))) ag))),some (.v (.d ((az (az (bx (eL D.int)))) bu))),some (.v (.d (D.str aP))),some (.v (.d ((az (bx (eL D.int))) bN))),some (.v (.d (D.str de))),some (.v (.d ((bx (eL D.int)) dM))),some (.v (.d ((eL (aj D.int (eL D.int))) eD))),some (.v (.d (D.int eC.1))),none,some (.v (.d ((eL D.int) eC.2))),some (.v (.d (D.int one28)))]) (p3:=fun(one28:Int)=>[some (.v (.d (aY aK))),some (.v (.d ((eL (aj D.int (eL (aj D.str D.str)))) ag))),some (.v (.d ((az (az (bx (eL D.int)))) bu))),some (.v (.d (D.str aP))),some (.v (.d ((az (bx (eL D.int))) bN))),some (.v (.d (D.str de))),some (.v (.d ((bx (eL D.int)) dM))),some (.v (.d ((eL (aj D.int (eL D.int))) eD))),some (.v (.d (D.int eC.1))),none,some (.v (.d ((eL D.int) eC.2))),some (.v (.d (D.int one28)))]) (mt:=(fun(one28:Int)=>M.ok false)) (me:=(fun(one28:Int)=>M.ok one28)) (e:=D.int) (gU (sn (bg (sn (Ev.cI (post2:=(pN (oL D.int) _ _)) (cq (l:=fun _=>([eC.1]:List Int)) (e:=D.int) (ah (sv (ao (a:=eC.1) (e:=D.int) rfl)) au) (fun _=>(.d .nil)) (fun _=>rfl) (fun _=>rfl)) rfl) (fun v=>bc _ v)) (sv (ao (a:=eC.2) (e:=(eL D.int)) rfl)) (add_l dY dY)) (fun v=>bc _ v))) rfl (fun(one28:Int)=>⟨bb,(i1 (sv (M8 (t:="int") (sv (ao (a:=one28) (e:=D.int) rfl)) (fun _ _=>rfl)))),(oW (ao (a:=one28) (e:=D.int) rfl))⟩) (fun _=>by(repeat' (first | exact trivial | refine And.intro rfl ?_))) (fun _=>by(repeat' (first | exact trivial | refine And.intro rfl ?_)))) (fun v=>bc _ v)) (fun a30=>(sn (Ev.cI (post2:=(pN (oL D.int) _ _)) (cq (l:=fun _=>([]:List Int)) (e:=D.int) au (fun _=>.nil) (fun _=>rfl) (fun _=>rfl)) rfl) (fun v=>bc _ v))) fun a30=>(ke cB cB (qL qI) (by decide))))) (fun b31=>(cm (nT (cD D.bl false) (he _)))) (fun b31=>(eU (hg _) (by(repeat' (first | exact trivial | refine And.intro rfl ?_))))))
theorem Qu{hQ:Int×List (List Nat×List Nat)}(hg:∀ c,post (.go c)=.go [some (.v (.d (aY aK))),some (.v (.d ((eL (aj D.int (eL (aj D.str D.str)))) ag))),some (.v (.d ((az (az (bx (eL D.int)))) bu))),some (.v (.d (D.str aP))),some (.v (.d ((az (bx (eL D.int))) bN))),none,none,none,none,none,none,none] σ)(he:∀ q,post (.ret q)=.ret (.val (.d (.bl q))) σ):Sg false R [some (.v (.d (aY aK))),some (.v (.d ((eL (aj D.int (eL (aj D.str D.str)))) ag))),some (.v (.d ((az (az (bx (eL D.int)))) bu))),some (.v (.d (D.str aP))),some (.v (.d ((az (bx (eL D.int))) bN))),none,none,none,some (.v (.d (D.int hQ.1))),some (.v (.d ((eL (aj D.str D.str)) hQ.2))),none,none] σ mW (z4 aK aP cU hQ) post:=by
 unfold z4
 exact(tP (b:=fun v=>v) (tB (b:=fun v=>v) (sv (CK (sv (fL (R':=R) (post:=(pD D.int _ _)) (sv (ao (a:=aK) (e:=aY) rfl)) (iz rfl) (ah (sv (ao (a:=hQ.1) (e:=D.int) rfl)) (ah (sv (ao (a:=aP) (e:=D.str) rfl)) au)) (.d (.d .nil)) rfl (nC (aD:=aK) (aH:=hQ.1) (aC:=aP)) (fun _=>rfl))) (fun a36=>(sv (GC (dt (sn (eW (R':=R) (post:=(pN (oL D.str) _ _)) (ah (sv (CN (sn (er (ah (sv (ao (a:=hQ.2) (e:=(eL (aj D.str D.str))) rfl)) au) (HI dY)) (fun v=>oU _ v)) ij (sv (ao (a:=aP) (e:=D.str) rfl)) (sv (cD D.str (sS ""))))) au) (.d .nil) rfl (qH (bw:=((eX (gE [] hQ.2) aP).getD (sS "")))) (fun _=>rfl)) (fun v=>bc _ v)) fun a37=>au) fun z39=>(G7 dY)))) fun a36 a40=>(ke cB cB qI (by decide))))) (fun b41=>(cm (nT (cD D.bl false) (he _)))) (fun b41=>(eU (hg _) (by(repeat' (first | exact trivial | refine And.intro rfl ?_))))))
theorem Ql(hg:∀ c,post (.go c)=.go [some (.v (.d (aY aK))),some (.v (.d ((eL (aj D.int (eL (aj D.str D.str)))) ag))),some (.v (.d ((az (az (bx (eL D.int)))) bu))),some (.v (.d (D.str aP))),some (.v (.d ((az (bx (eL D.int))) bN))),none,none,none,none,none,none,none] σ)(he:∀ q,post (.ret q)=.ret (.val (.d (.bl q))) σ):Sg false R [some (.v (.d (aY aK))),some (.v (.d ((eL (aj D.int (eL (aj D.str D.str)))) ag))),some (.v (.d ((az (az (bx (eL D.int)))) bu))),some (.v (.d (D.str aP))),some (.v (.d ((az (bx (eL D.int))) bN))),some (.v (.d (D.str de))),none,none,none,none,none,none] σ nM (Bf aK aP bN cU de) post:=by
 unfold Bf
 exact(cn (fun dM=>[some (.v (.d (aY aK))),some (.v (.d ((eL (aj D.int (eL (aj D.str D.str)))) ag))),some (.v (.d ((az (az (bx (eL D.int)))) bu))),some (.v (.d (D.str aP))),some (.v (.d ((az (bx (eL D.int))) bN))),some (.v (.d (D.str de))),some (.v (.d ((bx (eL D.int)) dM))),none,none,none,none,none]) (e6 (CN (sv (ao (a:=bN) (e:=(az (bx (eL D.int)))) rfl)) ij (sv (ao (a:=de) (e:=D.str) rfl)) (sn (LG (e:=(eL D.int))) (fun v=>Mc _ v)))) (fun _=>rfl) fun dM=>(cn (fun eD=>[some (.v (.d (aY aK))),some (.v (.d ((eL (aj D.int (eL (aj D.str D.str)))) ag))),some (.v (.d ((az (az (bx (eL D.int)))) bu))),some (.v (.d (D.str aP))),some (.v (.d ((az (bx (eL D.int))) bN))),some (.v (.d (D.str de))),some (.v (.d ((bx (eL D.int)) dM))),some (.v (.d ((eL (aj D.int (eL D.int))) eD))),none,none,none,none]) (e6 (Fd (xo:=aY) (post:=(pD (eL (aj D.int (eL D.int))) _ _)) (ds:=[D.str aP,D.str de]) (sv (ao (a:=aK) (e:=aY) rfl)) (iz rfl) (ah (sv (ao (a:=aP) (e:=D.str) rfl)) (ah (sv (ao (a:=de) (e:=D.str) rfl)) au)) (.d (.d .nil)) rfl si (fun _=>rfl))) (fun _=>rfl) fun eD=>(tP (b:=fun v=>v) (tB (b:=fun v=>v) (sv (jl (sv (ao (a:=eD) (e:=(eL (aj D.int (eL D.int)))) rfl)) (sn (o8 (q:=[some (.v (.d (aY aK))),some (.v (.d ((eL (aj D.int (eL (aj D.str D.str)))) ag))),some (.v (.d ((az (az (bx (eL D.int)))) bu))),some (.v (.d (D.str aP))),some (.v (.d ((az (bx (eL D.int))) bN))),some (.v (.d (D.str de))),some (.v (.d ((bx (eL D.int)) dM))),some (.v (.d ((eL (aj D.int (eL D.int))) eD))),none,none,none,none]) (p2:=fun(dN:Int)=>[some (.v (.d (aY aK))),some (.v (.d ((eL (aj D.int (eL (aj D.str D.str)))) ag))),some (.v (.d ((az (az (bx (eL D.int)))) bu))),some (.v (.d (D.str aP))),some (.v (.d ((az (bx (eL D.int))) bN))),some (.v (.d (D.str de))),some (.v (.d ((bx (eL D.int)) dM))),some (.v (.d ((eL (aj D.int (eL D.int))) eD))),some (.v (.d (D.int dN))),none,none,none]) (p3:=fun(dN:Int)=>[some (.v (.d (aY aK))),some (.v (.d ((eL (aj D.int (eL (aj D.str D.str)))) ag))),some (.v (.d ((az (az (bx (eL D.int)))) bu))),some (.v (.d (D.str aP))),some (.v (.d ((az (bx (eL D.int))) bN))),some (.v (.d (D.str de))),some (.v (.d ((bx (eL D.int)) dM))),some (.v (.d ((eL (aj D.int (eL D.int))) eD))),some (.v (.d (D.int dN))),none,none,none]) (mt:=(fun(dN:Int)=>M.ok true)) (me:=(fun(dN:Int)=>((mm dM dN).bind fun a20=>(M.ok ()).bind fun w21=>M.ok (a20,w21)).bind fun z22=>M.ok (dN,z22.1))) (e:=(aj D.int (eL D.int))) (gU (sn (er (ah (sv (ao (a:=dM) (e:=(bx (eL D.int))) rfl)) au) (HS Gz)) (fun v=>bc _ v))) rfl (fun(dN:Int)=>⟨bb,kI,(oW (Ev.map (fun(z22:List Int×Unit)=>(dN,z22.1)) (pD (aj D.int (eL D.int)) _ _) (ja (ah (sv (ao (a:=dN) (e:=D.int) rfl)) (dt (sv (bg (sv (ao (a:=dM) (e:=(bx (eL D.int))) rfl)) (sv (ao (a:=dN) (e:=D.int) rfl)) (Mo Gz))) fun a20=>au)) (fun _=>(.d (.d .nil))) (fun _=>rfl) (fun _=>rfl)) fun _=>rfl))⟩) (fun _=>by(repeat' (first | exact trivial | refine And.intro rfl ?_))) (fun _=>by(repeat' (first | exact trivial | refine And.intro rfl ?_)))) (fun v=>bc _ v)) fun a24=>(ke cB cB (qL (Pq qI (qL qI))) (by decide))))) (fun b25=>(cm (nT (cD D.bl false) (he _)))) (fun b25=>(BA (P:=fun(c26:Unit)=>[some (.v (.d (aY aK))),some (.v (.d ((eL (aj D.int (eL (aj D.str D.str)))) ag))),some (.v (.d ((az (az (bx (eL D.int)))) bu))),some (.v (.d (D.str aP))),some (.v (.d ((az (bx (eL D.int))) bN))),some (.v (.d (D.str de))),some (.v (.d ((bx (eL D.int)) dM))),some (.v (.d ((eL (aj D.int (eL D.int))) eD))),none,none,none,none]) (S:=fun(c26:Unit)=>σ) (rv:=fun q=>.val (.d (D.bl q))) (Sr:=fun q=>σ) (ι:=Lp.ret) (c0:=()) (mb:=BM) (gU (sv (ao (a:=eD) (e:=(eL (aj D.int (eL D.int)))) rfl))) (by(repeat' (first | exact trivial | refine And.intro rfl ?_))) rfl (fun c26 eC=>(e8 rfl rfl (aW bb (aW bb du)))) (fun c26 eC=>PV (fun _=>rfl) (fun _=>rfl)) (fun _=>he _) fun r32=>(eU (hg _) (by(repeat' (first | exact trivial | refine And.intro rfl ?_)))))))))
theorem QE(hg:∀ c,post (.go c)=.go [some (.v (.d (aY aK))),some (.v (.d ((eL (aj D.int (eL (aj D.str D.str)))) ag))),some (.v (.d ((az (az (bx (eL D.int)))) bu))),none,none,none,none,none,none,none,none,none] σ)(he:∀ q,post (.ret q)=.ret (.val (.d (.bl q))) σ):Sg false R [some (.v (.d (aY aK))),some (.v (.d ((eL (aj D.int (eL (aj D.str D.str)))) ag))),some (.v (.d ((az (az (bx (eL D.int)))) bu))),some (.v (.d (D.str aP))),none,none,none,none,none,none,none,none] σ nq (BS aK ag bu cU aP) post:=by
 unfold BS
 exact(cn (fun bN=>[some (.v (.d (aY aK))),some (.v (.d ((eL (aj D.int (eL (aj D.str D.str)))) ag))),some (.v (.d ((az (az (bx (eL D.int)))) bu))),some (.v (.d (D.str aP))),some (.v (.d ((az (bx (eL D.int))) bN))),none,none,none,none,none,none,none]) (e6 (CN (sv (ao (a:=bu) (e:=(az (az (bx (eL D.int))))) rfl)) ij (sv (ao (a:=aP) (e:=D.str) rfl)) (sn (qv (e:=(bx (eL D.int)))) (fun v=>oU _ v)))) (fun _=>rfl) fun bN=>(tP (b:=fun v=>v) (tB (b:=fun v=>v) (sv (CK (sn (fL (R':=R) (post:=(pN (oL D.str) _ _)) (sv (ao (a:=aK) (e:=aY) rfl)) (iz rfl) (ah (sv (ao (a:=aP) (e:=D.str) rfl)) au) (.d .nil) rfl (j6 (aD:=aK) (aC:=aP)) (fun _=>rfl)) (fun v=>bc _ v)) (fun a10=>(sn (er (ah (sv (ao (a:=bN) (e:=(az (bx (eL D.int)))) rfl)) au) (km ij)) (fun v=>bc _ v))) fun a10 a11=>(ke cB cB (qL qS) (by decide))))) (fun b12=>(cm (nT (cD D.bl false) (he _)))) (fun b12=>(zR (P:=fun(c15:Unit)=>[some (.v (.d (aY aK))),some (.v (.d ((eL (aj D.int (eL (aj D.str D.str)))) ag))),some (.v (.d ((az (az (bx (eL D.int)))) bu))),some (.v (.d (D.str aP))),some (.v (.d ((az (bx (eL D.int))) bN))),none,none,none,none,none,none,none]) (S:=fun(c15:Unit)=>σ) (rv:=fun q=>.val (.d (D.bl q))) (Sr:=fun q=>σ) (ι:=Lp.ret) (lA:=(fun(a14:List (List Nat))=>a14)) (c0:=fun(a14:List (List Nat))=>()) (mb:=(Bf aK aP bN)) (gU (sn (mq (sn (er (ah (sv (ao (a:=bN) (e:=(az (bx (eL D.int)))) rfl)) au) (km ij)) (fun v=>bc _ v)) (fun a13=>(sn (Ev.cI (post2:=(pN (oL D.str) _ _)) (cq (l:=fun _=>([(sS "nothing")]:List (List Nat))) (e:=D.str) (ah (sv (cD D.str (sS "nothing"))) au) (fun _=>(.d .nil)) (fun _=>rfl) (fun _=>rfl)) rfl) (fun v=>bc _ v))) fun a13=>(add_l dY dY)) (fun v=>bc _ v))) (fun _=>by(repeat' (first | exact trivial | refine And.intro rfl ?_))) (fun _=>rfl) (fun c15 de=>bb) (fun c15 de=>Ql (fun _=>rfl) (fun _=>rfl)) (fun _=>he _) fun r33=>(BA (P:=fun(c34:Unit)=>[some (.v (.d (aY aK))),some (.v (.d ((eL (aj D.int (eL (aj D.str D.str)))) ag))),some (.v (.d ((az (az (bx (eL D.int)))) bu))),some (.v (.d (D.str aP))),some (.v (.d ((az (bx (eL D.int))) bN))),none,none,none,none,none,none,none]) (S:=fun(c34:Unit)=>σ) (rv:=fun q=>.val (.d (D.bl q))) (Sr:=fun q=>σ) (ι:=Lp.ret) (c0:=()) (mb:=(z4 aK aP)) (gU (sv (ao (a:=ag) (e:=(eL (aj D.int (eL (aj D.str D.str))))) rfl))) (by(repeat' (first | exact trivial | refine And.intro rfl ?_))) rfl (fun c34 hQ=>(e8 rfl rfl (aW bb (aW bb du)))) (fun c34 hQ=>Qu (fun _=>rfl) (fun _=>rfl)) (fun _=>he _) fun r42=>(eU (hg _) (by(repeat' (first | exact trivial | refine And.intro rfl ?_)))))))))
end
theorem zN{R:List Ob→Prop}{σ:List Ob}{aK:d9}{ag:List (Int×(List (List Nat×List Nat)))}:dW R dI [.d (aY aK),.d ((eL (aj D.int (eL (aj D.str D.str)))) ag)] σ (iD aK ag) (fun v=>(.val (.d (D.bl v)),σ)):=(fH (cn (fun bu=>[some (.v (.d (aY aK))),some (.v (.d ((eL (aj D.int (eL (aj D.str D.str)))) ag))),some (.v (.d ((az (az (bx (eL D.int)))) bu))),none,none,none,none,none,none,none,none,none]) (e6 (F0 (post:=(pD (az (az (bx (eL D.int)))) _ _)) (ds:=[(eL (aj D.int (eL (aj D.str D.str)))) ag]) (ah (sv (ao (a:=ag) (e:=(eL (aj D.int (eL (aj D.str D.str))))) rfl)) au) (.d .nil) rfl y0 (fun _=>rfl))) (fun _=>rfl) fun bu=>(tP (b:=fun v=>v) (tB (b:=fun v=>v) (sv (CK (sn (fL (R':=R) (post:=(pN (oL D.str) _ _)) (sv (ao (a:=aK) (e:=aY) rfl)) (iz rfl) au .nil rfl (nA (aD:=aK)) (fun _=>rfl)) (fun v=>bc _ v)) (fun a2=>(sn (er (ah (sv (ao (a:=bu) (e:=(az (az (bx (eL D.int))))) rfl)) au) (km ij)) (fun v=>bc _ v))) fun a2 a3=>(ke cB cB (qL qS) (by decide))))) (fun b4=>(cm (nT (cD D.bl false) rfl))) (fun b4=>(zR (P:=fun(c7:Unit)=>[some (.v (.d (aY aK))),some (.v (.d ((eL (aj D.int (eL (aj D.str D.str)))) ag))),some (.v (.d ((az (az (bx (eL D.int)))) bu))),none,none,none,none,none,none,none,none,none]) (S:=fun(c7:Unit)=>σ) (rv:=fun q=>.val (.d (D.bl q))) (Sr:=fun q=>σ) (ι:=(fun q=>q)) (lA:=(fun(a6:List (List Nat))=>a6)) (c0:=fun(a6:List (List Nat))=>()) (mb:=(BS aK ag bu)) (gU (sn (mq (sn (er (ah (sv (ao (a:=bu) (e:=(az (az (bx (eL D.int))))) rfl)) au) (km ij)) (fun v=>bc _ v)) (fun a5=>(sn (Ev.cI (post2:=(pN (oL D.str) _ _)) (cq (l:=fun _=>([(sS "nothing")]:List (List Nat))) (e:=D.str) (ah (sv (cD D.str (sS "nothing"))) au) (fun _=>(.d .nil)) (fun _=>rfl) (fun _=>rfl)) rfl) (fun v=>bc _ v))) fun a5=>(add_l dY dY)) (fun v=>bc _ v))) (fun _=>by(repeat' (first | exact trivial | refine And.intro rfl ?_))) (fun _=>rfl) (fun c7 aP=>bb) (fun c7 aP=>QE (fun _=>rfl) (fun _=>rfl)) (fun _=>rfl) fun r43=>(cm (nT (cD D.bl true) rfl)))))))
end K06
namespace K06
open PySem L2 PyProof.Rows Vw
theorem HZ{s0 s1 s2 s3 s4:Option Sl}(sg:Slots)(τ:List Ob)(p:Int×List Int)(j:Nat)(hs:∃ a b,sg=[s0,s1,s2,s3,s4,a,b])(hp:p.2.length<sizeLine)(hj:τ[j]? =some (oL D.int p.2)):∃ sg2 sg3,dA (.tp [(.nm 5),(.nm 6)]) (.tp [.d (.int p.1),.r j]) ⟨sg,τ⟩=some ⟨sg2,τ⟩∧f7 ⟨sg2,τ⟩=.ok .nx ⟨sg3,τ.set j (oL D.int (p.2++[99]))⟩∧∃ a b,sg3=[s0,s1,s2,s3,s4,a,b]:=by
 obtain⟨a,b,rfl⟩:=hs
 refine⟨[s0,s1,s2,s3,s4,some (.v (.d (.int p.1))),some (.v (.r j))],[s0,s1,s2,s3,s4,some (.v (.d (.int p.1))),some (.v (.r j))],rfl,?_,_,_,rfl⟩
 unfold f7
 simp[bAppend,cf,lv,hj]
 rw[if_pos hp]
 simp[oL]
theorem Aq{t:Tg}{f:State→Res RV}{b:State→Res Fl}{s s1:State}{n:Nat}{l:List Val}(h:ev f s=.ok (.val (.r n)) s1)(hn:s1.st[n]? =some (.lst l)):jJ t f b s=b7 n l t b l s1:=by
 unfold jJ
 rw[h,Res.ae,J8]
 dsimp only
 rw[hn]
abbrev PS(pc:d9)(ms:bj)(s2 s3 s4 s5 s6:Option Sl):Pt:=[sd (aY pc),sd (dk ms),s2,s3,s4,s5,s6]
open Classical in
noncomputable def AE(pc:d9)(f w:List Nat)(σ:List Ob):M (List Ob):=(nox (aJ (gk pc f w))).bind fun v=>if ∀ p∈v,p.2.length<sizeLine then .ok (σ++(v.map fun p=>oL D.int (p.2++[99]))++[.lst []])else .bad
section
variable{R:List Ob→Prop}{pc:d9}{ms:bj}
theorem Il{f w:List Nat}{σ:List Ob}{v:List (Int×List Int)}(hv:∀ p∈v,p.2.length<sizeLine):Ev R (PS pc ms (sd (.str f)) (sd (.str w)) (some (.v (.r (σ++cells D.int v).length))) none none) (σ++cells D.int v++[.lst (bO σ.length v)]) (jJ (.tp [(.nm 5),(.nm 6)]) (aa 4) f7) (.ok ()) (fun _=>(.nx,PS pc ms (sd (.str f)) (sd (.str w)) (some (.v (.r (σ++cells D.int v).length))) none none,σ++(v.map fun p=>oL D.int (p.2++[99]))++[.lst (bO σ.length v)])):=by
 intro sg hf
 have hl:sg.length=7:=hf.1.symm
 obtain⟨s0,s1,s2,s3,s4,s5,s6,rfl⟩:∃ a b c d e x y,sg=[a,b,c,d,e,x,y]:=by
  match sg,hl with
  | [a,b,c,d,e,x,y],_=>exact⟨a,b,c,d,e,x,y,rfl⟩
 have h4:s4=some (.v (.r (σ++cells D.int v).length)):=by
  have:=hf.2 4 _ rfl
  simpa using this
 have hN:(σ++cells D.int v++[Ob.lst (bO σ.length v)])[(σ++cells D.int v).length]? =some (.lst (bO σ.length v)):=by
  rw[List.getElem?_append_right (Nat.le_refl _),Nat.sub_self]
  rfl
 obtain⟨sg',e1,a,b,rfl⟩:=tH (N:=(σ++cells D.int v).length) (L:=bO σ.length v) (t:=.tp [(.nm 5),(.nm 6)]) (b:=f7) (e:=D.int) (K:=fun sg=>∃ a b,sg=[s0,s1,s2,s3,s4,a,b]) (P:=fun p=>p.2.length<sizeLine) (F:=fun p=>p.2++[99]) (fun sg τ p j hs hp hj=>HZ sg τ p j hs hp hj) σ [.lst (bO σ.length v)] v [] [s0,s1,s2,s3,s4,s5,s6] ⟨_,_,rfl⟩ hv ⟨0,by rw[List.length_append,jq];simp,rfl⟩
 refine⟨[s0,s1,s2,s3,s4,a,b],?_,⟨rfl,fun i s h=>?_⟩⟩
 ·have e0:ev (aa 4) ⟨[s0,s1,s2,s3,s4,s5,s6],σ++cells D.int v++[.lst (bO σ.length v)]⟩=.ok (.val (.r (σ++cells D.int v).length)) ⟨[s0,s1,s2,s3,s4,s5,s6],σ++cells D.int v++[.lst (bO σ.length v)]⟩:=by simp[h4]
  rw[Aq e0 hN]
  rw[List.append_nil,List.length_nil,Nat.add_zero]at e1
  exact e1
 ·match i,h with
  | 0,h=>exact hf.2 0 s h
  | 1,h=>exact hf.2 1 s h
  | 2,h=>exact hf.2 2 s h
  | 3,h=>exact hf.2 3 s h
  | 4,h=>exact hf.2 4 s h
  | 5,h=>cases h
  | 6,h=>cases h
  | i+7,h=>cases h
theorem zy{σ:List Ob}{p:Pt}{n i:Nat}{L:List Val}(h:p[i]? =some (some (.v (.r n))))(hn:σ[n]? =some (.lst L)):Ev R p σ (dw (fX "list" (aa i) (aq []) n8 cf)) (.ok ()) (fun _=>(.nx,p,σ.set n (.lst []))):=fun sg hf=>by
 have g:=hf.2 i _ h
 refine⟨sg,?_,hf⟩
 simp[n8,cf,lv,hn,g]
theorem Kg{f:List Nat}(σ:List Ob)(w:List Nat):Sg false R (PS pc ms (sd (.str f)) (sd (.str w)) none none none) σ nB (AE pc f w σ) (fun σ'=>.go (PS pc ms (sd (.str f)) none none none none) σ'):=by
 have h1:Ev R (PS pc ms (sd (.str f)) (sd (.str w)) none none none) σ (gS (cc bF "Piece" "postings" 3 (aa 0) (aq [(aa 2),(aa 3)]) aU)) (nox (aJ (gk pc f w))) (fun v=>(.val (.r (σ++cells D.int v).length),PS pc ms (sd (.str f)) (sd (.str w)) none none none,σ++cells D.int v++[.lst (bO σ.length v)])):=
  by
   have h:=fL (R':=R) (R:=R) (p:=PS pc ms (sd (.str f)) (sd (.str w)) none none none) (σ:=σ) (c:="Piece") (m:="postings") (k:=3) (fo:=aa 0) (fs:=[(aa 2),(aa 3)]) (g:=aU) (post:=fun v=>(.new (.lst (bO σ.length v)),PS pc ms (sd (.str f)) (sd (.str w)) none none none,σ++cells D.int v)) (sv (ao (a:=pc) (e:=aY) (i:=0) rfl)) (iz rfl) (ah (sv (ao (a:=f) (e:=D.str) (i:=2) rfl)) (ah (sv (ao (a:=w) (e:=D.str) (i:=3) rfl)) au)) (.d (.d .nil)) rfl (i4 (R:=R) (aD:=pc) (aC:=f) (fK:=w)) (fun _=>rfl)
   rw[show nox (nox (aJ (gk pc f w)))=nox (aJ (gk pc f w))from by cases aJ (gk pc f w)<;> rfl]at h
   exact Kd h (fun v=>fun z=>by cases z)
 unfold AE
 have hc:Ev R (PS pc ms (sd (.str f)) (sd (.str w)) none none none) σ (aR 4 (gS (cc bF "Piece" "postings" 3 (aa 0) (aq [(aa 2),(aa 3)]) aU))) (nox (aJ (gk pc f w))) (fun v=>(.nx,PS pc ms (sd (.str f)) (sd (.str w)) (some (.v (.r (σ++cells D.int v).length))) none none,σ++cells D.int v++[.lst (bO σ.length v)])):=e6 (x:=fun v=>.r (σ++cells D.int v).length) (P:=fun _=>PS pc ms (sd (.str f)) (sd (.str w)) none none none) (S:=fun v=>σ++cells D.int v++[.lst (bO σ.length v)]) h1
 refine bQ (fun v=>PS pc ms (sd (.str f)) (sd (.str w)) (some (.v (.r (σ++cells D.int v).length))) none none) (fun v=>σ++cells D.int v++[.lst (bO σ.length v)]) hc (fun _=>rfl) (fun _=>rfl) fun v=>?_
 by_cases hv:∀ p∈v,p.2.length<sizeLine
 case neg=>rw[if_neg hv];exact fun sg hf=>trivial
 rw[if_pos hv]
 refine fB (PS pc ms (sd (.str f)) (sd (.str w)) (some (.v (.r (σ++cells D.int v).length))) none none) (σ++(v.map fun p=>oL D.int (p.2++[99]))++[.lst (bO σ.length v)]) (Il hv) rfl rfl ?_
 have hlen:(σ++cells D.int v).length=(σ++(v.map fun p=>oL D.int (p.2++[99]))).length:=by simp[cells]
 have hn:(σ++(v.map fun p=>oL D.int (p.2++[99]))++[Ob.lst (bO σ.length v)])[(σ++cells D.int v).length]? =some (.lst (bO σ.length v)):=by
  rw[hlen,List.getElem?_append_right (Nat.le_refl _),Nat.sub_self]
  rfl
 have hset:(σ++(v.map fun p=>oL D.int (p.2++[99]))++[Ob.lst (bO σ.length v)]).set (σ++cells D.int v).length (.lst [])=σ++(v.map fun p=>oL D.int (p.2++[99]))++[.lst []]:=by
  rw[hlen,List.set_append,if_neg (by omega),Nat.sub_self]
  rfl
 refine fB (PS pc ms (sd (.str f)) (sd (.str w)) (some (.v (.r (σ++cells D.int v).length))) none none) (σ++(v.map fun p=>oL D.int (p.2++[99]))++[.lst []]) (zy (i:=4) (n:=(σ++cells D.int v).length) rfl hn) rfl hset ?_
 exact eU rfl (by repeat' (first | exact trivial | refine And.intro rfl ?_))
noncomputable def zV{T:Type}(e:T→D)(x:T)(m:M (List T))(σ:List Ob):M (List Ob):=m.bind fun l=>(gx l x).bind fun l'=>.ok (σ++[oL e l'])
theorem CZ{T:Type}{p:Pt}{e:T→D}{x:T}{m:M (List T)}{σ:List Ob}{f:State→Res RV}(h:Ev R p σ f m (fun v=>(.new (oL e v),p,σ))):Ev R p σ (dw (fX "list" (gS f) (aq [(fD (e x))]) bAppend cf)) (zV e x m σ) (fun v=>(.nx,p,v)):=by
 have h1:=Kd h (fun v=>Ng v)
 refine mY (r:=fun _=>.val (.d .non)) (P:=fun _=>p) (S:=fun v=>v) ?_
 unfold zV
 intro sg hf
 have h2:=h1 sg hf
 cases m with
 | bad=>trivial
 | exc x=>obtain⟨s,e1,r⟩:=h2;exact⟨s,by rw[Dk,show ev (gS f) ⟨sg,σ⟩=_ from by rw[nS,e1]];rfl,r⟩
 | ok l=>
  obtain⟨sg',e1,hf'⟩:=h2
  rw[M.ae]
  unfold gx
  by_cases hl:l.length<sizeLine
  case neg=>rw[decide_eq_false hl];trivial
  rw[decide_eq_true hl,i2,M.ae,M.ae]
  refine⟨sg',?_,hf'⟩
  have ee:ev (gS f) ⟨sg,σ⟩=.ok (.val (.r σ.length)) ⟨sg',σ++[oL e l]⟩:=by rw[nS,e1];rfl
  rw[Dk,ee,Res.ae]
  have hg:(σ++[oL e l])[σ.length]? =some (oL e l):=by rw[List.getElem?_append_right (Nat.le_refl _),Nat.sub_self];rfl
  have ht:cf ⟨sg',σ++[oL e l]⟩ (.val (.r σ.length))=true:=by simp[cf,lv]
  rw[ht,if_pos rfl]
  show bAppend (.val (.r σ.length)) [.val (.d (e x))] ⟨sg',σ++[oL e l]⟩=_
  unfold bAppend
  dsimp only
  rw[show bL (RV.val (Val.d (e x))) ⟨sg',σ++[oL e l]⟩=.ok (.d (e x)) ⟨sg',σ++[oL e l]⟩from rfl,Res.ae,yi]
  rw[show(State.mk sg' (σ++[oL e l])).st[σ.length]? =some (oL e l)from hg]
  dsimp only
  rw[if_pos (by rw[List.length_map];exact hl),MJ]
  rw[show(σ++[oL e l]).set σ.length (.lst (l.map (fun x=>Val.d (e x))++[Val.d (e x)]))=σ++[oL e (l++[x])] by rw[List.set_append,if_neg (by omega),Nat.sub_self];simp[oL]]
noncomputable def C6(pc:d9)(σ:List Ob)(f:List Nat):M (List Ob):=(zV D.str (sS "odd") (nox (bB pc f)) σ).bind fun σ1=>((nox (bB pc f)).bind fun ws=>foldM (fun σ w=>AE pc f w σ) σ1 ws).bind fun c=>.ok c
theorem GD{f:List Nat}{p:Pt}{σ:List Ob}(h0:p[0]? =some (sd (aY pc)))(h2:p[2]? =some (sd (.str f))):Ev R p σ (cc bF "Piece" "words" 2 (aa 0) (aq [(aa 2)]) cj) (nox (bB pc f)) (fun v=>(.new (oL D.str v),p,σ)):=
 fL (R':=R) (post:=fun v=>(.new (oL D.str v),p,σ)) (sv (ao (a:=pc) (e:=aY) (i:=0) h0)) (iz rfl) (ah (sv (ao (a:=f) (e:=D.str) (i:=2) h2)) au) (.d .nil) rfl (j6 (R:=R) (aD:=pc) (aC:=f)) (fun _=>rfl)
theorem Gu{p:Pt}{σ:List Ob}(h0:p[0]? =some (sd (aY pc))):Ev R p σ (cc bF "Piece" "fields" 1 (aa 0) (aq []) eF) (nox (bT pc)) (fun v=>(.new (oL D.str v),p,σ)):=
 fL (R':=R) (post:=fun v=>(.new (oL D.str v),p,σ)) (sv (ao (a:=pc) (e:=aY) (i:=0) h0)) (iz rfl) au .nil rfl (nA (R:=R) (aD:=pc)) (fun _=>rfl)
theorem GQ{p:Pt}{σ:List Ob}{i:Nat}(h0:p[i]? =some (sd (aY pc))):Ev R p σ (cc bF "Piece" "makes" 1 (aa i) (aq []) cM) (nox (cg pc)) (fun v=>(.new (oL D.int v),p,σ)):=
 fL (R':=R) (post:=fun v=>(.new (oL D.int v),p,σ)) (sv (ao (a:=pc) (e:=aY) (i:=i) h0)) (iz rfl) au .nil rfl (vR (R:=R) (aD:=pc)) (fun _=>rfl)
theorem J5(σ:List Ob)(f:List Nat):Sg false R (PS pc ms (sd (.str f)) none none none none) σ mV (C6 pc σ f) (fun σ'=>.go (PS pc ms none none none none none) σ'):=by
 refine bQ (fun _=>PS pc ms (sd (.str f)) none none none none) (fun v=>v) (CZ (p:=PS pc ms (sd (.str f)) none none none none) (e:=D.str) (x:=sS "odd") (GD rfl rfl)) (fun _=>rfl) (fun _=>rfl) fun σ1=>?_
 refine bQ (fun _=>PS pc ms (sd (.str f)) none none none none) (fun v=>v) (jE (P:=fun _=>PS pc ms (sd (.str f)) none none none none) (S:=fun c:List Ob=>c) (lA:=fun l=>l) (c0:=fun _=>σ1) (p2:=fun _ w=>PS pc ms (sd (.str f)) (sd (.str w)) none none none) (gU (sn (GD rfl rfl) (fun v=>bc _ v))) (fun _=>by repeat' (first | exact trivial | refine And.intro rfl ?_)) (fun _=>rfl) (fun _ _=>bb) (fun c w=>Kg c w)) (fun _=>rfl) (fun _=>rfl) fun c=>?_
 exact eU rfl (by repeat' (first | exact trivial | refine And.intro rfl ?_))
noncomputable def Ap(pc:d9):M (List Ob):=(zV D.int (7:Int) (nox (cg pc)) []).bind fun σ1=>(zV D.str (sS "odd") (nox (bT pc)) σ1).bind fun σ2=>((nox (bT pc)).bind fun l=>foldM (C6 pc) σ2 l).bind fun c=>.ok c
theorem yK:dW R fC [.d (aY pc),.d (dk ms)] [] (Ap pc) (fun σ=>(.val (.d .non),σ)):=by
 refine p7 (w:=false) (P:=fun _=>PS pc ms none none none none none) ?_ (fun _=>rfl)
 refine bQ (fun _=>PS pc ms none none none none none) (fun v=>v) (CZ (p:=PS pc ms none none none none none) (e:=D.int) (x:=(7:Int)) (GQ rfl)) (fun _=>rfl) (fun _=>rfl) fun σ1=>?_
 refine bQ (fun _=>PS pc ms none none none none none) (fun v=>v) (CZ (p:=PS pc ms none none none none none) (e:=D.str) (x:=sS "odd") (Gu rfl)) (fun _=>rfl) (fun _=>rfl) fun σ2=>?_
 refine bQ (fun _=>PS pc ms none none none none none) (fun v=>v) (jE (P:=fun _=>PS pc ms none none none none none) (S:=fun c:List Ob=>c) (lA:=fun l=>l) (c0:=fun _=>σ2) (p2:=fun _ f=>PS pc ms (sd (.str f)) none none none none) (gU (sn (Gu rfl) (fun v=>bc _ v))) (fun _=>by repeat' (first | exact trivial | refine And.intro rfl ?_)) (fun _=>rfl) (fun _ _=>bb) (fun c f=>J5 c f)) (fun _=>rfl) (fun _=>rfl) fun c=>?_
 exact gu (p':=PS pc ms none none none none none) rfl (by repeat' (first | exact trivial | refine And.intro rfl ?_))
noncomputable def gv(pc:d9):M Unit:=(Ap pc).bind fun _=>.ok ()
theorem yZ:Lc fC [aY pc,dk ms] (gv pc) (fun _=>.val (.d .non)):=by
 have h:=yK (R:=fun _=>True) (pc:=pc) (ms:=ms)
 unfold gv
 cases e:Ap pc with
 | ok σ=>rw[e]at h;exact⟨⟨_,h⟩,trivial⟩
 | exc x=>rw[e]at h;obtain⟨s,e1,_⟩:=h;exact⟨s,e1⟩
 | bad=>trivial
end
end K06
namespace K06
open PySem L2 PyProof.Rows Vw
abbrev RT:List Ob→Prop:=fun _=>True
abbrev dg:List Nat×List Nat→D:=aj D.str D.str
abbrev PL(ns:List Int)(ms:bj)(s2 s3 s4 s5:Option Sl):Pt:=[sd (eL D.int ns),sd (dk ms),s2,s3,s4,s5]
def stH(ms:bj):List Ob:=cells dg ms++[.lst (bO 0 ms)]
theorem zI(ms:bj):(stH ms)[ms.length]? =some (.lst (bO 0 ms)):=by
 unfold stH
 rw[List.getElem?_append_right (by rw[jq];exact Nat.le_refl _),jq,Nat.sub_self]
 rfl
theorem Am(ms:bj){i:Nat}(h:i<ms.length):(stH ms)[i]? =ms[i]?.map fun p=>oL dg p.2:=by
 unfold stH cells
 rw[List.getElem?_append_left (by rw[List.length_map];exact h),List.getElem?_map]
theorem six{sg:Slots}(h:sg.length=6):∃ a b c d e f,sg=[a,b,c,d,e,f]:=by
 match sg,h with
 | [a,b,c,d,e,f],_=>exact⟨a,b,c,d,e,f,rfl⟩
theorem Io{s0 s1 s2 s3:Option Sl}(sg:Slots)(τ:List Ob)(p:Int×List (List Nat×List Nat))(h:sg=[s0,s1,s2,s3,none,none]):∃ sg2,dA (.tp [(.nm 4),(.nm 5)]) (.d (aj D.int (eL dg) p)) (bh [4,5] ⟨sg,τ⟩)=some ⟨sg2,τ⟩∧jg ⟨sg2,τ⟩=.ok (.val (.tp [.d (.int p.1),.r τ.length])) ⟨sg2,τ++[oL dg p.2]⟩∧cY sg2 [4,5]=[s0,s1,s2,s3,none,none]:=by
 subst h
 refine⟨[s0,s1,s2,s3,some (.v (.d (.int p.1))),some (.v (.d (eL dg p.2)))],rfl,?_,rfl⟩
 unfold jg
 simp[lM,sq,qW]
 rw[if_pos (by rw[zL];decide)]
 simp[oL]
 rfl
theorem MT{ns:List Int}{ms:bj}(hl:ms.length<sizeLine):Ev RT [sd (eL D.int ns),some (.own (oL (aj D.int (eL dg)) ms)),none,none,none,none] [] Bc (.ok ()) (fun _=>(.nx,PL ns ms (some (.v (.r ms.length))) none none none,stH ms)):=by
 intro sg hf
 have hs:Ev RT [sd (eL D.int ns),some (.own (oL (aj D.int (eL dg)) ms)),none,none,none,none] [] (sD (aa 1) itemsOf) (.ok ms) (pS (fun x=>.d (aj D.int (eL dg) x)) (PL ns ms none none none none) []):=Mj (i:=1) rfl
 obtain⟨sg1,e1,hf1⟩:=hs sg hf
 obtain⟨s0,s1,s2,s3,s4,s5,rfl⟩:=six hf1.1.symm
 obtain⟨sg2,e2,hk⟩:=Ay (K:=fun sg=>sg=[s0,s1,s2,s3,none,none]) (fun sg τ p h=>Io sg τ p h) [] ms [] [s0,s1,s2,s3,none,none] rfl (by simpa using hl)
 refine⟨sg2.set 2 (some (.v (.r ms.length))),?_,?_⟩
 ·show aR 2 (gS (fq [4,5] (.tp [(.nm 4),(.nm 5)]) (sD (aa 1) itemsOf) bZ jg)) ⟨sg,[]⟩=_
  have e3:fq [4,5] (.tp [(.nm 4),(.nm 5)]) (sD (aa 1) itemsOf) bZ jg ⟨sg,[]⟩=.ok (.new (.lst (bO 0 ms))) ⟨sg2,cells dg ms⟩:=by
   unfold fq
   rw[e1,Res.ae]
   show(j2 [4,5] (.tp [(.nm 4),(.nm 5)]) bZ jg (ms.map fun x=>.d (aj D.int (eL dg) x)) [] ⟨[s0,s1,s2,s3,none,none],[]⟩).bind pF=_
   have e2:j2 [4,5] (.tp [(.nm 4),(.nm 5)]) bZ jg (ms.map fun x=>.d (aj D.int (eL dg) x)) [] ⟨[s0,s1,s2,s3,none,none],[]⟩=.ok (bO 0 ms) ⟨sg2,cells dg ms⟩:=e2
   rw[e2,Res.ae]
   rfl
  rw[rR,F3,e3,Res.ae,MV,Res.ae]
  unfold qX
  rw[show(cells dg ms).length=ms.length from jq]
  rfl
 ·subst hk
  refine⟨rfl,fun i s h=>?_⟩
  match i,h with
  | 0,h=>exact hf1.2 0 s h
  | 1,h=>exact hf1.2 1 s h
  | 2,h=>exact h
  | 3,h=>cases h
  | 4,h=>cases h
  | 5,h=>cases h
  | i+6,h=>cases h
theorem EN{e:List Nat×List Nat→D}{st:List Ob}{N:Nat}:∀ (l:bj) (k:Nat),(∀ i,i<l.length→st[k+i]? =l[i]?.map fun p=>oL e p.2)→k+l.length≤N→ldI N st (bO k l)=some (l.map (aj D.int (eL e)))
 | [],k,_,_=>rfl
 | p::l,k,h,hN=>by
  simp only[List.length_cons]at hN
  have h0:st[k]? =some (oL e p.2):=by simpa using h 0 (by simp)
  have ih:=EN (N:=N) l (k+1) (fun i hi=>by
   have:=h (i+1) (by simpa using hi)
   rw[show k+1+i=k+(i+1) by omega,this];rfl) (by omega)
  have e1:Eg N st (.r k)=some (eL e p.2):=by
   unfold Eg
   dsimp only
   rw[if_neg (by omega),h0]
   show(toDs (p.2.map fun x=>Val.d (e x))).map D.lst=_
   rw[toDs_mapF]
   rfl
  have e2:tL N st [.d (.int p.1),.r k]=some [.int p.1,eL e p.2]:=by
   rw[tL,tL,e1]
   rfl
  rw[bO,Vw.ldI,e2,ih]
  rfl
theorem ou{T:Type}{e:T→D}(h:∀ x,cP (e x)=true):∀ l:List T,fh (l.map e)=true
 | []=>rfl
 | x::l=>by rw[List.map_cons,fh,h x,ou h l];rfl
theorem Kt(ms:bj):fh (ms.map (aj D.int (eL dg)))=true:=ou (fun z=>by
 have h:fh (z.2.map dg)=true:=ou (fun _=>rfl) _
 show(cP (.int z.1)&&(cP (.lst (z.2.map dg))&&true))=true
 rw[show cP (.lst (z.2.map dg))=fh (z.2.map dg)from rfl,h]
 rfl) ms
theorem L5{ns:List Int}{ms:bj}{pc:d9}(hi:mz ms=.ok pc)(ha:ms=[]∨Apart (dk ms) (aY pc)):Ev RT (PL ns ms (some (.v (.r ms.length))) none none none) (stH ms) Bi (.ok ()) (fun _=>(.nx,PL ns ms (some (.v (.r ms.length))) (sd (aY pc)) none none,stH ms)):=by
 intro sg hf
 have g2:sg[2]? =some (some (.v (.r ms.length))):=hf.2 2 _ rfl
 refine⟨sg.set 3 (some (.v (.d (aY pc)))),?_,hf.set 3 _⟩
 show aR 3 (uk 6 "Piece" 2 (aq [(aa 2)]) bY) ⟨sg,stH ms⟩=_
 have ee:aq [(aa 2)] ⟨sg,stH ms⟩=.ok [.val (.r ms.length)] ⟨sg,stH ms⟩:=by simp[g2]
 have e1:uk 6 "Piece" 2 (aq [(aa 2)]) bY ⟨sg,stH ms⟩=.ok (.val (.d (aY pc))) ⟨sg,stH ms⟩:=by
  unfold uk
  rw[ee,Res.ae,show aI [RV.val (Val.r ms.length)] ⟨sg,stH ms⟩=.ok [.r ms.length] ⟨sg,stH ms⟩from rfl,Res.ae]
  dsimp only
  rw[zI]
  cases ms with
  | nil=>
   dsimp only[bO]
   rw[if_pos rfl]
   have h:=Jr (R:=RT) (ag:=[]) trivial
   rw[hi]at h
   have h:bY [.r 1,.r 0] [.lst [],.ins "Piece" []]=.ok (.val (.d .non)) ⟨[],aT (i0 []) pc.1 pc.2.1 pc.2.2⟩:=h
   rw[h]
   unfold Hk
   dsimp only
   rw[if_pos (show(aT (i0 []) pc.1 pc.2.1 pc.2.2)[0]? =some (.lst [])from rfl)]
   rw[show bp (fun k=>decide (k≠0)) 6 (aT (i0 []) pc.1 pc.2.1 pc.2.2) (.r 1)=some (aY pc)from by rw[←J0];exact CV _ pc]
  | cons z r=>
   have hap:Apart (dk (z::r)) (aY pc):=ha.resolve_left (by simp)
   have hl:=EN (e:=dg) (st:=stH (z::r)) (N:=(z::r).length) (z::r) 0 (fun i hi=>by rw[Nat.zero_add];exact Am _ hi) (by simp)
   have h:=Jz (R:=RT) (ag:=z::r) trivial
   rw[hi]at h
   have h:bY [.r 0,.d (dk (z::r))] [.ins "Piece" []]=.ok (.val (.d .non)) ⟨[],bM pc.1 pc.2.1 pc.2.2⟩:=h
   show(match ldI (z::r).length (stH (z::r)) (bO 0 (z::r))with | some ds=>if 2=2∧fh ds=true then zX 6 (.lst ds) (bY [.r 0,.d (.lst ds)] [.ins "Piece" []]) ⟨sg,stH (z::r)⟩else .stuck | none=>.stuck)=_
   rw[hl]
   dsimp only
   rw[if_pos ⟨rfl,Kt (z::r)⟩]
   rw[show D.lst ((z::r).map (aj D.int (eL dg)))=dk (z::r)from rfl,h]
   unfold zX
   dsimp only
   rw[show mP 6 ⟨[],bM pc.1 pc.2.1 pc.2.2⟩ (.r 0)=some (aY pc)from DZ pc]
   dsimp only
   rw[if_pos hap]
 rw[rR,e1,Res.ae]
 rfl
theorem ER{e:List Nat×List Nat→D}{s:State}{n:Nat}:∀ (l:bj) (k:Nat),(∀ i,i<l.length→s.st[k+i]? =l[i]?.map fun p=>oL e p.2)→d0 (frz (n+3) s) (bO k l)=some (l.map (aj D.int (eL e)))
 | [],k,_=>rfl
 | p::l,k,h=>by
  have h0:s.st[k]? =some (oL e p.2):=by simpa using h 0 (by simp)
  have ih:=ER (n:=n) l (k+1) fun i hi=>by
   have:=h (i+1) (by simpa using hi)
   rw[show k+1+i=k+(i+1) by omega,this];rfl
  have e1:frz (n+2) s (.r k)=some (eL e p.2):=by
   show(match s.st[k]? with | some o=>wU (frz (n+1) s) o | none=>none)=_
   rw[h0]
   show(d0 (frz (n+1) s) (p.2.map fun x=>Val.d (e x))).map D.lst=_
   rw[vq (fun x=>rfl)]
   rfl
  have e2:frz (n+3) s (.tp [.d (.int p.1),.r k])=some (.tup [.int p.1,eL e p.2]):=by
   show(d0 (frz (n+2) s) [.d (.int p.1),.r k]).map D.tup=_
   rw[d0,d0,e1]
   rfl
  rw[bO,d0,e2,ih]
  rfl
theorem L9(ms:bj):eZ (dk ms)=true:=ji _ _ fun z _=>by
 have h:hE (z.2.map dg)=true:=ji _ _ fun _ _=>rfl
 show(eZ (.int z.1)&&(eZ (.lst (z.2.map dg))&&true))=true
 rw[show eZ (.lst (z.2.map dg))=hE (z.2.map dg)from rfl,h]
 rfl
theorem M7(ms:bj):gQ 6 (dk ms)=true:=kq _ _ _ fun z _=>by
 have h:gW 3 (z.2.map dg)=true:=kq _ _ _ fun _ _=>rfl
 show(gQ 4 (.int z.1)&&(gQ 4 (.lst (z.2.map dg))&&true))=true
 rw[show gQ 4 (.lst (z.2.map dg))=gW 3 (z.2.map dg)from rfl,h]
 rfl
section
variable{ns:List Int}{ms:bj}{pc:d9}{σ:List Ob}
theorem Kk:Ev RT (PL ns ms (some (.v (.r ms.length))) (sd (aY pc)) none none) (stH ms) (aw (aa 2) (aa 1) (oS 6 true)) (.ok false) (pD .bl (PL ns ms (some (.v (.r ms.length))) (sd (aY pc)) none none) (stH ms)):=fun sg hf=>by
 have g2:sg[2]? =some (some (.v (.r ms.length))):=hf.2 2 _ rfl
 have g1:sg[1]? =some (some (.v (.d (dk ms)))):=hf.2 1 _ rfl
 refine⟨sg,?_,hf⟩
 have e1:ev (aa 2) ⟨sg,stH ms⟩=.ok (.val (.r ms.length)) ⟨sg,stH ms⟩:=by simp[g2]
 have e2:ev (aa 1) ⟨sg,stH ms⟩=.ok (.val (.d (dk ms))) ⟨sg,stH ms⟩:=by simp[g1]
 show(ev (aa 2) ⟨sg,stH ms⟩).bind (fun a s=>(ev (aa 1) s).bind fun b s=>oS 6 true a b s)=_
 rw[e1,Res.ae,e2,Res.ae]
 have h1:frz 6 ⟨sg,stH ms⟩ (.r ms.length)=some (dk ms):=by
  show(match (stH ms)[ms.length]? with | some o=>wU (frz 5 ⟨sg,stH ms⟩) o | none=>none)=_
  rw[zI]
  show(d0 (frz 5 ⟨sg,stH ms⟩) (bO 0 ms)).map D.lst=_
  rw[ER (n:=2) (e:=dg) (s:=⟨sg,stH ms⟩) ms 0 fun i hi=>by rw[Nat.zero_add];exact Am ms hi]
  rfl
 obtain⟨q1,q2⟩:=FT (d:=dk ms) 6 (by decide) (L9 ms) (M7 ms)
 have h2:eqQ 6 ⟨sg,stH ms⟩ (.val (.r ms.length)) (.val (.d (dk ms)))=some true:=by
  unfold eqQ
  rw[show tW 6 ⟨sg,stH ms⟩ (.val (.r ms.length))=frz 6 ⟨sg,stH ms⟩ (.r ms.length)from rfl,h1,show tW 6 ⟨sg,stH ms⟩ (.val (.d (dk ms)))=some (dk ms)from rfl]
  dsimp only
  rw[if_pos q1,q2]
 unfold oS
 rw[h2]
 rfl
abbrev PM(ns:List Int)(ms:bj)(pc:d9):Pt:=PL ns ms (some (.v (.r ms.length))) (sd (aY pc)) none none
theorem Jb(hl:ms.length<16777216):Ev RT (PM ns ms pc) σ (fq [4,5] (.tp [(.nm 4),(.nm 5)]) (sD (aa 1) itemsOf) bZ (aa 4)) (.ok (ms.map (·.1))) (fun r=>(.new (oL D.int r),PM ns ms pc,σ)):=by
 have h:=o8 (R:=RT) (q:=PM ns ms pc) (τ:=σ) (ml:=M.ok ms) (E:=fun z=>.d (aj D.int (eL dg) z)) (p2:=fun z:Int×List (List Nat×List Nat)=>PL ns ms (some (.v (.r ms.length))) (sd (aY pc)) (sd (.int z.1)) (sd (eL dg z.2))) (p3:=fun z=>PL ns ms (some (.v (.r ms.length))) (sd (aY pc)) (sd (.int z.1)) (sd (eL dg z.2))) (mt:=fun _=>M.ok true) (me:=fun z=>M.ok z.1) (e:=D.int) (t:=.tp [(.nm 4),(.nm 5)]) (vs:=[4,5]) (fe:=aa 4) (ft:=bZ) (src:=sD (aa 1) itemsOf) (p:=PM ns ms pc) (σ:=σ) (gU (sv (ao (a:=ms) (e:=dk) (i:=1) rfl))) rfl (fun z=>⟨e8 rfl rfl (aW bb (aW bb du)),kI,oW (ao (a:=z.1) (e:=D.int) (i:=4) rfl)⟩) (fun _=>by repeat' (first | exact trivial | refine And.intro rfl ?_)) (fun _=>by repeat' (first | exact trivial | refine And.intro rfl ?_))
 rw[M.ae,nO (F:=fun z:Int×List (List Nat×List Nat)=>z.1) (fun _ _=>rfl) (fun _ _=>rfl) (by omega)]at h
 exact h
theorem GK(hl:ms.length<16777216)(hm:pc.1=ms.map (·.1)):Ev RT (PM ns ms pc) σ (aw (cc bF "Piece" "makes" 1 (aa 3) (aq []) cM) (fq [4,5] (.tp [(.nm 4),(.nm 5)]) (sD (aa 1) itemsOf) bZ (aa 4)) (aS .ne)) (.ok false) (pD .bl (PM ns ms pc) σ)∧Ev RT (PM ns ms pc) σ (aw (cc bF "Piece" "makes" 1 (aa 3) (aq []) cM) (fq [4,5] (.tp [(.nm 4),(.nm 5)]) (sD (aa 1) itemsOf) bZ (aa 4)) (aS .eq)) (.ok true) (pD .bl (PM ns ms pc) σ):=by
 have h1:Ev RT (PM ns ms pc) σ (cc bF "Piece" "makes" 1 (aa 3) (aq []) cM) (.ok (ms.map (·.1))) (fun v=>(.new (oL D.int v),PM ns ms pc,σ)):=by
  have h:=GQ (R:=RT) (pc:=pc) (p:=PM ns ms pc) (σ:=σ) (i:=3) rfl
  rw[show nox (cg pc)=.ok (ms.map (·.1))from by unfold cg;rw[hm];rfl]at h
  exact h
 have h2:=Jb (ns:=ns) (ms:=ms) (pc:=pc) (σ:=σ) hl
 have hb:∀ l:List Int,eqB l l=true:=fun l=>by unfold eqB;exact decide_eq_true rfl
 constructor
 ·have h:=bg (sn h1 (fun v=>bc _ v)) (sn h2 (fun v=>bc _ v)) (ke (R:=RT) (p:=PM ns ms pc) (σ:=σ) (a:=ms.map (·.1)) (b:=ms.map (·.1)) cB cB (qL qI) (by decide))
  rw[hb]at h
  exact h
 ·have h:=bg (sn h1 (fun v=>bc _ v)) (sn h2 (fun v=>bc _ v)) (Dh (R:=RT) (p:=PM ns ms pc) (σ:=σ) (a:=ms.map (·.1)) (b:=ms.map (·.1)) cB cB (qL qI) (by decide))
  rw[hb]at h
  exact h
theorem BR(ht:iD pc ms=.ok true):Ev RT (PM ns ms pc) σ (cw 2 (aq [(aa 3),(aa 1)]) dI) (.ok true) (pD .bl (PM ns ms pc) σ):=by
 have h:=eW (R':=RT) (R:=RT) (p:=PM ns ms pc) (σ:=σ) (k:=2) (fs:=[(aa 3),(aa 1)]) (g:=dI) (post:=pD D.bl (PM ns ms pc) σ) (ah (sv (ao (a:=pc) (e:=aY) (i:=3) rfl)) (ah (sv (ao (a:=ms) (e:=dk) (i:=1) rfl)) au)) (.d (.d .nil)) rfl (zN (R:=RT) (aK:=pc) (ag:=ms)) (fun _=>rfl)
 rw[ht]at h
 exact h
abbrev zz:List Nat×List Nat:=(sS "zzz",sS "odd one")
theorem Ir{s0 s1 s2 s3:Option Sl}(sg:Slots)(τ:List Ob)(p:Int×List (List Nat×List Nat))(j:Nat)(hs:∃ a b,sg=[s0,s1,s2,s3,a,b])(hp:p.2.length<sizeLine)(hj:τ[j]? =some (oL dg p.2)):∃ sg2 sg3,dA (.tp [(.nm 4),(.nm 5)]) (.tp [.d (.int p.1),.r j]) ⟨sg,τ⟩=some ⟨sg2,τ⟩∧l0 ⟨sg2,τ⟩=.ok .nx ⟨sg3,τ.set j (oL dg (p.2++[zz]))⟩∧∃ a b,sg3=[s0,s1,s2,s3,a,b]:=by
 obtain⟨a,b,rfl⟩:=hs
 refine⟨[s0,s1,s2,s3,some (.v (.d (.int p.1))),some (.v (.r j))],[s0,s1,s2,s3,some (.v (.d (.int p.1))),some (.v (.r j))],rfl,?_,_,_,rfl⟩
 unfold l0
 simp[bAppend,cf,lv,hj,qW]
 rw[if_pos (by rw[zL];decide)]
 simp[lL,hj]
 rw[if_pos hp]
 simp[oL]
def q8(ms:bj):List Ob:=(ms.map fun p=>oL dg (p.2++[zz]))++[.lst (bO 0 ms)]
def ko(ms:bj):List Ob:=(ms.map fun p=>oL dg (p.2++[zz]))++[.lst []]
theorem J2(hv:∀ p∈ms,p.2.length<sizeLine):Ev RT (PM ns ms pc) (stH ms) wu (.ok ()) (fun _=>(.nx,PM ns ms pc,q8 ms)):=by
 intro sg hf
 obtain⟨s0,s1,s2,s3,s4,s5,rfl⟩:=six hf.1.symm
 have h2:s2=some (.v (.r ms.length)):=by
  have:=hf.2 2 _ rfl
  simpa using this
 obtain⟨sg',e1,a,b,rfl⟩:=tH (N:=ms.length) (L:=bO 0 ms) (t:=.tp [(.nm 4),(.nm 5)]) (b:=l0) (e:=dg) (K:=fun sg=>∃ a b,sg=[s0,s1,s2,s3,a,b]) (P:=fun p=>p.2.length<sizeLine) (F:=fun p=>p.2++[zz]) (fun sg τ p j hs hp hj=>Ir sg τ p j hs hp hj) [] [.lst (bO 0 ms)] ms [] [s0,s1,s2,s3,s4,s5] ⟨_,_,rfl⟩ hv ⟨0,by simp,rfl⟩
 refine⟨[s0,s1,s2,s3,a,b],?_,⟨rfl,fun i s h=>?_⟩⟩
 ·have e0:ev (aa 2) ⟨[s0,s1,s2,s3,s4,s5],stH ms⟩=.ok (.val (.r ms.length)) ⟨[s0,s1,s2,s3,s4,s5],stH ms⟩:=by simp[h2]
  show jJ (.tp [(.nm 4),(.nm 5)]) (aa 2) l0 _=_
  rw[Aq e0 (zI ms)]
  exact e1
 ·match i,h with
  | 0,h=>exact hf.2 0 s h
  | 1,h=>exact hf.2 1 s h
  | 2,h=>exact hf.2 2 s h
  | 3,h=>exact hf.2 3 s h
  | 4,h=>cases h
  | 5,h=>cases h
  | i+6,h=>cases h
theorem Jw:Ev RT (PM ns ms pc) (q8 ms) wy (.ok ()) (fun _=>(.nx,PM ns ms pc,ko ms)):=by
 have hn:(q8 ms)[ms.length]? =some (.lst (bO 0 ms)):=by
  unfold q8
  rw[List.getElem?_append_right (by simp)]
  simp
 have hs:(q8 ms).set ms.length (.lst [])=ko ms:=by
  unfold q8 ko
  rw[List.set_append,if_neg (by simp)]
  simp
 have h:=zy (R:=RT) (σ:=q8 ms) (p:=PM ns ms pc) (n:=ms.length) (i:=2) rfl hn
 rw[hs]at h
 exact h
theorem Lx(hs:gv pc=.ok ()):Ev RT (PM ns ms pc) σ vF (.ok ()) (fun _=>(.nx,PM ns ms pc,σ)):=by
 have h:=Jd (R:=RT) (p:=PM ns ms pc) (σ:=σ) (k:=2) (fs:=[(aa 3),(aa 1)]) (g:=fC) (ds:=[aY pc,dk ms]) (Q:=PM ns ms pc) (post:=fun _=>(.val (.d .non),PM ns ms pc,σ)) (ah (sv (ao (a:=pc) (e:=aY) (i:=3) rfl)) (ah (sv (ao (a:=ms) (e:=dk) (i:=1) rfl)) au)) (.d (.d .nil)) rfl (yZ (pc:=pc) (ms:=ms)) (fun _=>rfl)
 rw[hs]at h
 exact mY (r:=fun _=>.val (.d .non)) (P:=fun _=>PM ns ms pc) (S:=fun _=>σ) h
theorem Nt(h:b6 pc (10^50) (sS "a")=.ok 0):Ev RT (PM ns ms pc) σ (aw (cc bF "Piece" "length" 3 (aa 3) (aq [(aw (fD (.int 10)) (fD (.int 50)) (binop .pow)),(fD (.str (sS "a")))]) eS) (fD (.int 0)) (aS .ne)) (.ok false) (pD .bl (PM ns ms pc) σ):=by
 have hp:Ev RT (PM ns ms pc) σ (aw (fD (.int 10)) (fD (.int 50)) (binop .pow)) (.ok ((10:Int)^50)) (pD .int (PM ns ms pc) σ):=by
  have h:=bg (R:=RT) (p:=PM ns ms pc) (σ:=σ) (sv (cD D.int (10:Int))) (sv (cD D.int (50:Int))) C7
  rw[show o3 (10:Int) (50:Int)=.ok ((10:Int)^50)from wI (by decide) (by decide) (by decide)]at h
  exact h
 have h1:=fL (R':=RT) (R:=RT) (p:=PM ns ms pc) (σ:=σ) (c:="Piece") (m:="length") (k:=3) (fo:=aa 3) (fs:=[(aw (fD (.int 10)) (fD (.int 50)) (binop .pow)),(fD (.str (sS "a")))]) (g:=eS) (post:=pD D.int (PM ns ms pc) σ) (sv (ao (a:=pc) (e:=aY) (i:=3) rfl)) (iz rfl) (ah (sv hp) (ah (sv (cD D.str (sS "a"))) au)) (.d (.d .nil)) rfl (nC (R:=RT) (aD:=pc) (aH:=10^50) (aC:=sS "a")) (fun _=>rfl)
 rw[h]at h1
 have h2:=bg (sv h1) (sv (cD D.int (0:Int))) (ke (R:=RT) (p:=PM ns ms pc) (σ:=σ) (a:=(0:Int)) (b:=(0:Int)) cB cB qI (by decide))
 exact h2
theorem El:Ev RT (PM ns ms pc) σ (cu []) (.ok ([]:List Int)) (fun v=>(.new (oL D.int v),PM ns ms pc,σ)):=Ev.cI (post2:=pN (oL D.int) (PM ns ms pc) σ) (cq (R:=RT) (p:=PM ns ms pc) (σ:=σ) (l:=fun _=>([]:List Int)) (e:=D.int) au (fun _=>.nil) (fun _=>rfl) (fun _=>rfl)) rfl
theorem KH(h:gk pc (sS "odd") (sS "odd")=[]):Ev RT (PM ns ms pc) σ (aw (cc bF "Piece" "postings" 3 (aa 3) (aq [(fD (.str (sS "odd"))),(fD (.str (sS "odd")))]) aU) (cu []) (aS .ne)) (.ok false) (pD .bl (PM ns ms pc) σ):=by
 have h1:=fL (R':=RT) (R:=RT) (p:=PM ns ms pc) (σ:=σ) (c:="Piece") (m:="postings") (k:=3) (fo:=aa 3) (fs:=[(fD (.str (sS "odd"))),(fD (.str (sS "odd")))]) (g:=aU) (post:=fun v=>(.new (.lst (bO σ.length v)),PM ns ms pc,σ++cells D.int v)) (sv (ao (a:=pc) (e:=aY) (i:=3) rfl)) (iz rfl) (ah (sv (cD D.str (sS "odd"))) (ah (sv (cD D.str (sS "odd"))) au)) (.d (.d .nil)) rfl (i4 (R:=RT) (aD:=pc) (aC:=sS "odd") (fK:=sS "odd")) (fun _=>rfl)
 have e0:aJ (gk pc (sS "odd") (sS "odd"))=.ok []:=by
  rw[h]
  unfold aJ
  rw[if_pos (by rw[zL];decide)]
 rw[e0]at h1
 have h2:Ev RT (PM ns ms pc) σ (cc bF "Piece" "postings" 3 (aa 3) (aq [(fD (.str (sS "odd"))),(fD (.str (sS "odd")))]) aU) (.ok ([]:List Int)) (fun v=>(.new (oL D.int v),PM ns ms pc,σ)):=fun sg hf=>by
  obtain⟨sg',e1,hf'⟩:=h1 sg hf
  refine⟨sg',?_,hf'⟩
  rw[e1]
  show Res.ok (RV.new (.lst [])) ⟨sg',σ++[]⟩=_
  rw[List.append_nil]
  rfl
 exact bg (sn h2 (fun v=>bc _ v)) (sn El (fun v=>bc _ v)) (ke (R:=RT) (p:=PM ns ms pc) (σ:=σ) (a:=([]:List Int)) (b:=([]:List Int)) cB cB (qL qI) (by decide))
theorem Ni(h:bB pc (sS "odd")=.ok []):Ev RT (PM ns ms pc) σ (aw (cc bF "Piece" "words" 2 (aa 3) (aq [(fD (.str (sS "odd")))]) cj) (cu []) (aS .ne)) (.ok false) (pD .bl (PM ns ms pc) σ):=by
 have h1:=fL (R':=RT) (R:=RT) (p:=PM ns ms pc) (σ:=σ) (c:="Piece") (m:="words") (k:=2) (fo:=aa 3) (fs:=[(fD (.str (sS "odd")))]) (g:=cj) (post:=fun v=>(.new (oL D.str v),PM ns ms pc,σ)) (sv (ao (a:=pc) (e:=aY) (i:=3) rfl)) (iz rfl) (ah (sv (cD D.str (sS "odd"))) au) (.d .nil) rfl (j6 (R:=RT) (aD:=pc) (aC:=sS "odd")) (fun _=>rfl)
 rw[h]at h1
 have h2:Ev RT (PM ns ms pc) σ (cc bF "Piece" "words" 2 (aa 3) (aq [(fD (.str (sS "odd")))]) cj) (.ok ([]:List Int)) (fun v=>(.new (oL D.int v),PM ns ms pc,σ)):=fun sg hf=>by
  obtain⟨sg',e1,hf'⟩:=h1 sg hf
  exact⟨sg',e1,hf'⟩
 exact bg (sn h2 (fun v=>bc _ v)) (sn El (fun v=>bc _ v)) (ke (R:=RT) (p:=PM ns ms pc) (σ:=σ) (a:=([]:List Int)) (b:=([]:List Int)) cB cB (qL qI) (by decide))
structure KGood (ns:List Int) (ms:bj) (pc:d9):Prop where
 mks:iO ns=.ok ms
 l:ms.length<16777216
 it:mz ms=.ok pc
 ap:ms=[]∨Apart (dk ms) (aY pc)
 hm:pc.1=ms.map (·.1)
 te:iD pc ms=.ok true
 dl:∀ p∈ms,p.2.length<sizeLine
 sp:gv pc=.ok ()
 ln:b6 pc (10^50) (sS "a")=.ok 0
 po:gk pc (sS "odd") (sS "odd")=[]
 wo:bB pc (sS "odd")=.ok []
theorem ME(g:KGood ns ms pc):dW RT uw [.d (eL D.int ns)] [] (.ok true) (fun b=>(.val (.d (.bl b)),ko ms)):=by
 refine fH ?_
 have h0:Ev RT [sd (eL D.int ns),none,none,none,none,none] [] BB (.ok ms) (fun v=>(.nx,[sd (eL D.int ns),some (.own (oL (aj D.int (eL dg)) v)),none,none,none,none],[])):=by
  have h:=eW (R':=RT) (R:=RT) (p:=[sd (eL D.int ns),none,none,none,none,none]) (σ:=[]) (k:=1) (fs:=[aa 0]) (g:=gH) (post:=fun v=>(.new (oL (aj D.int (eL dg)) v),[sd (eL D.int ns),none,none,none,none,none],[])) (ah (sv (ao (a:=ns) (e:=eL D.int) (i:=0) rfl)) au) (.d .nil) rfl (yI (R:=RT) (cQ:=ns)) (fun _=>rfl)
  rw[g.mks]at h
  exact pI (x:=fun v=>oL (aj D.int (eL dg)) v) (P:=fun _=>[sd (eL D.int ns),none,none,none,none,none]) (S:=fun _=>[]) h
 refine fB [sd (eL D.int ns),some (.own (oL (aj D.int (eL dg)) ms)),none,none,none,none] [] h0 rfl rfl ?_
 refine fB (PL ns ms (some (.v (.r ms.length))) none none none) (stH ms) (MT (by rw[zL];exact g.l)) rfl rfl ?_
 refine fB (PM ns ms pc) (stH ms) (L5 g.it g.ap) rfl rfl ?_
 have hc1:=uv (i1 (sv (Kk (ns:=ns) (ms:=ms) (pc:=pc)))) (uv (i1 (sv (GK (ns:=ns) (σ:=stH ms) g.l g.hm).1)) (x3 (L6 (i1 (sv (BR (ns:=ns) (σ:=stH ms) g.te))))))
 have hq:=pj (w:=true) (mA:=(M.bad:M Bool)) (mB:=M.ok true) (As:=[(bV (fD (.bl false)))]) (Bs:=[]) (rest:=[wu,wy,vF,A4,vA]) (post:=fun b=>OutS.ret (.val (.d (.bl b))) (ko ms)) hc1 (fun sg hf=>trivial) ?_
 ·exact hq
 refine fB (PM ns ms pc) (q8 ms) (J2 g.dl) rfl rfl ?_
 refine fB (PM ns ms pc) (ko ms) Jw rfl rfl ?_
 refine fB (PM ns ms pc) (ko ms) (Lx g.sp) rfl rfl ?_
 have hc2:=uv (i1 (sv (Nt (ns:=ns) (ms:=ms) (σ:=ko ms) g.ln))) (uv (i1 (sv (KH (ns:=ns) (ms:=ms) (σ:=ko ms) g.po))) (x3 (i1 (sv (Ni (ns:=ns) (ms:=ms) (σ:=ko ms) g.wo)))))
 have hq:=pj (w:=true) (mA:=(M.bad:M Bool)) (mB:=M.ok true) (As:=[(bV (fD (.bl false)))]) (Bs:=[]) (rest:=[vA]) (post:=fun b=>OutS.ret (.val (.d (.bl b))) (ko ms)) hc2 (fun sg hf=>trivial) ?_
 ·exact hq
 have hr:=DT (sv (GK (ns:=ns) (σ:=ko ms) g.l g.hm).2) (A5 (sv (BR (ns:=ns) (σ:=ko ms) g.te)))
 exact cm (nT (x:=fun b:Bool=>.d (.bl b)) hr rfl)
end
end K06
namespace K06
open PySem L2 PyProof.Rows Vw
theorem qQ{A B:Type}{f:A→B}(hf:∀ x y,f x=f y→x=y):∀ {a b:List A},a.map f=b.map f→a=b
 | [],[],_=>rfl
 | [],y::b,h=>by cases h
 | x::a,[],h=>by cases h
 | x::a,y::b,h=>by
  rw[List.map_cons,List.map_cons]at h
  injection h with h1 h2
  rw[hf x y h1,qQ hf h2]
theorem wZ:∀ x y:List Int,eL D.int x=eL D.int y→x=y:=fun x y h=>by
 injection h with h
 exact qQ (fun a b e=>by injection e) h
theorem H8{A:Type}{e:A→D}(he:∀ x y,e x=e y→x=y):∀ x y:List (Int×A),bx e x=bx e y→x=y:=fun x y h=>by
 injection h with h
 refine qQ (fun a b q=>?_) h
 obtain⟨a1,a2⟩:=a
 obtain⟨b1,b2⟩:=b
 injection q with q1 q2
 injection q1 with q1
 have q2:=he _ _ q2
 dsimp only at q1 q2
 rw[q1,q2]
theorem Bq{A:Type}{e:A→D}(he:∀ x y,e x=e y→x=y):∀ x y:List (List Nat×A),az e x=az e y→x=y:=fun x y h=>by
 injection h with h
 refine qQ (fun a b q=>?_) h
 obtain⟨a1,a2⟩:=a
 obtain⟨b1,b2⟩:=b
 injection q with q1 q2
 injection q1 with q1
 have q2:=he _ _ q2
 dsimp only at q1 q2
 rw[q1,q2]
theorem IH(x y:T3)(h:qy x=qy y):x=y:=Bq (Bq (H8 wZ)) x y h
theorem IW{a b:Rw}(h:iK (eL D.int) a=iK (eL D.int) b):a=b:=by
 injection h with _ h
 refine qQ (fun a b q=>?_) h
 obtain⟨a1,a2⟩:=a
 obtain⟨b1,b2⟩:=b
 injection q with q1 q2
 injection q1 with q1
 injection q2 with q2
 have q2:=wZ _ _ q2
 dsimp only at q1 q2
 rw[q1,q2]
theorem D5{σ:List Ob}{n:Nat}{r:Rw}(h:σ[n]? =some (iK (eL D.int) r)):rowsOf σ n=some r:=by
 have q:∃ r:Rw,σ[n]? =some (iK (eL D.int) r):=⟨r,h⟩
 unfold rowsOf
 rw[dif_pos q]
 exact congrArg some (IW (Option.some.inj (q.choose_spec.symm.trans h)))
section
variable{σ:List Ob}{T:Tb}{K:List Ky}{f w:List Nat}{mk at_:Int}
theorem nu{κ α:Type}[DecidableEq κ](l:List (κ×α))(k:κ)(v u:α):aO (aO l k v) k u=aO l k u:=by
 by_cases h:k∈l.map (·.1)
 ·have h2:k∈(aO l k v).map (·.1):=by rw[gP,if_pos h];exact h
  rw[iE h2,iE h,iE h,List.map_map]
  refine List.map_congr_left fun p _=>?_
  dsimp only[Function.comp]
  by_cases e:p.1=k
  ·simp[e]
  ·simp[e]
 ·have h2:k∈(aO l k v).map (·.1):=by rw[gP,if_neg h];simp
  rw[iE h2,eA h,eA h,List.map_append]
  congr 1
  ·conv=>rhs;rw[←List.map_id l]
   refine List.map_congr_left fun p hp=>?_
   rw[if_neg (fun e=>h (by rw[←e];exact List.mem_map_of_mem hp))]
   rfl
  ·simp
theorem Fb(g u:List Nat):br (la T f) g u=br T g u:=by rw[gD,gD,vE]
theorem Dz(r:Row):jn (la T f) f w r=jn T f w r:=by
 unfold jn
 rw[vE]
 unfold la
 split
 ·rfl
 ·rename_i h
  rw[←eA h,nu]
theorem ES(r:Row):jn (addW T f w) f w r=jn T f w r:=by
 unfold addW
 split
 ·rfl
 ·rename_i h
  unfold jn
  rw[nu,oc,if_pos rfl,←eA h,nu]
def stepT(T:Tb)(f w:List Nat)(mk at_:Int):Tb:=jn T f w (aO (br T f w) mk ((aA (br T f w) mk).getD []++[at_]))
theorem Mi(h:RpK σ T K)(hT:T.length<16777215)(hw:(bE T f).length<16777216)(hr:(br T f w).length<16777216)(hp:((aA (br T f w) mk).getD []).length<16777216):∃ σ' K',wB f w mk at_ σ=.ok σ'∧RpK σ' (stepT T f w mk at_) K':=by
 obtain⟨K1,s1,s2,e1,e2,h2⟩:=OR (f:=f) h (by omega)
 obtain⟨K2,s3,s4,e3,e4,h4⟩:=N0 (w:=w) h2 tu (by rw[vE];exact hw)
 have hf:f∈(addW (la T f) f w).map (·.1):=by rw[xP tu];exact tu
 have ha:=h4.at_ ((h4.kw f w).mpr y6)
 have ha:s4[bU K2 (.row f w)]? =some (iK (eL D.int) (br (addW (la T f) f w) f w)):=ha
 rw[zi,Fb]at ha
 unfold wB
 rw[e1,M.ae]
 dsimp only
 rw[e2,M.ae,e3,M.ae]
 dsimp only
 rw[e4,M.ae]
 unfold CL
 rw[D5 ha]
 dsimp only
 have hp':((eX (br T f w) mk).getD ([]:List Int)).length<16777216:=hp
 rw[kb (by simp only[List.length_singleton];omega),M.ae,M.ae,uR hr,M.ae]
 refine⟨_,K2,rfl,?_⟩
 have:=Ol h4 hf y6 (aO (br T f w) mk ((aA (br T f w) mk).getD []++[at_]))
 rw[ES,Dz]at this
 exact this
theorem rf{A:Type}{fr:Val→Option D}{F:List Nat→Val}{G:List Nat→D}:∀ (l:List (List Nat×A)),(∀ p∈l,fr (F p.1)=some (G p.1))→frzK fr (l.map fun p=>(K0.s p.1,F p.1))=some (l.map fun p=>(K0.s p.1,G p.1))
 | [],_=>rfl
 | p::l,h=>by
  rw[List.map_cons,frzK,h p (by simp),rf l fun q hq=>h q (by simp[hq])]
  rfl
theorem Av{n m:Nat}{o:Ob}(h:σ[m]? =some o):bp bP (n+1) σ (.r m)=jM (bp bP n σ) o:=by
 show(if bP m=true then(match σ[m]? with | some o=>jM (bp bP n σ) o | none=>none)else none)=_
 rw[if_pos (show bP m=true from rfl),h]
theorem zZ(fr:Val→Option D)(hf:∀ x,fr (.d x)=some x)(e:List Int→D):∀ l:Row,frzK fr (l.map fun p=>(K0.i p.1,Val.d (e p.2)))=some (l.map fun p=>(K0.i p.1,e p.2))
 | []=>rfl
 | p::l=>by
  rw[List.map_cons,frzK,hf,zZ fr hf e l]
  rfl
theorem Mg(h:RpK σ T K):bp bP 6 σ (.r 0)=some (qy T):=by
 have hrow:∀ g u,u∈(bE T g).map (·.1)→bp bP 4 σ (.r (bU K (.row g u)))=some (bx (eL D.int) (br T g u)):=fun g u hu=>by
  rw[Av (h.at_ ((h.kw g u).mpr hu))]
  show(frzK (bp bP 3 σ) ((br T g u).map fun p=>(K0.i p.1,Val.d (eL D.int p.2)))).map D.dic=_
  rw[zZ (bp bP 3 σ) (vw bP 3 σ) (eL D.int)]
  rfl
 have hfld:∀ g,g∈T.map (·.1)→bp bP 5 σ (.r (bU K (.fld g)))=some (az (bx (eL D.int)) (bE T g)):=fun g hg=>by
  rw[Av (h.at_ ((h.kf g).mpr hg))]
  show(frzK (bp bP 4 σ) ((bE T g).map fun q=>(K0.s q.1,Val.r (bU K (.row g q.1))))).map D.dic=_
  rw[rf (F:=fun u=>Val.r (bU K (.row g u))) (G:=fun u=>bx (eL D.int) (br T g u)) (bE T g) fun p hp=>hrow g p.1 (List.mem_map_of_mem hp)]
  refine congrArg (fun z=>some (D.dic z)) (List.map_congr_left fun q hq=>?_)
  rw[show br T g q.1=q.2 from by rw[gD,d5 (h.nw g) hq];rfl]
 have hr:=h.at_ h.rt
 rw[h.r0]at hr
 rw[Av hr]
 show(frzK (bp bP 5 σ) (T.map fun p=>(K0.s p.1,Val.r (bU K (.fld p.1))))).map D.dic=_
 rw[rf (F:=fun u=>Val.r (bU K (.fld u))) (G:=fun u=>az (bx (eL D.int)) (bE T u)) T fun p hp=>hfld p.1 (List.mem_map_of_mem hp)]
 refine congrArg (fun z=>some (D.dic z)) (List.map_congr_left fun q hq=>?_)
 rw[show bE T q.1=q.2 from by unfold bE;rw[d5 h.nt hq];rfl]
theorem PY:RpK [.dic false []] [] [.root]:=⟨rfl,rfl,by simp,fun f=>by simp,fun f w=>by simp[bE,aA],List.nodup_nil,fun f=>by simp[bE,aA]⟩
end
def g8(mk:Int)(ps:List Int):Row:=if ps=[]then []else [(mk,ps)]
theorem Ef{w:List Nat}{ws:List (List Nat)}(h:w∈ws):pl ws w≠[]:=fun e=>by
 unfold pl at e
 rw[List.filterMap_eq_nil_iff]at e
 have h2:w∈(dy 0 ws).map (fun k=>k.2):=by rw[m7];exact h
 obtain⟨p,hp,hw⟩:=List.mem_map.mp h2
 have:=e p hp
 rw[if_pos hw]at this
 cases this
theorem HM(mk:Int)(ws:List (List Nat))(w:List Nat):g8 mk (pl ws w)=if w∈ws then [(mk,pl ws w)]else []:=by
 unfold g8
 by_cases h:w∈ws
 ·rw[if_neg (Ef h),if_pos h]
 ·rw[if_pos (Ey h),if_neg h]
def TS(W:List (List Nat))(R:List Nat→List Nat→Row)(σ:List Ob):Prop:=∃ T K,RpK σ T K∧fP W T∧∀ g u,br T g u=R g u
theorem Im{W:List (List Nat)}{R:List Nat→List Nat→Row}{σ:List Ob}{f w:List Nat}{mk at_:Int}(hW:W.length≤90000)(h:TS W R σ)(hf:f∈FN)(hw:w∈W)(hr:(R f w).length≤5000)(hp:((aA (R f w) mk).getD []).length≤5000):Sat (wB f w mk at_ σ) (TS W fun g u=>if g=f∧u=w then aO (R f w) mk ((aA (R f w) mk).getD []++[at_])else R g u):=by
 obtain⟨T,K,h1,h2,h3⟩:=h
 rw[←h3]at hr hp
 have hin:=h2.AV f
 have hin':(bE T f).length≤W.length:=hin.len
 obtain⟨σ',K',e,h4⟩:=Mi (mk:=mk) (at_:=at_) (f:=f) (w:=w) h1 (by have:=h2.len;omega) (by omega) (by omega) (by omega)
 rw[e]
 refine aX ⟨_,K',h4,?_,fun g u=>?_⟩
 ·unfold stepT jn
  have hne:aO (br T f w) mk ((aA (br T f w) mk).getD []++[at_])≠[]:=fun z=>by
   have:=congrArg (fun l=>l.map (·.1)) z
   rw[gP]at this
   split at this
   ·rename_i hm;rw[this]at hm;cases hm
   ·simp at this
  generalize aO (br T f w) mk ((aA (br T f w) mk).getD []++[at_])=r at hne
  refine h2.put hf ⟨jC hin.1,fun q hq=>?_⟩ fun z=>?_
  ·rcases sX hq with hq | hq
   ·exact hin.2 q hq
   ·rw[hq];exact⟨hw,hne⟩
  ·have:=congrArg (fun l=>l.map (·.1)) z
   rw[gP]at this
   split at this
   ·rename_i hm;rw[this]at hm;cases hm
   ·simp at this
 ·unfold stepT
  rw[zW]
  dsimp only
  by_cases hgu:g=f∧u=w
  ·rw[if_pos hgu,if_pos hgu,h3]
  ·rw[if_neg hgu,if_neg hgu]
   exact h3 g u
def RR(pre:bj)(mk:Int)(dp:Doc)(f:List Nat)(dn:List (List Nat))(g u:List Nat):Row:=rws pre g u++g8 mk (if g=f then pl dn u else pl (eO dp g) u)
theorem FD{pre:bj}{g u:List Nat}{mk:Int}(h:mk∉pre.map (·.1)):mk∉(rws pre g u).map (·.1):=fun z=>by
 obtain⟨p,hp,e⟩:=List.mem_map.mp z
 unfold rws at hp
 obtain⟨q,hq,hp⟩:=List.mem_flatMap.mp hp
 split at hp
 ·rw[List.mem_singleton]at hp
  subst hp
  exact h (by rw[←e];exact List.mem_map_of_mem hq)
 ·cases hp
theorem xa{A:Row}{mk:Int}{ps:List Int}(h:mk∉A.map (·.1)):(aA (A++g8 mk ps) mk).getD []=ps:=by
 rw[iq,cv h]
 unfold g8
 split
 ·rename_i e;rw[e];rfl
 ·rw[cL,if_pos rfl];rfl
theorem Ex{A:Row}{mk:Int}{ps qs:List Int}(h:mk∉A.map (·.1))(hq:qs≠[]):aO (A++g8 mk ps) mk qs=A++g8 mk qs:=by
 have e2:g8 mk qs=[(mk,qs)]:=by unfold g8;rw[if_neg hq]
 rw[e2]
 by_cases e:ps=[]
 ·have e1:g8 mk ps=[]:=by unfold g8;rw[if_pos e]
  rw[e1,List.append_nil,eA h]
 ·have e1:g8 mk ps=[(mk,ps)]:=by unfold g8;rw[if_neg e]
  rw[e1,←eA h,nu,eA h]
theorem FU(mk:Int)(ps:List Int):(g8 mk ps).length≤1:=by unfold g8;split<;> simp
theorem DK{W:List (List Nat)}{pre:bj}{mk:Int}{dp:Doc}{f:List Nat}(hW:W.length≤90000)(hf:f∈FN)(hm:mk∉pre.map (·.1))(hpl:pre.length≤64):∀ (ws dn:List (List Nat)) (σ:List Ob),TS W (RR pre mk dp f dn) σ→(∀ u∈ws,u∈W)→dn.length+ws.length≤1000→Sat (foldM (fun σ (x:Int×List Nat)=>wB f x.2 mk x.1 σ) σ (dy dn.length ws)) (TS W (RR pre mk dp f (dn++ws)))
 | [],dn,σ,h,_,_=>by rw[List.append_nil];exact aX h
 | x::ws,dn,σ,h,hx,hl=>by
  simp only[List.length_cons]at hl
  rw[dy,d6]
  have hk:=FD (g:=f) (u:=x) hm
  have hR:RR pre mk dp f dn f x=rws pre f x++g8 mk (pl dn x):=by unfold RR;rw[if_pos rfl]
  have h1:=yp dn x
  have h2:=lQ pre f x
  have h3:=FU mk (pl dn x)
  refine aL (Im (mk:=mk) (at_:=(dn.length:Int)) hW h hf (hx x (by simp)) (by rw[hR,List.length_append];omega) (by rw[hR,xa hk];omega)) fun σ' hs=>?_
  have:=DK (dp:=dp) hW hf hm hpl ws (dn++[x]) σ' ?_ (fun u hu=>hx u (by simp[hu])) (by simp;omega)
  ·rw[List.length_append,List.length_singleton,List.append_assoc]at this
   exact this
  ·obtain⟨T,K,a1,a2,a3⟩:=hs
   refine⟨T,K,a1,a2,fun g u=>?_⟩
   dsimp only at a3
   rw[a3 g u,hR,xa hk,Ex hk (by simp)]
   unfold RR
   by_cases hg:g=f
   ·rw[if_pos hg,if_pos hg,zw]
    by_cases hu:u=x
    ·rw[if_pos ⟨hg,hu⟩,if_pos hu.symm,hg,hu]
    ·rw[if_neg (fun z=>hu z.2),if_neg (fun z=>hu z.symm),List.append_nil]
   ·rw[if_neg (fun z=>hg z.1),if_neg hg,if_neg hg]
def RD(pre:bj)(mk:Int)(dp:Doc)(g u:List Nat):Row:=rws pre g u++g8 mk (pl (eO dp g) u)
theorem TS.eq{W:List (List Nat)}{R R':List Nat→List Nat→Row}{σ:List Ob}(h:TS W R σ)(e:∀ g u,R g u=R' g u):TS W R' σ:=by
 obtain⟨T,K,a1,a2,a3⟩:=h
 exact⟨T,K,a1,a2,fun g u=>by rw[a3,e]⟩
theorem LA{W:List (List Nat)}{pre:bj}{mk:Int}{dp:Doc}{y:List Nat×List Nat}{σ:List Ob}(hW:W.length≤90000)(hm:mk∉pre.map (·.1))(hpl:pre.length≤64)(hy:y.1∉dp.map (·.1))(hf:y.1∈FN)(hl:y.2.length≤60)(hu:∀ u∈j4 y.2,u∈W)(h:TS W (RD pre mk dp) σ):Sat (B4 mk σ y) (TS W (RD pre mk (dp++[y]))):=by
 obtain⟨_,_,e,el⟩:=kL (t:=y.2) (by omega)
 unfold B4
 rw[e]
 simp only[i6,M.ae]
 rw[mE]
 refine aL (DK (pre:=pre) (mk:=mk) (dp:=dp) hW hf hm hpl (j4 y.2) [] σ ?_ hu (by simp;omega)) fun v hv=>aX (hv.eq fun g u=>?_)
 ·refine h.eq fun g u=>?_
  unfold RD RR
  by_cases hg:g=y.1
  ·rw[if_pos hg,hg,uq hy]
  ·rw[if_neg hg]
 ·unfold RD RR
  rw[vX hy,List.nil_append]
  by_cases hg:g=y.1
  ·rw[if_pos hg,if_pos hg]
  ·rw[if_neg hg,if_neg hg]
theorem L0{W:List (List Nat)}{pre:bj}{z:Int×Doc}{σ:List Ob}(hW:W.length≤90000)(hm:z.1∉pre.map (·.1))(hpl:pre.length≤64)(hz:jz W z.2)(h:TS W (rws pre) σ):Sat (Cw σ z) (TS W (rws (pre++[z]))):=by
 unfold Cw
 refine aL (fS (fun r σ=>∃ dp,dp++r=z.2∧TS W (RD pre z.1 dp) σ) z.2 σ ⟨[],rfl,h.eq fun g u=>?_⟩ fun c x r hI=>?_) fun v hv=>?_
 ·show rws pre g u=rws pre g u++g8 z.1 (pl [] u)
  rw[show g8 z.1 (pl [] u)=[]from rfl,List.append_nil]
 ·obtain⟨dp,e,hc⟩:=hI
  have hx:x∈z.2:=by rw[←e];simp
  have hy:x.1∉dp.map (·.1):=by
   have:=hz.2.2.1
   rw[←e,List.map_append,List.map_cons]at this
   exact fun hm=>(List.nodup_append.mp this).2.2 x.1 hm x.1 (by simp) rfl
  obtain⟨a1,a2,_,_,a3⟩:=hz.2.2.2 x hx
  exact nX (LA hW hm hpl hy a1 a2 a3 hc) fun v hv=>⟨dp++[x],by simp[e],hv⟩
 ·obtain⟨dp,e,hc⟩:=hv
  rw[List.append_nil]at e
  subst e
  refine aX (hc.eq fun g u=>?_)
  rw[BG]
  unfold RD
  congr 1
  rw[HM]
  unfold rws
  rw[List.flatMap_singleton]
theorem LQ{W:List (List Nat)}{ms:bj}(hW:W.length≤90000)(h:ky W ms):Sat (zd ms) (TS W (rws ms)):=by
 unfold zd
 refine aL (fS (fun r σ=>∃ pre,pre++r=ms∧TS W (rws pre) σ) ms _ ⟨[],rfl,[],[.root],PY,fP.nil,fun g u=>rfl⟩ fun c z r hI=>?_) fun v hv=>?_
 ·obtain⟨pre,e,hc⟩:=hI
  have hz:z∈ms:=by rw[←e];simp
  have hn:z.1∉pre.map (·.1):=by
   have:=h.nd
   rw[←e,List.map_append,List.map_cons]at this
   exact fun hm=>(List.nodup_append.mp this).2.2 z.1 hm z.1 (by simp) rfl
  have hpl:pre.length≤64:=by have:=congrArg List.length e;have:=h.1;simp at *;omega
  exact nX (L0 hW hn hpl (h.2.1 z hz).1 hc) fun v hv=>⟨pre++[z],by simp[e],hv⟩
 ·obtain⟨pre,e,hc⟩:=hv
  rw[List.append_nil]at e
  subst e
  exact aX hc
theorem D4{W:List (List Nat)}{ms:bj}(hW:W.length≤90000)(h:ky W ms):Sat (iF ms) fun T=>fP W T∧∀ g u,br T g u=rws ms g u:=by
 unfold iF
 refine aL (LQ hW h) fun σ hs=>?_
 obtain⟨T,K,h1,h2,h3⟩:=hs
 have e:mP 6 ⟨[],σ⟩ (.r 0)=some (qy T):=Mg h1
 have q:∃ t:T3,mP 6 ⟨[],σ⟩ (.r 0)=some (qy t):=⟨T,e⟩
 rw[dif_pos q]
 have hc:q.choose=T:=IH _ _ (Option.some.inj (q.choose_spec.symm.trans e))
 rw[hc]
 exact aX ⟨h2,h3⟩
end K06
namespace K06
open PySem L2 PyProof.Rows Vw
theorem xN{a b:List (List Nat)}(na:a.Nodup)(nb:b.Nodup)(h:∀ x,x∈a↔x∈b):bI a=bI b:=
 zC ((fQ a).trans ((List.perm_ext_iff_of_nodup na nb).mpr h)) (sQ a)
theorem oX{l:List (List Nat)}(h:l.length≤16777216):ig l=.ok (bI l):=by
 unfold ig
 rw[d7 (decide_eq_true (by rw[zL];exact h)),M.ae]
theorem Bw{κ α:Type}[DecidableEq κ]:∀ (ps l:List (κ×α)),(l.map (·.1)++ps.map (·.1)).Nodup→gE l ps=l++ps
 | [],l,h=>by simp[gE]
 | q::ps,l,h=>by
  show gE (aO l q.1 q.2) ps=_
  have hq:q.1∉l.map (·.1):=fun hm=>(List.nodup_append.mp h).2.2 q.1 hm q.1 (by simp) rfl
  rw[eA hq,Bw ps _ (by rw[List.map_append];simpa using h)]
  simp
theorem oA{T Q:Type}{f:Unit→T→M (Lp Unit Q)}:∀ {l:List T},(∀ x∈l,f () x=.ok (.go ()))→gY f () l=.ok (.inl ())
 | [],h=>rfl
 | x::l,h=>by
  rw[gY,h x (by simp),M.ae]
  exact oA fun y hy=>h y (by simp[hy])
theorem ve{T U:Type}{me:T→M U}:∀ (l:List T) (acc:List U),eJ (fun _=>M.ok false) me acc l=.ok acc
 | [],acc=>rfl
 | x::l,acc=>by
  rw[eJ,M.ae,if_neg (by decide)]
  exact ve l acc
theorem CG{T U:Type}{me:T→M U}(l:List T):cX (fun _=>M.ok false) me l=.ok []:=by
 unfold cX
 rw[ve]
 rfl
section
variable{W:List (List Nat)}{ms:bj}{pc:d9}{T:Tb}{f w:List Nat}
theorem ql(h:fP W T):w∈(bE T f).map (·.1)↔br T f w≠[]:=by
 have hi:pC W (bE T f):=h.AV f
 rw[gD]
 constructor
 ·intro hw
  obtain⟨q,hq,rfl⟩:=List.mem_map.mp hw
  rw[d5 hi.1 hq]
  exact(hi.2 q hq).2
 ·intro hw
  refine Classical.byContradiction fun hn=>hw ?_
  rw[cv hn]
  rfl
theorem y8(h:fP W T):f∈T.map (·.1)↔∃ w,br T f w≠[]:=by
 constructor
 ·intro hf
  obtain⟨p,hp,rfl⟩:=List.mem_map.mp hf
  have hk:bE T p.1=p.2:=by unfold bE;rw[d5 h.1 hp];rfl
  obtain⟨_,hne,_⟩:=h.2 p hp
  cases e:p.2 with
  | nil=>exact absurd e hne
  | cons q r=>exact⟨q.1,(ql h).mp (by rw[hk,e];simp)⟩
 ·rintro⟨w,hw⟩
  refine Classical.byContradiction fun hn=>hw ?_
  unfold br
  rw[cv hn]
  rfl
theorem wH(h:fP W T):(bE T f).length≤W.length:=(h.AV f:pC W (bE T f)).len
theorem DP{A B:Tb}(ha:fP W A)(hb:fP W B)(h:∀ g u,br A g u=br B g u):bI (A.map (·.1))=bI (B.map (·.1)):=by
 refine xN ha.1 hb.1 fun x=>?_
 have h1:=y8 (f:=x) ha
 have h2:=y8 (f:=x) hb
 rw[h1,h2]
 simp only[h]
theorem C4{A B:Tb}(ha:fP W A)(hb:fP W B)(h:∀ g u,br A g u=br B g u)(g:List Nat):bI ((bE A g).map (·.1))=bI ((bE B g).map (·.1)):=by
 refine xN (ha.AV g:pC W (bE A g)).1 (hb.AV g:pC W (bE B g)).1 fun x=>?_
 rw[ql ha,ql hb,h]
theorem Ba:∀ (ms:bj) (g w:List Nat),((rws ms g w).map (·.1)).Sublist (ms.map (·.1))
 | [],g,w=>List.Sublist.refl _
 | z::ms,g,w=>by
  have ih:=Ba ms g w
  have e:rws (z::ms) g w=(if w∈eO z.2 g then [(z.1,pl (eO z.2 g) w)]else [])++rws ms g w:=by unfold rws;rw[List.flatMap_cons]
  rw[e]
  split
  ·exact List.Sublist.cons_cons _ ih
  ·exact List.Sublist.cons _ ih
theorem Ld{p:Int×List Int}(h:p∈rws ms f w):p.2≠[]:=by
 unfold rws at h
 obtain⟨z,_,hz⟩:=List.mem_flatMap.mp h
 split at hz
 ·rename_i hw
  rw[List.mem_singleton]at hz
  rw[hz]
  exact Ef hw
 ·cases hz
theorem Ja{d:Doc}(h:jz W d)(g:List Nat):(eO d g).length≤61:=by
 unfold eO
 cases e:aA d g with
 | none=>simp
 | some t=>exact(h.2.2.2 _ (ny e)).2.2.2.1
theorem EM(x:ky W ms){p:Int×List Int}(h:p∈rws ms f w):p.2.length≤61:=by
 unfold rws at h
 obtain⟨z,hz0,hz⟩:=List.mem_flatMap.mp h
 split at hz
 ·rw[List.mem_singleton]at hz
  rw[hz]
  exact Nat.le_trans (yp _ _) (Ja (x.2.1 z hz0).1 f)
 ·cases hz
theorem L1{p:Int×List Int}(h:p.2.length≤61):BM () p=.ok (.go ()):=by
 unfold BM
 rw[kb (by simp;omega)]
 simp only[M.ae]
 rw[CG,M.ae]
 rfl
theorem FA:dD (sS "")=.ok []:=by
 obtain⟨_,e1,e2,_⟩:=kL (t:=sS "") (by decide)
 rw[e2,e1]
 have:je 32=[]:=yW (by decide+kernel)
 have e:wL (sS "")=([],[]):=by
  show wS ([],[]) 32=_
  unfold wS
  rw[if_pos this,if_pos rfl]
 rw[e]
theorem JA(x:PcX W ms pc){z:Int×Doc}(hz:z∈ms):z4 pc f () z=.ok (.go ()):=by
 have hd:=(x.o.2.1 z hz).1
 have e1:b6 pc z.1 f=.ok ((eO z.2 f).length:Int):=by
  unfold b6
  have h:=x.l z.1 f
  unfold su ui at h
  rw[h,d5 x.o.nd hz]
  show M.ok ((if eO z.2 f=[]then none else some ((eO z.2 f).length:Int)).getD 0)=_
  by_cases hw:eO z.2 f=[]
  ·rw[if_pos hw,hw];rfl
  ·rw[if_neg hw];rfl
 have e2:dD ((eX z.2 f).getD (sS ""))=.ok (eO z.2 f):=by
  unfold eO
  show dD ((aA z.2 f).getD (sS ""))=_
  cases e:aA z.2 f with
  | none=>exact FA
  | some t=>
   have:=(hd.2.2.2 _ (ny e)).2.1
   exact(kL (t:=t) (by dsimp only at this;omega)).2.2.1
 unfold z4
 rw[e1,Bw z.2 [] (by simpa using hd.2.2.1),List.nil_append,e2]
 simp only[i6,M.ae]
 rw[show eqB ((eO z.2 f).length:Int) ((eO z.2 f).length:Int)=true from decide_eq_true rfl]
 rfl
theorem AX(x:PcX W ms pc):gk pc f w=rws ms f w:=x.r f w
theorem xl(x:PcX W ms pc):aJ (gk pc f w)=.ok (rws ms f w):=by
 rw[AX x]
 unfold aJ
 have:=lQ ms f w
 have:=x.o.1
 rw[if_pos (by rw[zL];omega)]
theorem Au(x:ky W ms):((rws ms f w).map (·.1)).Pairwise (· < ·):=x.2.2.sublist (Ba ms f w)
theorem Gp(x:ky W ms):cX (fun(dN:Int)=>M.ok true) (fun(dN:Int)=>((mm (rws ms f w) dN).bind fun a20=>(M.ok ()).bind fun w21=>M.ok (a20,w21)).bind fun z22=>M.ok (dN,z22.1)) ((rws ms f w).map (·.1))=.ok (rws ms f w):=by
 have hl:=lQ ms f w
 have hl2:=x.1
 have hn:((rws ms f w).map (·.1)).Nodup:=(Au x).imp fun hab e=>by omega
 rw[nO (F:=fun mk=>(mk,(aA (rws ms f w) mk).getD [])) (fun _ _=>rfl) (fun mk hm=>?_) (by rw[List.length_map];omega)]
 ·rw[List.map_map]
  refine congrArg M.ok ?_
  conv=>rhs;rw[←List.map_id (rws ms f w)]
  refine List.map_congr_left fun p hp=>?_
  show(p.1,(aA (rws ms f w) p.1).getD [])=p
  rw[d5 hn hp]
  rfl
 ·obtain⟨p,hp,rfl⟩:=List.mem_map.mp hm
  unfold mm
  rw[d5 hn hp]
  rfl
theorem JV(h10:ms.length≤10)(x:PcX W ms pc)(hr:∀ g u,br T g u=rws ms g u):Bf pc f (bE T f) () w=.ok (.go ()):=by
 have e1:(eX (bE T f) w).getD ([]:List (Int×List Int))=rws ms f w:=hr f w
 have hl:=lQ ms f w
 have hl2:=x.o.1
 have hs:CU ((rws ms f w).map fun p=>p.1)=.ok ((rws ms f w).map fun p=>p.1):=by
  unfold CU
  have hle:(rws ms f w).length<64:=by
   have:=lQ ms f w
   omega
  rw[d7 (decide_eq_true (by rw[List.length_map];omega)),M.ae]
  exact congrArg M.ok (yz (List.Perm.refl _) ((Au x.o).imp fun h=>by omega)).symm
 unfold Bf
 rw[e1,M.ae]
 unfold gn
 rw[xl x,i6,M.ae,hs,M.ae,Gp x.o,M.ae]
 rw[show eqB (rws ms f w) (rws ms f w)=true from decide_eq_true rfl,M.ae,if_neg (by decide)]
 rw[oA fun p hp=>L1 (EM x.o hp)]
 rfl
theorem tR(hW:W.length≤90000)(x:PcX W ms pc):bB pc f=.ok (bI ((bE pc.2.2 f).map fun p=>p.1)):=by
 unfold bB
 have:=wH (f:=f) x.t
 show(ig ((bE pc.2.2 f).map fun p=>p.1)).bind _=_
 rw[oX (by rw[List.length_map];omega),M.ae]
theorem xf(x:PcX W ms pc):bT pc=.ok (bI (pc.2.2.map fun p=>p.1)):=by
 unfold bT
 have:=x.t.len
 rw[oX (by rw[List.length_map];omega),M.ae]
theorem LR(h10:ms.length≤10)(hW:W.length≤90000)(x:PcX W ms pc)(hT:fP W T)(hr:∀ g u,br T g u=rws ms g u):BS pc ms T () f=.ok (.go ()):=by
 have hl:=wH (f:=f) hT
 have hs:ig ((bE T f).map fun p=>p.1)=.ok (bI ((bE T f).map fun p=>p.1)):=oX (by rw[List.length_map];omega)
 unfold BS
 rw[show(eX T f).getD ([]:List (List Nat×List (Int×List Int)))=bE T f from rfl,M.ae,tR hW x,i6,M.ae,hs,M.ae]
 rw[show bI ((bE pc.2.2 f).map fun p=>p.1)=bI ((bE T f).map fun p=>p.1)from C4 x.t hT (fun g u=>by rw[x.r,hr]) f]
 rw[show eqB (bI ((bE T f).map fun p=>p.1)) (bI ((bE T f).map fun p=>p.1))=true from decide_eq_true rfl,M.ae,if_neg (by decide),M.ae]
 rw[kb (by rw[(fQ _).length_eq,List.length_map];simp only[List.length_singleton];omega),M.ae,oA fun u _=>JV h10 x hr,M.ae]
 show(gY (z4 pc f) () ms).bind _=_
 rw[oA fun z hz=>JA x hz,M.ae]
 rfl
theorem Gj(h10:ms.length≤10)(hW:W.length≤90000)(x:PcX W ms pc):iD pc ms=.ok true:=by
 obtain⟨T,e,hT,hr⟩:=D4 hW x.o
 have hl:=hT.len
 have hs:ig (T.map fun p=>p.1)=.ok (bI (T.map fun p=>p.1)):=oX (by rw[List.length_map];omega)
 unfold iD
 rw[e,i6,M.ae,xf x,i6,M.ae]
 rw[show(ig (List.map (fun p=>p.1) T))=.ok (bI (T.map fun p=>p.1))from hs,M.ae]
 rw[show bI (pc.2.2.map fun p=>p.1)=bI (T.map fun p=>p.1)from DP x.t hT (fun g u=>by rw[x.r,hr])]
 rw[show eqB (bI (T.map fun p=>p.1)) (bI (T.map fun p=>p.1))=true from decide_eq_true rfl,M.ae,if_neg (by decide),M.ae]
 rw[kb (by rw[(fQ _).length_eq,List.length_map];simp only[List.length_singleton];omega),M.ae,oA fun u _=>LR h10 hW x hT hr,M.ae]
 rfl
theorem IS(x:PcX W ms pc)(σ:List Ob):Sat (AE pc f w σ) fun _=>True:=by
 unfold AE
 rw[xl x,i6,M.ae,if_pos (fun p hp=>by have:=EM x.o hp;rw[zL];omega)]
 exact aX trivial
theorem yL{A:Type}{e:A→D}{a:A}{l:List A}{σ:List Ob}(h:l.length≤90000):Sat (zV e a (.ok l) σ) fun _=>True:=by
 unfold zV
 rw[M.ae,kg (by omega),M.ae]
 exact aX trivial
theorem fold_any{C A:Type}{g:C→A→M C}(h:∀ c a,Sat (g c a) fun _=>True)(l:List A)(c:C):Sat (foldM g c l) fun _=>True:=
 fS (fun _ _=>True) l c trivial fun c x r _=>h c x
theorem Ic(hW:W.length≤90000)(x:PcX W ms pc)(σ:List Ob):Sat (C6 pc σ f) fun _=>True:=by
 unfold C6
 have hl:=wH (f:=f) x.t
 rw[tR hW x]
 simp only[i6,M.ae]
 refine aL (yL (by rw[(fQ _).length_eq,List.length_map];omega)) fun σ1 _=>?_
 exact aL (fold_any (fun σ w=>IS x σ) _ _) fun _ _=>aX trivial
theorem FV(hW:W.length≤90000)(x:PcX W ms pc):gv pc=.ok ():=by
 have hl:=x.t.len
 have hl2:=x.o.1
 have h:Sat (Ap pc) fun _=>True:=by
  unfold Ap cg
  rw[xf x]
  simp only[i6,M.ae]
  refine aL (yL (by rw[x.m,List.length_map];omega)) fun σ1 _=>?_
  refine aL (yL (by rw[(fQ _).length_eq,List.length_map];omega)) fun σ2 _=>?_
  exact aL (fold_any (fun σ f=>Ic hW x σ) _ _) fun _ _=>aX trivial
 obtain⟨σ,e,_⟩:=h
 unfold gv
 rw[e,M.ae]
end
end K06
namespace K06
open PySem L2 PyProof.Rows Vw
theorem mO{A:Type}{P:D→Prop}{e:A→D}:∀ {l:List A},(∀ x∈l,mn P (e x))→qz P (l.map e)
 | [],_=>trivial
 | x::l,h=>⟨h x (by simp),mO fun y hy=>h y (by simp[hy])⟩
theorem ti{A:Type}{P:D→Prop}{k:A→K0}{e:A→D}:∀ {l:List A},(∀ x∈l,mn P (e x))→Cs P (l.map fun p=>(k p,e p))
 | [],_=>trivial
 | x::l,h=>⟨h x (by simp),ti fun y hy=>h y (by simp[hy])⟩
theorem Aw{A:Type}{P:D→Prop}{k:A→List K0}{e:A→D}:∀ {l:List A},(∀ x∈l,mn P (e x))→Cj P (l.map fun p=>(k p,e p))
 | [],_=>trivial
 | x::l,h=>⟨h x (by simp),Aw fun y hy=>h y (by simp[hy])⟩
def MA(ms:bj)(e:D):Prop:=(∃ d:Doc,e=eL dg d)∨e=dk ms
theorem L8(ms:bj):mn (MA ms) (dk ms):=
 ⟨.inr rfl,mO fun z _=>⟨trivial,⟨.inl ⟨z.2,rfl⟩,mO fun y _=>⟨trivial,trivial,trivial⟩⟩,trivial⟩⟩
theorem IX{ms:bj}{l:List Int}(h:l≠[]):¬ MA ms (eL D.int l):=by
 cases l with
 | nil=>exact absurd rfl h
 | cons a l=>
  rintro(⟨d,e⟩ | e)
  ·cases d with
   | nil=>injection e with e;cases e
   | cons b d=>injection e with e;injection e with e _;cases e
  ·cases ms with
   | nil=>injection e with e;cases e
   | cons b d=>injection e with e;injection e with e _;cases e
theorem Jo{ms:bj}{l:List (Int×List Int)}(h:l≠[])(hp:∀ p∈l,p.2≠[]):¬ MA ms (eL (aj D.int (eL D.int)) l):=by
 cases l with
 | nil=>exact absurd rfl h
 | cons a l=>
  obtain⟨a1,a2⟩:=a
  have ha:a2≠[]:=hp (a1,a2) (by simp)
  rintro(⟨d,e⟩ | e)
  ·cases d with
   | nil=>injection e with e;cases e
   | cons b d=>injection e with e;injection e with e _;injection e with e;injection e with e _;cases e
  ·cases ms with
   | nil=>injection e with e;cases e
   | cons b d=>
    injection e with e
    injection e with e _
    injection e with e
    injection e with _ e
    injection e with e _
    cases a2 with
    | nil=>exact absurd rfl ha
    | cons c r=>
     obtain⟨b1,b2⟩:=b
     cases b2 with
     | nil=>injection e with e;cases e
     | cons q s=>injection e with e;injection e with e _;cases e
theorem Hl(l:List Int):fh (l.map D.int)=true:=ou (fun _=>rfl) l
theorem Gf{W:List (List Nat)}{ms:bj}{pc:d9}(x:PcX W ms pc)(hn:ms≠[]):Apart (dk ms) (aY pc):=by
 refine⟨MA ms,L8 ms,?_⟩
 have hi:∀ l:List Int,l≠[]→mn (fun e=>cP e=true∧¬ MA ms e) (eL D.int l):=fun l hl=>⟨⟨Hl l,IX hl⟩,mO fun _ _=>trivial⟩
 have hrow:∀ l:List (Int×List Int),l≠[]→(∀ p∈l,p.2≠[])→mn (fun e=>cP e=true∧¬ MA ms e) (eL (aj D.int (eL D.int)) l):=fun l hl hp=>⟨⟨ou (fun z=>by
   show(cP (.int z.1)&&(cP (eL D.int z.2)&&true))=true
   rw[show cP (eL D.int z.2)=true from Hl z.2]
   rfl) l,Jo hl hp⟩,mO fun p h=>⟨trivial,hi p.2 (hp p h),trivial⟩⟩
 refine⟨hi _ ?_,Aw fun _ _=>trivial,ti fun p hp=>ti fun q hq=>?_,trivial⟩
 ·rw[x.m]
  cases ms with
  | nil=>exact absurd rfl hn
  | cons a l=>simp
 ·obtain⟨_,_,hw⟩:=x.t.2 p hp
  have e:rws ms p.1 q.1=q.2:=by
   rw[←x.r]
   unfold br
   rw[d5 x.t.1 hp]
   show(aA p.2 q.1).getD []=_
   rw[d5 hw.1 hq]
   rfl
  exact hrow q.2 (hw.2 q hq).2 fun y hy=>Ld (ms:=ms) (f:=p.1) (w:=q.1) (by rw[e];exact hy)
theorem LS:sS "odd"∉FN:=by decide+kernel
theorem good{ns:List Int}{ms:bj}{pc:d9}(hm:iO ns=.ok ms)(hs:Fw ms)(hi:mz ms=.ok pc)(x:PcX (wG ms) ms pc):KGood ns ms pc:=by
 have hW:=(vT hs).2
 have h10:=hs.1
 have hno:sS "odd"∉pc.2.2.map (·.1):=fun z=>by
  obtain⟨p,hp,e⟩:=List.mem_map.mp z
  exact LS (by rw[←e];exact(x.t.2 p hp).1)
 refine⟨hm,by omega,hi,?_,x.m,Gj h10 hW x,fun p hp=>?_,FV hW x,?_,?_,?_⟩
 ·by_cases h:ms=[]
  ·exact .inl h
  ·exact .inr (Gf x h)
 ·have:=(hs.2.1 p hp).1.2.1
  rw[zL];omega
 ·unfold b6
  have h:=x.l (10^50) (sS "a")
  unfold su ui at h
  have hk:(10^50:Int)∉ms.map (·.1):=fun z=>by
   obtain⟨p,hp,e⟩:=List.mem_map.mp z
   have:=(hs.2.1 p hp).2.2
   have e2:(10^50:Int)=100000000000000000000000000000000000000000000000000:=by decide+kernel
   rw[e2]at e
   omega
  rw[h,cv hk]
  rfl
 ·rw[AX x,←x.r]
  unfold br
  rw[cv hno]
  rfl
 ·rw[tR hW x]
  have:bE pc.2.2 (sS "odd")=[]:=by unfold bE;rw[cv hno];rfl
  rw[this]
  exact congrArg M.ok (List.perm_nil.mp (fQ _))
theorem Jy(ns:List Int)(hl:ns.length≤63):∃ s,uw [Ga ns] []=.ok (.val (.d (.bl true))) s:=by
 obtain⟨ms,e1,h1⟩:=DS hl
 obtain⟨pc,e2,h2⟩:=Jl (vT h1).2 (vT h1).1
 obtain h:=ME (good e1 h1 e2 h2)
 exact⟨_,h⟩
end K06
namespace K06
open PySem L2 PyProof.Rows Vw
theorem CP:NM "FIGURES":=⟨by decide,by decide⟩
theorem zq:NM "GREAT":=⟨by decide,by decide⟩
theorem o6:NM "LETTERS":=⟨by decide,by decide⟩
theorem CM:NM "NoField":=⟨by decide,by decide⟩
theorem xR:NM "NoMake":=⟨by decide,by decide⟩
theorem FE:NM "Piece":=⟨by decide,by decide⟩
theorem CJ:NM "_law_at":=⟨by decide,by decide⟩
theorem mJ:NM "_law_base":=⟨by decide,by decide⟩
theorem cy:NM "_law_cell":=⟨by decide,by decide⟩
theorem pz:NM "_law_digit":=⟨by decide,by decide⟩
theorem iR:NM "_law_digits":=⟨by decide,by decide⟩
theorem tG:NM "_law_document":=⟨by decide,by decide⟩
theorem eP:NM "_law_document_here":=⟨by decide,by decide⟩
theorem k9:NM "_law_draws":=⟨by decide,by decide⟩
theorem cK:NM "_law_field":=⟨by decide,by decide⟩
theorem n3:NM "_law_fields":=⟨by decide,by decide⟩
theorem cJ:NM "_law_found":=⟨by decide,by decide⟩
theorem Az:NM "_law_free":=⟨by decide,by decide⟩
theorem iV:NM "_law_handed":=⟨by decide,by decide⟩
theorem kQ:NM "_law_k":=⟨by decide,by decide⟩
theorem cH:NM "_law_make":=⟨by decide,by decide⟩
theorem xY:NM "_law_makes":=⟨by decide,by decide⟩
theorem bJ:NM "_law_makes_here":=⟨by decide,by decide⟩
theorem yS:NM "_law_many":=⟨by decide,by decide⟩
theorem AF:NM "_law_more":=⟨by decide,by decide⟩
theorem mM:NM "_law_name":=⟨by decide,by decide⟩
theorem pM:NM "_law_names":=⟨by decide,by decide⟩
theorem iW:NM "_law_number":=⟨by decide,by decide⟩
theorem sI:NM "_law_one":=⟨by decide,by decide⟩
theorem bK:NM "_law_piece":=⟨by decide,by decide⟩
theorem nY:NM "_law_places":=⟨by decide,by decide⟩
theorem jH:NM "_law_rest":=⟨by decide,by decide⟩
theorem iJ:NM "_law_rows":=⟨by decide,by decide⟩
theorem iQ:NM "_law_script":=⟨by decide,by decide⟩
theorem q9:NM "_law_sign":=⟨by decide,by decide⟩
theorem k8:NM "_law_signs":=⟨by decide,by decide⟩
theorem xX:NM "_law_spoil":=⟨by decide,by decide⟩
theorem xU:NM "_law_table":=⟨by decide,by decide⟩
theorem iN:NM "_law_table_here":=⟨by decide,by decide⟩
theorem pQ:NM "_law_tells":=⟨by decide,by decide⟩
theorem zH:NM "_law_text":=⟨by decide,by decide⟩
theorem lu:NM "_law_text_here":=⟨by decide,by decide⟩
theorem jb:NM "_law_thing":=⟨by decide,by decide⟩
theorem jR:NM "_law_told":=⟨by decide,by decide⟩
theorem ef:NM "_law_word":=⟨by decide,by decide⟩
theorem px:NM "_law_words":=⟨by decide,by decide⟩
theorem cG:NM "_law_words_here":=⟨by decide,by decide⟩
theorem Kc:NM "abs":=⟨by decide,by decide⟩
theorem JD:("abs":Str)≠"__name__":=by decide
theorem Kl:NM "all":=⟨by decide,by decide⟩
theorem LP:("all":Str)≠"__name__":=by decide
theorem Ie:NM "bool":=⟨by decide,by decide⟩
theorem Ih:("bool":Str)≠"__name__":=by decide
theorem qd:NM "copied_postings":=⟨by decide,by decide⟩
theorem uo:NM "counted":=⟨by decide,by decide⟩
theorem IC:NM "dict":=⟨by decide,by decide⟩
theorem HV:("dict":Str)≠"__name__":=by decide
theorem hX:NM "document":=⟨by decide,by decide⟩
theorem dZ:NM "field":=⟨by decide,by decide⟩
theorem pq:NM "found":=⟨by decide,by decide⟩
theorem LO:NM "int":=⟨by decide,by decide⟩
theorem J4:("int":Str)≠"__name__":=by decide
theorem Dj:NM "is_name":=⟨by decide,by decide⟩
theorem vu:NM "last":=⟨by decide,by decide⟩
theorem qp:NM "len":=⟨by decide,by decide⟩
theorem qh:("len":Str)≠"__name__":=by decide
theorem vO:NM "list":=⟨by decide,by decide⟩
theorem wJ:("list":Str)≠"__name__":=by decide
theorem jY:NM "look_at_document":=⟨by decide,by decide⟩
theorem tf:NM "look_at_makes":=⟨by decide,by decide⟩
theorem Dd:NM "lowered":=⟨by decide,by decide⟩
theorem fm:NM "make":=⟨by decide,by decide⟩
theorem jj:NM "makes":=⟨by decide,by decide⟩
theorem oy:NM "many":=⟨by decide,by decide⟩
theorem LU:NM "min":=⟨by decide,by decide⟩
theorem J3:("min":Str)≠"__name__":=by decide
theorem Dr:NM "one":=⟨by decide,by decide⟩
theorem mj:NM "place":=⟨by decide,by decide⟩
theorem gO:NM "places":=⟨by decide,by decide⟩
theorem AH:NM "postings":=⟨by decide,by decide⟩
theorem eM:NM "self":=⟨by decide,by decide⟩
theorem ka:NM "sign":=⟨by decide,by decide⟩
theorem EC:NM "sorted":=⟨by decide,by decide⟩
theorem Du:("sorted":Str)≠"__name__":=by decide
theorem rE:NM "text":=⟨by decide,by decide⟩
theorem hV:NM "word":=⟨by decide,by decide⟩
theorem sO:NM "words":=⟨by decide,by decide⟩
theorem AG:NM "words_of":=⟨by decide,by decide⟩
structure Fx (P:Program) (w:World) (K:PySem.W.Frag) (mg:Str→Option Value) (base:Heap) (cA:String→Addr) where
 f__law_draws:Addr
 d__law_draws:FuncData
 F__law_draws:iu K "_law_draws" "_law_draws" (top 19) f__law_draws d__law_draws
 B__law_draws:Binds K d__law_draws ["_law_cell","_law_many","_law_base","_law_free"] []
 c9:mg "_law_draws"=some (.ref f__law_draws)
 f__law_text:Addr
 d__law_text:FuncData
 F__law_text:iu K "_law_text" "_law_text" (top 20) f__law_text d__law_text
 B__law_text:Binds K d__law_text ["_law_cell"] []
 hU:mg "_law_text"=some (.ref f__law_text)
 f__law_document:Addr
 d__law_document:FuncData
 F__law_document:iu K "_law_document" "_law_document" (top 21) f__law_document d__law_document
 B__law_document:Binds K d__law_document ["_law_cell","_law_more"] []
 fR:mg "_law_document"=some (.ref f__law_document)
 f__law_makes:Addr
 d__law_makes:FuncData
 F__law_makes:iu K "_law_makes" "_law_makes" (top 25) f__law_makes d__law_makes
 B__law_makes:Binds K d__law_makes ["_law_script"] []
 gH:mg "_law_makes"=some (.ref f__law_makes)
 f_is_name:Addr
 d_is_name:FuncData
 F_is_name:iu K "is_name" "is_name" (top 8) f_is_name d_is_name
 B_is_name:Binds K d_is_name ["text"] []
 kK:mg "is_name"=some (.ref f_is_name)
 f_look_at_document:Addr
 d_look_at_document:FuncData
 F_look_at_document:iu K "look_at_document" "look_at_document" (top 9) f_look_at_document d_look_at_document
 B_look_at_document:Binds K d_look_at_document ["document"] []
 dq:mg "look_at_document"=some (.ref f_look_at_document)
 f_look_at_makes:Addr
 d_look_at_makes:FuncData
 F_look_at_makes:iu K "look_at_makes" "look_at_makes" (top 13) f_look_at_makes d_look_at_makes
 B_look_at_makes:Binds K d_look_at_makes ["makes"] []
 c6:mg "look_at_makes"=some (.ref f_look_at_makes)
 f_lowered:Addr
 d_lowered:FuncData
 F_lowered:iu K "lowered" "lowered" (top 10) f_lowered d_lowered
 B_lowered:Binds K d_lowered ["sign"] []
 kH:mg "lowered"=some (.ref f_lowered)
 f_words_of:Addr
 d_words_of:FuncData
 F_words_of:iu K "words_of" "words_of" (top 11) f_words_of d_words_of
 B_words_of:Binds K d_words_of ["text"] []
 jT:mg "words_of"=some (.ref f_words_of)
 f_counted:Addr
 d_counted:FuncData
 F_counted:iu K "counted" "counted" (top 14) f_counted d_counted
 B_counted:Binds K d_counted ["document"] []
 gR:mg "counted"=some (.ref f_counted)
 f_Piece__take_in:Addr
 d_Piece__take_in:FuncData
 F_Piece__take_in:iu K "take_in" "Piece.take_in" (da 16 1) f_Piece__take_in d_Piece__take_in
 B_Piece__take_in:Binds K d_Piece__take_in ["self","field","make","places"] []
 m_Piece__take_in:Meth K (cA "Piece") (Str.ofString "take_in") f_Piece__take_in
 i5:Addr
 e7:FuncData
 F_Piece____init__:iu K "__init__" "Piece.__init__" (da 16 0) i5 e7
 B_Piece____init__:Binds K e7 ["self","makes"] []
 f_Piece__makes:Addr
 d_Piece__makes:FuncData
 F_Piece__makes:iu K "makes" "Piece.makes" (da 16 2) f_Piece__makes d_Piece__makes
 B_Piece__makes:Binds K d_Piece__makes ["self"] []
 cg:Meth K (cA "Piece") (Str.ofString "makes") f_Piece__makes
 f__law_words:Addr
 d__law_words:FuncData
 F__law_words:iu K "_law_words" "_law_words" (top 22) f__law_words d__law_words
 B__law_words:Binds K d__law_words ["_law_text_here"] []
 en:mg "_law_words"=some (.ref f__law_words)
 f__law_table:Addr
 d__law_table:FuncData
 F__law_table:iu K "_law_table" "_law_table" (top 23) f__law_table d__law_table
 B__law_table:Binds K d__law_table ["_law_makes_here"] []
 eg:mg "_law_table"=some (.ref f__law_table)
 f_Piece__fields:Addr
 d_Piece__fields:FuncData
 F_Piece__fields:iu K "fields" "Piece.fields" (da 16 3) f_Piece__fields d_Piece__fields
 B_Piece__fields:Binds K d_Piece__fields ["self"] []
 bT:Meth K (cA "Piece") (Str.ofString "fields") f_Piece__fields
 f_Piece__words:Addr
 d_Piece__words:FuncData
 F_Piece__words:iu K "words" "Piece.words" (da 16 4) f_Piece__words d_Piece__words
 B_Piece__words:Binds K d_Piece__words ["self","field"] []
 bB:Meth K (cA "Piece") (Str.ofString "words") f_Piece__words
 f_copied_postings:Addr
 d_copied_postings:FuncData
 F_copied_postings:iu K "copied_postings" "copied_postings" (top 15) f_copied_postings d_copied_postings
 B_copied_postings:Binds K d_copied_postings ["postings"] []
 dO:mg "copied_postings"=some (.ref f_copied_postings)
 f_Piece__postings:Addr
 d_Piece__postings:FuncData
 F_Piece__postings:iu K "postings" "Piece.postings" (da 16 5) f_Piece__postings d_Piece__postings
 B_Piece__postings:Binds K d_Piece__postings ["self","field","word"] []
 m_Piece__postings:Meth K (cA "Piece") (Str.ofString "postings") f_Piece__postings
 f_Piece__length:Addr
 d_Piece__length:FuncData
 F_Piece__length:iu K "length" "Piece.length" (da 16 6) f_Piece__length d_Piece__length
 B_Piece__length:Binds K d_Piece__length ["self","make","field"] []
 b6:Meth K (cA "Piece") (Str.ofString "length") f_Piece__length
 f__law_tells:Addr
 d__law_tells:FuncData
 F__law_tells:iu K "_law_tells" "_law_tells" (top 24) f__law_tells d__law_tells
 B__law_tells:Binds K d__law_tells ["_law_thing","_law_makes_here"] []
 dI:mg "_law_tells"=some (.ref f__law_tells)
 f__law_spoil:Addr
 d__law_spoil:FuncData
 F__law_spoil:iu K "_law_spoil" "_law_spoil" (top 26) f__law_spoil d__law_spoil
 B__law_spoil:Binds K d__law_spoil ["_law_piece","_law_makes_here"] []
 fC:mg "_law_spoil"=some (.ref f__law_spoil)
 f_law:Addr
 d_law:FuncData
 F_law:iu K "law" "law" (top 27) f_law d_law
 B_law:Binds K d_law ["_law_script"] []
 uw:mg "law"=some (.ref f_law)
 b_abs:mg "abs"=none
 b_all:mg "all"=none
 b_bool:mg "bool"=none
 b_dict:mg "dict"=none
 b_enumerate:mg "enumerate"=none
 b_int:mg "int"=none
 b_isinstance:mg "isinstance"=none
 b_len:mg "len"=none
 b_list:mg "list"=none
 b_min:mg "min"=none
 b_range:mg "range"=none
 b_sorted:mg "sorted"=none
 t_FIGURES:Tok
 c_FIGURES:mg "FIGURES"=some (.str "0123456789" t_FIGURES)
 t_GREAT:Tok
 c_GREAT:mg "GREAT"=some (.str "ABCDEFGHIJKLMNOPQRSTUVWXYZ" t_GREAT)
 t_LETTERS:Tok
 c_LETTERS:mg "LETTERS"=some (.str "abcdefghijklmnopqrstuvwxyz" t_LETTERS)
 gc_NoField:mg (Str.ofString "NoField")=some (.ref (cA "NoField"))
 gc_NoMake:mg (Str.ofString "NoMake")=some (.ref (cA "NoMake"))
 gc_Piece:mg (Str.ofString "Piece")=some (.ref (cA "Piece"))
 oa_NoField:Addr
 od_NoField:FuncData
 oi_NoField:OinF P w K mg base (cA "NoField") oa_NoField od_NoField
 oa_NoMake:Addr
 od_NoMake:FuncData
 oi_NoMake:OinF P w K mg base (cA "NoMake") oa_NoMake od_NoMake
 cl_Piece:Cls K (cA "Piece")
 k_Piece:Mk K (cA "Piece") i5
 fld:p8 K cA fT
section
variable{P:Program}{w:World}{K:PySem.W.Frag}{mg:Str→Option Value}{base:Heap}{cA:String→Addr}
theorem pA:FnScope ["_law_cell","_law_many","_law_base","_law_free","_law_found","_law_rest","_law_k","_law_number"] ["_law_cell","_law_many","_law_base","_law_free"] (defScope (top 19)):=iw
theorem eV(E:Fx P w K mg base cA):FnOk P w K mg base CX0 2 E.f__law_draws E.d__law_draws ["_law_cell","_law_many","_law_base","_law_free"] (cE cA 4 c9):=by
 refine gX (k:=1) E.F__law_draws pA rfl rfl fun cdv A outer s H E0 C hr hC=>?_
 have hu:=hr.units
 have nodupN:=pA.nd
 unfold jD
 exact(af (vg nodupN (cT av)) (af (vg nodupN (va cy)) (af (cS hC PassesOwn.never rfl (Ju (vc (va yS) av) rfl E.b_range rfl) (fun C hC hW=>(tn nodupN)) (fun C hC hW=>(af (Vw.g9 (PW.pt (Vw.v_and (x9 (va Az) rfl) (Vw.v_and (NB hu (lC call_abs Jq rfl E.b_abs JS (vc (va cy) av) rfl JD Kc.1) (Ce vi vi) rfl) (Vw.v_and (iS hu (va jH) vi rfl) (Vw.Dq (iS hu (va jH) (yk vi) rfl)))))) (af (dC (jk F.plainAttrs_list F.slot_list_append F.type_list_append mt_append dG fW (va cJ) (vc (jU (va jH) (va mJ)) av) rfl rfl (by decide) rfl) rfl) (af (vg nodupN (n4 (va jH) (va mJ))) ar)) (af (vg nodupN (jU (eG (va cy) (ya vi (va kQ))) vi)) (af (vg nodupN (jU (eG (ya (va iW) (va iW)) (va kQ)) vi)) (af (dC (jk F.plainAttrs_list F.slot_list_append F.type_list_append mt_append dG fW (va cJ) (vc (jU (jU (ya (va iW) (va iW)) vi) (va mJ)) av) rfl rfl (by decide) rfl) rfl) ar)))) ar)) rfl) (af (cx (va cJ)) ar))))
theorem qO:FnScope ["_law_cell","_law_digits","_law_words_here","_law_signs","_law_digit"] ["_law_cell"] (defScope (top 20)):=iw
theorem mr(E:Fx P w K mg base cA):FnOk P w K mg base CX0 4 E.f__law_text E.d__law_text ["_law_cell"] (cE cA 1 hU):=by
 have eV:=eV E
 refine gX (k:=3) E.F__law_text qO rfl rfl fun cdv A outer s H E0 C hr hC=>?_
 have hu:=hr.units
 have nodupN:=qO.nd
 unfold kB
 exact(af (Vw.g9 (GI hu (jU (va cy) vi) vi rfl) (af (uX nodupN rfl (.inr rfl) (.inl rfl) aM rfl) (af (uX nodupN rfl (.inr rfl) (.inl rfl) (eG (vb k8) aM) rfl) (af (vg nodupN (x_call hC eV (hr.mono (by omega)) rfl E.c9 E.F__law_draws.kp E.B__law_draws pass0 rfl (vc (n4 (va cy) vi) (vc vi (vc (lC call_len (oq _) rfl E.b_len qG (vc (vb k8) av) rfl qh qp.1) (vc vt av)))) k9.1 rfl)) (af (cx (jk F.plainAttrs_str F.slot_str_join F.type_str_join mt_join (Aj _) tT aM (vc (nU hC [("_law_digit",4)] rfl rfl nodupN (fy (Fo (va iR) (rF vi) (rF (eG vi (jU (vx hu (va iR) vi) vi))))) (by kernel_rfl) (fun s H D cl fp C hC=>⟨(tn nodupN),ir,(vx hu (vb k8) (va pz))⟩) rfl (by decide)) av) rfl rfl (by decide) rfl)) ar)))) ar) (af (vg nodupN (x_call hC eV (hr.mono (by omega)) rfl E.c9 E.F__law_draws.kp E.B__law_draws pass0 rfl (vc (va cy) (vc vi (vc vi (vc vt av)))) k9.1 rfl)) (af (uX nodupN rfl (.inr rfl) (.inl rfl) (cT (vc aM (vc aM (vc aM (vc aM (vc aM (vc aM (vc aM (vc aM (vc aM (vc aM (vc aM (vc aM av))))))))))))) rfl) (af (cx (jk F.plainAttrs_str F.slot_str_join F.type_str_join mt_join (Aj _) tT aM (vc (nU hC [("_law_digit",4)] rfl rfl nodupN (fy (Fo (va iR) (rF vi) (rF (eG vi (vx hu (va iR) vi))))) (by kernel_rfl) (fun s H D cl fp C hC=>⟨(tn nodupN),ir,(vx hu (vb cG) (va pz))⟩) rfl (by decide)) av) rfl rfl (by decide) rfl)) ar))))
theorem mS:FnScope ["_law_cell","_law_more","_law_names","_law_fields","_law_name","_law_k"] ["_law_cell","_law_more"] (defScope (top 21)):=iw
theorem jf(E:Fx P w K mg base cA):FnOk P w K mg base CX0 6 E.f__law_document E.d__law_document ["_law_cell","_law_more"] (cE cA 2 fR):=by
 have eV:=eV E
 have mr:=mr E
 refine gX (k:=5) E.F__law_document mS rfl rfl fun cdv A outer s H E0 C hr hC=>?_
 have hu:=hr.units
 have nodupN:=mS.nd
 unfold nI
 exact(af (vg nodupN (x_call hC eV (hr.mono (by omega)) rfl E.c9 E.F__law_draws.kp E.B__law_draws pass0 rfl (vc (va cy) (vc vi (vc vi (vc vt av)))) k9.1 rfl)) (af (vg nodupN (cT av)) (af (cS hC PassesOwn.never rfl (fy (cT (vc aM (vc aM (vc aM (vc aM (vc aM (vc aM (vc aM (vc aM (vc aM av))))))))))) (fun C hC hW=>(tn nodupN)) (fun C hC hW=>(af (Vw.g9 (n5 hu (jk F.plainAttrs_list F.slot_list_index F.type_list_index mt_index (FJ _) fW (cT (vc aM (vc aM (vc aM (vc aM (vc aM (vc aM (vc aM (vc aM (vc aM av)))))))))) (vc (va mM) av) rfl rfl (by decide) rfl) (Fo (va pM) (rF vi) (rF (eG vi (jU (vx hu (va pM) vi) vi)))) rfl) (af (dC (jk F.plainAttrs_list F.slot_list_append F.type_list_append mt_append dG fW (va n3) (vc (va mM) av) rfl rfl (by decide) rfl) rfl) ar) ar) ar)) rfl) (af (cx (nU hC [("_law_k",5),("_law_name",4)] rfl rfl nodupN (p9 (lC cr_sortedS (Eh _) rfl E.b_sorted DY (vc (va n3) av) rfl Du EC.1) rfl E.b_enumerate rfl) (by kernel_rfl) (fun s H D cl fp C hC=>⟨(bA rfl (ax (tn nodupN) (ax (tn nodupN) bz rfl) rfl) rfl rfl),ir,(hM (vc (va mM) (vc (x_call hC mr (hr.mono (by omega)) rfl E.hU E.F__law_text.kp E.B__law_text pass0 rfl (vc (n4 (vb AF) (eG vi (ya vi (va kQ)))) av) zH.1 rfl) av)))⟩) rfl (by decide))) ar))))
theorem pU:FnScope ["_law_script","_law_found","_law_make","_law_k","_law_cell"] ["_law_script"] (defScope (top 25)):=iw
theorem lg(E:Fx P w K mg base cA):FnOk P w K mg base CX0 8 E.f__law_makes E.d__law_makes ["_law_script"] (cE cA 1 gH):=by
 have jf:=jf E
 refine gX (k:=7) E.F__law_makes pU rfl rfl fun cdv A outer s H E0 C hr hC=>?_
 have hu:=hr.units
 have nodupN:=pU.nd
 unfold qV
 exact(af (vg nodupN (cT av)) (af (vg nodupN (yk vi)) (af (cS hC PassesOwn.never rfl (K8 (vc vi (vc (lC (call_min2 rfl) E7 rfl E.b_min JH (vc vi (vc (G0 (lC call_len (oq _) rfl E.b_len qG (vc (va iQ) av) rfl qh qp.1) vi) av)) rfl J3 LU.1) (vc vi av))) rfl E.b_range rfl) (fun C hC hW=>(tn nodupN)) (fun C hC hW=>(af (vg nodupN (vx hu (va iQ) (va kQ))) (af (vg nodupN (eG (eG (va cH) vi) (vx hu (cT (vc (jU (n4 (va cy) vi) vi) (vc (jU (n4 (va cy) vi) (Ce vi vi)) av))) (rk call_int1 IJ rfl E.b_int Lm (vc (JJ hu (jU (va cy) vi) vi rfl) av) rfl J4 LO.1)))) (af (dC (jk F.plainAttrs_list F.slot_list_append F.type_list_append mt_append dG fW (va cJ) (vc (hM (vc (va cH) (vc (x_call hC jf (hr.mono (by omega)) rfl E.fR E.F__law_document.kp E.B__law_document pass0 rfl (vc (n4 (va cy) vi) (vc (vx hu (va iQ) (eG (va kQ) vi)) av)) tG.1 rfl) av))) av) rfl rfl (by decide) rfl) rfl) ar)))) rfl) (af (cx (va cJ)) ar))))
theorem u5:FnScope ["text","sign"] ["text"] (defScope (top 8)):=iw
theorem oZ(E:Fx P w K mg base cA):FnOk P w K mg base CX0 2 E.f_is_name E.d_is_name ["text"] (cE cA 1 kK):=by
 refine gX (k:=1) E.F_is_name u5 rfl rfl fun cdv A outer s H E0 C hr hC=>?_
 have hu:=hr.units
 have nodupN:=u5.nd
 unfold xt
 exact(af (cx (Vw.Ep (Fh hu vi (lC call_len (oq _) rfl E.b_len qG (vc (va rE) av) rfl qh qp.1) vi rfl) (Vw.By (lC (cr_all rfl) (Jg _) rfl E.b_all KU (vc (nU hC [("sign",1)] rfl rfl nodupN (fy (va rE)) (by kernel_rfl) (fun s H D cl fp C hC=>⟨(tn nodupN),ir,(Ll hu (va ka) (om rfl E.c_LETTERS o6.1) rfl)⟩) rfl (by decide)) av) rfl LP Kl.1)))) ar)
theorem jX:FnScope ["document","last","place","field","text"] ["document"] (defScope (top 9)):=iw
theorem fF(E:Fx P w K mg base cA):FnOk P w K mg base (L2.CX P w) 4 E.f_look_at_document E.d_look_at_document ["document"] (cE cA 1 dq):=by
 have oZ:=oZ E
 refine ye (k:=3) E.F_look_at_document jX rfl rfl fun cdv A outer s H E0 C hr hC tk=>?_
 have hu:=hr.units
 have nodupN:=jX.nd
 unfold kG
 exact(af (vg nodupN aM) (af (cS hC (L2.passes_of rfl) rfl (p9 (va hX) rfl E.b_enumerate rfl) (fun C hC hW=>(bA rfl (ax (tn nodupN) (ax (bA rfl (ax (tn nodupN) (ax (tn nodupN) bz rfl) rfl) rfl rfl) bz rfl) rfl) rfl rfl)) (fun C hC hW=>have tk:=hW▸tk;(af (Vw.g9 (PW.pt (Vw.v_or (Vw.v_not (x9 (x_call hC oZ (hr.mono (by omega)) rfl E.kK E.F_is_name.kp E.B_is_name pass0 rfl (vc (va dZ) av) Dj.1 rfl) rfl)) (Vw.yh (Cb hu (va dZ) (va vu) rfl)))) (af (tJ hC rfl tk (hr.mono (by omega)) E.oi_NoField E.gc_NoField rfl (va mj) rfl CM.1) ar) ar) (af (vg nodupN (va dZ)) ar))) rfl) ar))
theorem mK:FnScope ["makes","last","place","make","document"] ["makes"] (defScope (top 13)):=iw
theorem jh(E:Fx P w K mg base cA):FnOk P w K mg base (L2.CX P w) 6 E.f_look_at_makes E.d_look_at_makes ["makes"] (cE cA 1 c6):=by
 have fF:=fF E
 refine ye (k:=5) E.F_look_at_makes mK rfl rfl fun cdv A outer s H E0 C hr hC tk=>?_
 have hu:=hr.units
 have nodupN:=mK.nd
 unfold nF
 exact(af (vg nodupN (yk vi)) (af (HA (Ka (L2.passes_of rfl) rfl (va jj) rfl E.b_enumerate rfl (bA rfl (ax (tn nodupN) (ax (bA rfl (ax (tn nodupN) (ax (tn nodupN) bz rfl) rfl) rfl rfl) bz rfl) rfl) rfl rfl) (af (Vw.g9 (Cb hu (va fm) (va vu) rfl) (af (tJ hC rfl tk (hr.mono (by omega)) E.oi_NoMake E.gc_NoMake rfl (va mj) rfl xR.1) ar) ar) (af (vg nodupN (va fm)) (af (dC (v3 hC tk fF (hr.mono (by omega)) rfl E.dq E.F_look_at_document.kp E.B_look_at_document rfl (vc (va hX) av) jY.1 rfl) rfl) ar))) rfl) (cS hC (L2.passes_of rfl) rfl (p9 (va jj) rfl E.b_enumerate rfl) (fun C hC hW=>(bA rfl (ax (tn nodupN) (ax (bA rfl (ax (tn nodupN) (ax (tn nodupN) bz rfl) rfl) rfl rfl) bz rfl) rfl) rfl rfl)) (fun C hC hW=>have tk:=hW▸tk;(af (Vw.g9 (Cb hu (va fm) (va vu) rfl) (af (tJ hC rfl tk (hr.mono (by omega)) E.oi_NoMake E.gc_NoMake rfl (va mj) rfl xR.1) ar) ar) (af (vg nodupN (va fm)) (af (dC (v3 hC tk fF (hr.mono (by omega)) rfl E.dq E.F_look_at_document.kp E.B_look_at_document rfl (vc (va hX) av) jY.1 rfl) rfl) ar)))) rfl)) ar))
theorem tU:FnScope ["sign"] ["sign"] (defScope (top 10)):=iw
theorem oD(E:Fx P w K mg base cA):FnOk P w K mg base CX0 2 E.f_lowered E.d_lowered ["sign"] (cE cA 1 kH):=by
 refine gX (k:=1) E.F_lowered tU rfl rfl fun cdv A outer s H E0 C hr hC=>?_
 have hu:=hr.units
 have nodupN:=tU.nd
 unfold xD
 exact(af (Vw.g9 (n5 hu (va ka) (om rfl E.c_GREAT zq.1) rfl) (af (cx (vx hu (om rfl E.c_LETTERS o6.1) (jk F.plainAttrs_str F.slot_str_index F.type_str_index mt_sindex En tT (om rfl E.c_GREAT zq.1) (vc (va ka) av) rfl rfl (by decide) rfl))) ar) ar) (af (Vw.g9 (PW.pt (Vw.v_or (n5 hu (va ka) (om rfl E.c_LETTERS o6.1) rfl) (Vw.yh (n5 hu (va ka) (om rfl E.c_FIGURES CP.1) rfl)))) (af (cx (va ka)) ar) ar) (af (cx aM) ar)))
theorem sA:FnScope ["text","found","word","place","sign","one"] ["text"] (defScope (top 11)):=iw
theorem nV(E:Fx P w K mg base cA):FnOk P w K mg base CX0 4 E.f_words_of E.d_words_of ["text"] (cE cA 1 jT):=by
 have oD:=oD E
 refine gX (k:=3) E.F_words_of sA rfl rfl fun cdv A outer s H E0 C hr hC=>?_
 have hu:=hr.units
 have nodupN:=sA.nd
 unfold uL
 exact(af (vg nodupN (cT av)) (af (vg nodupN aM) (af (cS hC PassesOwn.never rfl (p9 (eG (va rE) aM) rfl E.b_enumerate rfl) (fun C hC hW=>(bA rfl (ax (tn nodupN) (ax (tn nodupN) bz rfl) rfl) rfl rfl)) (fun C hC hW=>(af (vg nodupN (x_call hC oD (hr.mono (by omega)) rfl E.kH E.F_lowered.kp E.B_lowered pass0 rfl (vc (va ka) av) Dd.1 rfl)) (af (Vw.g9 (PW.pt (Vw.v_and (GI hu (va Dr) aM rfl) (Vw.Dq (iS hu (va hV) aM rfl)))) (af (dC (jk F.plainAttrs_list F.slot_list_append F.type_list_append mt_append dG fW (va pq) (vc (hM (vc (va hV) (vc (G0 (va mj) (lC call_len (oq _) rfl E.b_len qG (vc (va hV) av) rfl qh qp.1)) (vc (va mj) av)))) av) rfl rfl (by decide) rfl) rfl) (af (vg nodupN aM) ar)) ar) (af (vg nodupN (eG (va hV) (va Dr))) ar)))) rfl) (af (cx (va pq)) ar))))
theorem uT:FnScope ["document","found","field","text","places","many","word","begin","end"] ["document"] (defScope (top 14)):=iw
theorem lG(E:Fx P w K mg base cA):FnOk P w K mg base CX0 6 E.f_counted E.d_counted ["document"] (cE cA 1 gR):=by
 have nV:=nV E
 refine gX (k:=5) E.F_counted uT rfl rfl fun cdv A outer s H E0 C hr hC=>?_
 have hu:=hr.units
 have nodupN:=uT.nd
 unfold xj
 exact(af (vg nodupN iL) (af (cS hC PassesOwn.never rfl (fy (va hX)) (fun C hC hW=>(bA rfl (ax (tn nodupN) (ax (tn nodupN) bz rfl) rfl) rfl rfl)) (fun C hC hW=>(af (vg nodupN iL) (af (vg nodupN vi) (af (cS hC PassesOwn.never rfl (fy (x_call hC nV (hr.mono (by omega)) rfl E.jT E.F_words_of.kp E.B_words_of pass0 rfl (vc (va rE) av) AG.1 rfl)) (fun C hC hW=>(bA rfl (ax (tn nodupN) (ax (tn nodupN) (ax (tn nodupN) bz rfl) rfl) rfl) rfl rfl)) (fun C hC hW=>(af (lE hu (va gO) (va hV) (eG (i9 hu (va gO) (va hV) (cT av) ⟨df rfl,gb rfl (by decide),rfl,rfl⟩) (cT (vc (va oy) av))) rfl rfl) (af (K9 nodupN rfl (.inl rfl) (.inr rfl) vi) ar))) rfl) (af (Vw.g9 (Nb hu (va oy) vi rfl) (af (lE hu (va pq) (va dZ) (hM (vc (va oy) (vc (va gO) av))) rfl rfl) ar) ar) ar))))) rfl) (af (cx (va pq)) ar)))
theorem lB:FnScope ["self","field","make","places","words","word"] ["self","field","make","places"] (defScope (da 16 1)):=iw
theorem gm(E:Fx P w K mg base cA):FnOk P w K mg base CX0 2 E.f_Piece__take_in E.d_Piece__take_in ["self","field","make","places"] (cE cA 4 dX):=by
 refine gX (k:=1) E.F_Piece__take_in lB rfl rfl fun cdv A outer s H E0 C hr hC=>?_
 have hu:=hr.units
 have nodupN:=lB.nd
 unfold mL
 exact(af (vg nodupN (De (vr hu (lD hC E.fld (va eM) rfl) (va dZ) iL ⟨df rfl,gb rfl (by decide),rfl,rfl⟩))) (af (lE hu (lD hC E.fld (va eM) rfl) (va dZ) (va sO) rfl rfl) (af (cS hC PassesOwn.never rfl (Lu (va gO) (df rfl) rfl) (fun C hC hW=>(tn nodupN)) (fun C hC hW=>(af (lE hu (va sO) (va hV) (eG (i9 hu (va sO) (va hV) (cT av) ⟨df rfl,gb rfl (by decide),rfl,rfl⟩) (cT (vc (hM (vc (va fm) (vc (vx hu (va gO) (va hV)) av))) av))) rfl rfl) ar)) rfl) ar)))
theorem kE:FnScope ["self","makes","make","document","field","many","places"] ["self","makes"] (defScope (da 16 0)):=iw
theorem iA(E:Fx P w K mg base cA):FnOk P w K mg base (L2.CX P w) 8 E.i5 E.e7 ["self","makes"] (cE cA 2 bY):=by
 have jh:=jh E
 have lG:=lG E
 have gm:=gm E
 refine ye (k:=7) E.F_Piece____init__ kE rfl rfl fun cdv A outer s H E0 C hr hC tk=>?_
 have hu:=hr.units
 have nodupN:=kE.nd
 unfold ly
 exact(af (dC (v3 hC tk jh (hr.mono (by omega)) rfl E.c6 E.F_look_at_makes.kp E.B_look_at_makes rfl (vc (va jj) av) tf.1 rfl) rfl) (af (IB hC E.fld (va eM) (KS (Mw hC [("make",2),("document",3)] rfl rfl nodupN (va jj) (by kernel_rfl) (fun s H D cl fp C hC=>⟨(bA rfl (ax (tn nodupN) (ax (tn nodupN) bz rfl) rfl) rfl rfl),ir,(va fm)⟩) rfl (by decide)) (nU hC [("make",2),("document",3)] rfl rfl nodupN (fy (va jj)) (by kernel_rfl) (fun s H D cl fp C hC=>⟨(bA rfl (ax (tn nodupN) (ax (tn nodupN) bz rfl) rfl) rfl rfl),ir,(va fm)⟩) rfl (by decide))) rfl) (af (Ea hC E.fld (va eM) (oQ KC) rfl) (af (Ea hC E.fld (va eM) (oQ iL) rfl) (af (HA (zj (L2.passes_of rfl) rfl (va jj) (bA rfl (ax (tn nodupN) (ax (tn nodupN) bz rfl) rfl) rfl rfl) (af (cS hC (L2.passes_of rfl) rfl (BV (x_call hC lG (hr.mono (by omega)) rfl E.gR E.F_counted.kp E.B_counted pass0 rfl (vc (va hX) av) uo.1 rfl) (df rfl) rfl) (fun C hC hW=>(bA rfl (ax (tn nodupN) (ax (bA rfl (ax (tn nodupN) (ax (tn nodupN) bz rfl) rfl) rfl rfl) bz rfl) rfl) rfl rfl)) (fun C hC hW=>have tk:=hW▸tk;(af (lE hu (lD hC E.fld (va eM) rfl) (hM (vc (va fm) (vc (va dZ) av))) (va oy) rfl rfl) (af (dC (jP hC mR E.cl_Piece E.m_Piece__take_in gm (hr.mono (by omega)) E.B_Piece__take_in rfl (va eM) (vc (va dZ) (vc (va fm) (vc (va gO) av))) rfl rfl) rfl) ar))) rfl) ar) rfl) (cS hC (L2.passes_of rfl) rfl (fy (va jj)) (fun C hC hW=>(bA rfl (ax (tn nodupN) (ax (tn nodupN) bz rfl) rfl) rfl rfl)) (fun C hC hW=>have tk:=hW▸tk;(af (cS hC (L2.passes_of rfl) rfl (BV (x_call hC lG (hr.mono (by omega)) rfl E.gR E.F_counted.kp E.B_counted pass0 rfl (vc (va hX) av) uo.1 rfl) (df rfl) rfl) (fun C hC hW=>(bA rfl (ax (tn nodupN) (ax (bA rfl (ax (tn nodupN) (ax (tn nodupN) bz rfl) rfl) rfl rfl) bz rfl) rfl) rfl rfl)) (fun C hC hW=>have tk:=hW▸tk;(af (lE hu (lD hC E.fld (va eM) rfl) (hM (vc (va fm) (vc (va dZ) av))) (va oy) rfl rfl) (af (dC (jP hC mR E.cl_Piece E.m_Piece__take_in gm (hr.mono (by omega)) E.B_Piece__take_in rfl (va eM) (vc (va dZ) (vc (va fm) (vc (va gO) av))) rfl rfl) rfl) ar))) rfl) ar)) rfl)) ar)))))
theorem nN:FnScope ["self"] ["self"] (defScope (da 16 2)):=iw
theorem dH(E:Fx P w K mg base cA):FnOk P w K mg base CX0 2 E.f_Piece__makes E.d_Piece__makes ["self"] (cE cA 1 cM):=by
 refine gX (k:=1) E.F_Piece__makes nN rfl rfl fun cdv A outer s H E0 C hr hC=>?_
 have hu:=hr.units
 have nodupN:=nN.nd
 unfold oj
 exact(af (cx (rk call_list_of (sU _) rfl E.b_list vV (vc (lD hC E.fld (va eM) rfl) av) rfl wJ vO.1)) ar)
theorem pO:FnScope ["_law_text_here","_law_found","_law_word","_law_sign"] ["_law_text_here"] (defScope (top 22)):=iw
theorem fM(E:Fx P w K mg base cA):FnOk P w K mg base CX0 2 E.f__law_words E.d__law_words ["_law_text_here"] (cE cA 1 en):=by
 refine gX (k:=1) E.F__law_words pO rfl rfl fun cdv A outer s H E0 C hr hC=>?_
 have hu:=hr.units
 have nodupN:=pO.nd
 unfold qj
 exact(af (vg nodupN (cT av)) (af (vg nodupN aM) (af (cS hC PassesOwn.never rfl (fy (eG (va lu) aM)) (fun C hC hW=>(tn nodupN)) (fun C hC hW=>(af (Vw.g9 (n5 hu (va q9) aM rfl) (af (vg nodupN (eG (va ef) (CQ F.plainAttrs_str F.slot_str_lower F.type_str_lower mt_lower D6 tT (va q9) rfl rfl))) ar) (af (Vw.g9 (iS hu (va ef) aM rfl) (af (dC (jk F.plainAttrs_list F.slot_list_append F.type_list_append mt_append dG fW (va cJ) (vc (va ef) av) rfl rfl (by decide) rfl) rfl) (af (vg nodupN aM) ar)) ar) ar)) ar)) rfl) (af (cx (va cJ)) ar))))
theorem pT:FnScope ["_law_makes_here","_law_found","_law_make","_law_document_here","_law_field","_law_text_here","_law_at","_law_word","_law_words_here","_law_rows"] ["_law_makes_here"] (defScope (top 23)):=iw
theorem lp(E:Fx P w K mg base cA):FnOk P w K mg base CX0 4 E.f__law_table E.d__law_table ["_law_makes_here"] (cE cA 1 eg):=by
 have fM:=fM E
 refine gX (k:=3) E.F__law_table pT rfl rfl fun cdv A outer s H E0 C hr hC=>?_
 have hu:=hr.units
 have nodupN:=pT.nd
 unfold rl
 exact(af (vg nodupN (oQ iL)) (af (cS hC PassesOwn.never rfl (fy (va bJ)) (fun C hC hW=>(bA rfl (ax (tn nodupN) (ax (tn nodupN) bz rfl) rfl) rfl rfl)) (fun C hC hW=>(af (cS hC PassesOwn.never rfl (fy (va eP)) (fun C hC hW=>(bA rfl (ax (tn nodupN) (ax (tn nodupN) bz rfl) rfl) rfl rfl)) (fun C hC hW=>(af (cS hC PassesOwn.never rfl (p9 (x_call hC fM (hr.mono (by omega)) rfl E.en E.F__law_words.kp E.B__law_words pass0 rfl (vc (va lu) av) px.1 rfl) rfl E.b_enumerate rfl) (fun C hC hW=>(bA rfl (ax (tn nodupN) (ax (tn nodupN) bz rfl) rfl) rfl rfl)) (fun C hC hW=>(af (vg nodupN (De (vr hu (va cJ) (va cK) iL ⟨df rfl,gb rfl (by decide),rfl,rfl⟩))) (af (lE hu (va cJ) (va cK) (va cG) rfl rfl) (af (vg nodupN (De (vr hu (va cG) (va ef) iL ⟨df rfl,gb rfl (by decide),rfl,rfl⟩))) (af (lE hu (va cG) (va ef) (va iJ) rfl rfl) (af (lE hu (va iJ) (va cH) (eG (i9 hu (va iJ) (va cH) (cT av) ⟨df rfl,gb rfl (by decide),rfl,rfl⟩) (cT (vc (va CJ) av))) rfl rfl) ar)))))) rfl) ar)) rfl) ar)) rfl) (af (cx (va cJ)) ar)))
theorem mx:FnScope ["self"] ["self"] (defScope (da 16 3)):=iw
theorem dj(E:Fx P w K mg base cA):FnOk P w K mg base CX0 2 E.f_Piece__fields E.d_Piece__fields ["self"] (cE cA 1 eF):=by
 refine gX (k:=1) E.F_Piece__fields mx rfl rfl fun cdv A outer s H E0 C hr hC=>?_
 have hu:=hr.units
 have nodupN:=mx.nd
 unfold nE
 exact(af (cx (jt rfl hu rfl E.b_sorted (lD hC E.fld (va eM) rfl) rfl (df rfl) rfl)) ar)
theorem nJ:FnScope ["self","field"] ["self","field"] (defScope (da 16 4)):=iw
theorem b0(E:Fx P w K mg base cA):FnOk P w K mg base CX0 2 E.f_Piece__words E.d_Piece__words ["self","field"] (cE cA 2 cj):=by
 refine gX (k:=1) E.F_Piece__words nJ rfl rfl fun cdv A outer s H E0 C hr hC=>?_
 have hu:=hr.units
 have nodupN:=nJ.nd
 unfold ot
 exact(af (cx (jt rfl hu rfl E.b_sorted (i9 hu (lD hC E.fld (va eM) rfl) (va dZ) iL ⟨df rfl,gb rfl (by decide),rfl,rfl⟩) rfl (df rfl) rfl)) ar)
theorem kM:FnScope ["postings","make","places"] ["postings"] (defScope (top 15)):=iw
theorem iB(E:Fx P w K mg base cA):FnOk P w K mg base CX0 2 E.f_copied_postings E.d_copied_postings ["postings"] (cE cA 1 dO):=by
 refine gX (k:=1) E.F_copied_postings kM rfl rfl fun cdv A outer s H E0 C hr hC=>?_
 have hu:=hr.units
 have nodupN:=kM.nd
 unfold lx
 exact(af (cx (nU hC [("make",1),("places",2)] rfl rfl nodupN (fy (va AH)) (by kernel_rfl) (fun s H D cl fp C hC=>⟨(bA rfl (ax (tn nodupN) (ax (tn nodupN) bz rfl) rfl) rfl rfl),ir,(hM (vc (va fm) (vc (oQ (rk call_list_of (sU _) rfl E.b_list vV (vc (va gO) av) rfl wJ vO.1)) av)))⟩) rfl (by decide))) ar)
theorem kN:FnScope ["self","field","word"] ["self","field","word"] (defScope (da 16 5)):=iw
theorem bR(E:Fx P w K mg base cA):FnOk P w K mg base CX0 4 E.f_Piece__postings E.d_Piece__postings ["self","field","word"] (cE cA 3 aU):=by
 have iB:=iB E
 refine gX (k:=3) E.F_Piece__postings kN rfl rfl fun cdv A outer s H E0 C hr hC=>?_
 have hu:=hr.units
 have nodupN:=kN.nd
 unfold lz
 exact(af (cx (x_call hC iB (hr.mono (by omega)) rfl E.dO E.F_copied_postings.kp E.B_copied_postings pass0 rfl (vc (i9 hu (i9 hu (lD hC E.fld (va eM) rfl) (va dZ) iL ⟨df rfl,gb rfl (by decide),rfl,rfl⟩) (va hV) (cT av) ⟨df rfl,gb rfl (by decide),rfl,rfl⟩) av) qd.1 rfl)) ar)
theorem mD:FnScope ["self","make","field"] ["self","make","field"] (defScope (da 16 6)):=iw
theorem d3(E:Fx P w K mg base cA):FnOk P w K mg base CX0 2 E.f_Piece__length E.d_Piece__length ["self","make","field"] (cE cA 3 eS):=by
 refine gX (k:=1) E.F_Piece__length mD rfl rfl fun cdv A outer s H E0 C hr hC=>?_
 have hu:=hr.units
 have nodupN:=mD.nd
 unfold nc
 exact(af (cx (i9 hu (lD hC E.fld (va eM) rfl) (hM (vc (va fm) (vc (va dZ) av))) vi ⟨df rfl,gb rfl (by decide),rfl,rfl⟩)) ar)
theorem pP:FnScope ["_law_thing","_law_makes_here","_law_table_here","_law_field","_law_words_here","_law_word","_law_rows","_law_told","_law_make","_law_document_here","_law_places","_law_one"] ["_law_thing","_law_makes_here"] (defScope (top 24)):=iw
theorem jc(E:Fx P w K mg base cA):FnOk P w K mg base CX0 6 E.f__law_tells E.d__law_tells ["_law_thing","_law_makes_here"] (cE cA 2 dI):=by
 have lp:=lp E
 have dj:=dj E
 have b0:=b0 E
 have bR:=bR E
 have d3:=d3 E
 have fM:=fM E
 refine gX (k:=5) E.F__law_tells pP rfl rfl fun cdv A outer s H E0 C hr hC=>?_
 have hu:=hr.units
 have nodupN:=pP.nd
 unfold qK
 exact(af (vg nodupN (J7 hC lp (hr.mono (by omega)) rfl E.eg E.F__law_table.kp E.B__law_table pass0 rfl (vc (va bJ) av) xU.1 rfl)) (af (Vw.g9 (iS hu (oB hC mR E.cl_Piece E.bT dj (hr.mono (by omega)) E.B_Piece__fields rfl (va jb) rfl) (jt rfl hu rfl E.b_sorted (va iN) rfl (df rfl) rfl) rfl) (af (cx vt) ar) ar) (af (cS hC PassesOwn.never rfl (fy (eG (jt rfl hu rfl E.b_sorted (va iN) rfl (df rfl) rfl) (cT (vc aM av)))) (fun C hC hW=>(tn nodupN)) (fun C hC hW=>(af (vg nodupN (i9 hu (va iN) (va cK) iL ⟨df rfl,gb rfl (by decide),rfl,rfl⟩)) (af (Vw.g9 (iS hu (jP hC mR E.cl_Piece E.bB b0 (hr.mono (by omega)) E.B_Piece__words rfl (va jb) (vc (va cK) av) rfl rfl) (jt rfl hu rfl E.b_sorted (va cG) rfl (df rfl) rfl) rfl) (af (cx vt) ar) ar) (af (cS hC PassesOwn.never rfl (fy (eG (jt rfl hu rfl E.b_sorted (va cG) rfl (df rfl) rfl) (cT (vc aM av)))) (fun C hC hW=>(tn nodupN)) (fun C hC hW=>(af (uX nodupN rfl (.inr rfl) (.inl rfl) (i9 hu (va cG) (va ef) iL ⟨df rfl,gb rfl (by decide),rfl,rfl⟩) rfl) (af (vg nodupN (jP hC (Pw 6) E.cl_Piece E.m_Piece__postings bR (hr.mono (by omega)) E.B_Piece__postings rfl (va jb) (vc (va cK) (vc (va ef) av)) rfl rfl)) (af (Vw.g9 (iS hu (va jR) (nU hC [("_law_make",8)] rfl rfl nodupN (fy (Fi rfl rfl E.b_sorted (vb iJ) rfl (df rfl) rfl)) (by kernel_rfl) (fun s H D cl fp C hC=>⟨(tn nodupN),ir,(hM (vc (va cH) (vc (vx hu (vb iJ) (va cH)) av)))⟩) rfl (by decide)) rfl) (af (cx vt) ar) ar) (af (cS hC PassesOwn.never rfl (fy (va jR)) (fun C hC hW=>(bA rfl (ax (tn nodupN) (ax (tn nodupN) bz rfl) rfl) rfl rfl)) (fun C hC hW=>(af (Vw.g9 (iS hu (nU hC [("_law_one",11)] rfl rfl nodupN (fy (eG (cT (vc (va cH) av)) (va nY))) (by kernel_rfl) (fun s H D cl fp C hC=>⟨(tn nodupN),(Kf (x9 (L7 (va sI) rfl E.b_isinstance rfl E.b_bool I8 (by decide) rfl Ih Ie.1) rfl)),(va sI)⟩) rfl (by decide)) (cT av) rfl) (af (cx vt) ar) ar) ar)) rfl) ar))))) rfl) (af (cS hC PassesOwn.never rfl (fy (va bJ)) (fun C hC hW=>(bA rfl (ax (tn nodupN) (ax (tn nodupN) bz rfl) rfl) rfl rfl)) (fun C hC hW=>(af (Vw.g9 (iS hu (jP hC mR E.cl_Piece E.b6 d3 (hr.mono (by omega)) E.B_Piece__length rfl (va jb) (vc (va cH) (vc (va cK) av)) rfl rfl) (lC call_len (oq _) rfl E.b_len qG (vc (x_call hC fM (hr.mono (by omega)) rfl E.en E.F__law_words.kp E.B__law_words pass0 rfl (vc (i9 hu (rk (call_dictP rfl) (Gk _) rfl E.b_dict Iq (vc (va eP) av) rfl HV IC.1) (va cK) aM ⟨df rfl,gb rfl (by decide),rfl,rfl⟩) av) px.1 rfl) av) rfl qh qp.1) rfl) (af (cx vt) ar) ar) ar)) rfl) ar))))) rfl) (af (cx vt) ar))))
theorem pR:FnScope ["_law_piece","_law_makes_here","_law_field","_law_word","_law_told","_law_make","_law_places"] ["_law_piece","_law_makes_here"] (defScope (top 26)):=iw
theorem kZ(E:Fx P w K mg base cA):FnOk P w K mg base CX0 6 E.f__law_spoil E.d__law_spoil ["_law_piece","_law_makes_here"] (cE cA 2 fC):=by
 have dH:=dH E
 have dj:=dj E
 have b0:=b0 E
 have bR:=bR E
 refine gX (k:=5) E.F__law_spoil pR rfl rfl fun cdv A outer s H E0 C hr hC=>?_
 have hu:=hr.units
 have nodupN:=pR.nd
 unfold qq
 exact(af (dC (jk F.plainAttrs_list F.slot_list_append F.type_list_append mt_append dG fW (oQ (oB hC mR E.cl_Piece E.cg dH (hr.mono (by omega)) E.B_Piece__makes rfl (va bK) rfl)) (vc vi av) rfl rfl (by decide) rfl) rfl) (af (dC (jk F.plainAttrs_list F.slot_list_append F.type_list_append mt_append dG fW (oQ (oB hC mR E.cl_Piece E.bT dj (hr.mono (by omega)) E.B_Piece__fields rfl (va bK) rfl)) (vc aM av) rfl rfl (by decide) rfl) rfl) (af (cS hC PassesOwn.never rfl (fy (oB hC mR E.cl_Piece E.bT dj (hr.mono (by omega)) E.B_Piece__fields rfl (va bK) rfl)) (fun C hC hW=>(tn nodupN)) (fun C hC hW=>(af (dC (jk F.plainAttrs_list F.slot_list_append F.type_list_append mt_append dG fW (oQ (jP hC mR E.cl_Piece E.bB b0 (hr.mono (by omega)) E.B_Piece__words rfl (va bK) (vc (va cK) av) rfl rfl)) (vc aM av) rfl rfl (by decide) rfl) rfl) (af (cS hC PassesOwn.never rfl (fy (jP hC mR E.cl_Piece E.bB b0 (hr.mono (by omega)) E.B_Piece__words rfl (va bK) (vc (va cK) av) rfl rfl)) (fun C hC hW=>(tn nodupN)) (fun C hC hW=>(af (vg nodupN (oQ (jP hC mR E.cl_Piece E.m_Piece__postings bR (hr.mono (by omega)) E.B_Piece__postings rfl (va bK) (vc (va cK) (vc (va ef) av)) rfl rfl))) (af (zj PassesOwn.never rfl (va jR) (bA rfl (ax (tn nodupN) (ax (tn nodupN) bz rfl) rfl) rfl rfl) (af (dC (jk F.plainAttrs_list F.slot_list_append F.type_list_append mt_append dG fW (va nY) (vc vi av) rfl rfl (by decide) rfl) rfl) ar) rfl) (af (dC (CQ F.plainAttrs_list F.slot_list_clear F.type_list_clear mt_clear xr fW (va jR) rfl rfl) rfl) ar)))) rfl) ar))) rfl) ar)))
theorem EG:FnScope ["_law_script","_law_makes_here","_law_handed","_law_piece","_law_make","_law_document_here"] ["_law_script"] (defScope (top 27)):=iw
theorem Ke(E:Fx P w K mg base cA):FnOk P w K mg base (L2.CX P w) 10 E.f_law E.d_law ["_law_script"] (cE cA 1 uw):=by
 have lg:=lg E
 have iA:=iA E
 have dH:=dH E
 have jc:=jc E
 have kZ:=kZ E
 have d3:=d3 E
 have bR:=bR E
 have b0:=b0 E
 refine ye (k:=9) E.F_law EG rfl rfl fun cdv A outer s H E0 C hr hC tk=>?_
 have hu:=hr.units
 have nodupN:=EG.nd
 unfold G8
 exact(af (vg nodupN (x_call hC lg (hr.mono (by omega)) rfl E.gH E.F__law_makes.kp E.B__law_makes pass0 rfl (vc (va iQ) av) xY.1 rfl)) (af (FX hC [("_law_make",4),("_law_document_here",5)] rfl rfl nodupN rfl rfl rfl rfl (by kernel_rfl) (fy (va bJ)) (by kernel_rfl) (fun s H D cl fp C hC=>⟨(bA rfl (ax (tn nodupN) (ax (tn nodupN) bz rfl) rfl) rfl rfl),ir,(hM (vc (va cH) (vc (oQ (rk call_list_of (sU _) rfl E.b_list vV (vc (va eP) av) rfl wJ vO.1)) av)))⟩) rfl (by decide)) (af (vg nodupN (KR hC tk E.k_Piece iA (hr.mono (by omega)) rfl E.gc_Piece E.B_Piece____init__ rfl (vc (va iV) av) FE.1 rfl)) (af (Vw.g9 (PW.pt (Vw.v_or (La hu (va iV) (va bJ) rfl) (Vw.v_or (iS hu (oB hC mR E.cl_Piece E.cg dH (hr.mono (by omega)) E.B_Piece__makes rfl (va bK) rfl) (nU hC [("_law_make",4),("_law_document_here",5)] rfl rfl nodupN (fy (va bJ)) (by kernel_rfl) (fun s H D cl fp C hC=>⟨(bA rfl (ax (tn nodupN) (ax (tn nodupN) bz rfl) rfl) rfl rfl),ir,(va cH)⟩) rfl (by decide)) rfl) (Vw.yh (Vw.v_not (x9 (x_call hC jc (hr.mono (by omega)) rfl E.dI E.F__law_tells.kp E.B__law_tells pass0 rfl (vc (va bK) (vc (va bJ) av)) pQ.1 rfl) rfl)))))) (af (cx vt) ar) ar) (af (zj (L2.passes_of rfl) rfl (va iV) (bA rfl (ax (tn nodupN) (ax (tn nodupN) bz rfl) rfl) rfl rfl) (af (dC (jk F.plainAttrs_list F.slot_list_append F.type_list_append mt_append dG fW (va eP) (vc (hM (vc aM (vc aM av))) av) rfl rfl (by decide) rfl) rfl) ar) rfl) (af (dC (CQ F.plainAttrs_list F.slot_list_clear F.type_list_clear mt_clear xr fW (va iV) rfl rfl) rfl) (af (dC (Mq hC kZ (hr.mono (by omega)) rfl E.fC E.F__law_spoil.kp E.B__law_spoil pass0 rfl (vc (va bK) (vc (va bJ) av)) xX.1 rfl) rfl) (af (Vw.g9 (PW.pt (Vw.v_or (iS hu (jP hC mR E.cl_Piece E.b6 d3 (hr.mono (by omega)) E.B_Piece__length rfl (va bK) (vc (Ce vi vi) (vc aM av)) rfl rfl) vi rfl) (Vw.v_or (iS hu (jP hC mR E.cl_Piece E.m_Piece__postings bR (hr.mono (by omega)) E.B_Piece__postings rfl (va bK) (vc aM (vc aM av)) rfl rfl) (cT av) rfl) (Vw.yh (iS hu (jP hC mR E.cl_Piece E.bB b0 (hr.mono (by omega)) E.B_Piece__words rfl (va bK) (vc aM av) rfl rfl) (cT av) rfl))))) (af (cx vt) ar) ar) (af (cx (Vw.Ep (JJ hu (oB hC mR E.cl_Piece E.cg dH (hr.mono (by omega)) E.B_Piece__makes rfl (va bK) rfl) (nU hC [("_law_make",4),("_law_document_here",5)] rfl rfl nodupN (fy (va bJ)) (by kernel_rfl) (fun s H D cl fp C hC=>⟨(bA rfl (ax (tn nodupN) (ax (tn nodupN) bz rfl) rfl) rfl rfl),ir,(va cH)⟩) rfl (by decide)) rfl) (Vw.By (x_call hC jc (hr.mono (by omega)) rfl E.dI E.F__law_tells.kp E.B__law_tells pass0 rfl (vc (va bK) (vc (va bJ) av)) pQ.1 rfl)))) ar)))))))))
end
end K06
namespace K06
open PySem L2 PyProof.Rows Vw
theorem facts{P:Program}{w:World}{K:PySem.W.Frag}{h:Heap}{mg:Str→Option Value}{f:Addr}(X:K.In h)(G:h.Ns mainGlobals mg)(hfa:mg ("law":Str)=some (.ref f))(c:He.SaysD GU xy K)(ex:Ew K=true):
  ∃ fd:FuncData,(∀ (s:Shared) (v:Value),BindsTo s fd ⟨[v],[]⟩ [("_law_script",v)])∧∀ base:Heap,K.In base→base.Ns mainGlobals mg→FnOk P w K mg base GA 10 f fd ["_law_script"] (cE (qM K) 1 uw):=by
 obtain⟨d__law_draws,F__law_draws⟩:=c.def_ 0 (d:=pG) rfl
 obtain⟨d__law_text,F__law_text⟩:=c.def_ 1 (d:=qC) rfl
 obtain⟨d__law_document,F__law_document⟩:=c.def_ 2 (d:=mf) rfl
 obtain⟨d__law_makes,F__law_makes⟩:=c.def_ 3 (d:=pJ) rfl
 obtain⟨d_is_name,F_is_name⟩:=c.def_ 4 (d:=u7) rfl
 obtain⟨d_look_at_document,F_look_at_document⟩:=c.def_ 5 (d:=j1) rfl
 obtain⟨d_look_at_makes,F_look_at_makes⟩:=c.def_ 6 (d:=my) rfl
 obtain⟨d_lowered,F_lowered⟩:=c.def_ 7 (d:=ud) rfl
 obtain⟨d_words_of,F_words_of⟩:=c.def_ 8 (d:=sL) rfl
 obtain⟨d_counted,F_counted⟩:=c.def_ 9 (d:=uZ) rfl
 obtain⟨d_Piece__take_in,F_Piece__take_in⟩:=c.def_ 10 (d:=lr) rfl
 obtain⟨e7,F_Piece____init__⟩:=c.def_ 11 (d:=kU) rfl
 obtain⟨d_Piece__makes,F_Piece__makes⟩:=c.def_ 12 (d:=nv) rfl
 obtain⟨d__law_words,F__law_words⟩:=c.def_ 13 (d:=pE) rfl
 obtain⟨d__law_table,F__law_table⟩:=c.def_ 14 (d:=pL) rfl
 obtain⟨d_Piece__fields,F_Piece__fields⟩:=c.def_ 15 (d:=md) rfl
 obtain⟨d_Piece__words,F_Piece__words⟩:=c.def_ 16 (d:=nG) rfl
 obtain⟨d_copied_postings,F_copied_postings⟩:=c.def_ 17 (d:=kS) rfl
 obtain⟨d_Piece__postings,F_Piece__postings⟩:=c.def_ 18 (d:=kJ) rfl
 obtain⟨d_Piece__length,F_Piece__length⟩:=c.def_ 19 (d:=mw) rfl
 obtain⟨d__law_tells,F__law_tells⟩:=c.def_ 20 (d:=pH) rfl
 obtain⟨d__law_spoil,F__law_spoil⟩:=c.def_ 21 (d:=pK) rfl
 obtain⟨d_law,F_law⟩:=c.def_ 22 (d:=D8) rfl
 obtain⟨d_NoField_i,F_NoField_i⟩:=c.def_ 23 (d:=qm) rfl
 obtain⟨d_NoMake_i,F_NoMake_i⟩:=c.def_ 24 (d:=so) rfl
 have e:=hfa.symm.trans (He.glo_ok X G (c.fact 21 (f:=.glo "law") rfl))
 cases e
 have b:=FunD.bindsA (ps:=["_law_script"]) F_law fun _ _ _ _ _ _ us hl=>match us,hl with | [_],_=>rfl
 obtain⟨t_FIGURES,c_FIGURES⟩:=He.str_ok X G (c.fact 34 (f:=.str "FIGURES" "0123456789") rfl)
 obtain⟨t_GREAT,c_GREAT⟩:=He.str_ok X G (c.fact 35 (f:=.str "GREAT" "ABCDEFGHIJKLMNOPQRSTUVWXYZ") rfl)
 obtain⟨t_LETTERS,c_LETTERS⟩:=He.str_ok X G (c.fact 36 (f:=.str "LETTERS" "abcdefghijklmnopqrstuvwxyz") rfl)
 have o_NoField:=JB ex 0 (b:=GL K "NoField") rfl
 obtain⟨o_NoField1,o_NoField⟩:=Bool.and_eq_true_iff.mp o_NoField
 obtain⟨o_NoField2,o_NoField⟩:=Bool.and_eq_true_iff.mp o_NoField
 obtain⟨o_NoField3,o_NoField4⟩:=Bool.and_eq_true_iff.mp o_NoField
 have sc_NoField_i:FnScope ["self","place"] ["self","place"] (defScope (da 2 0)):=⟨rfl,rfl,rfl,by decide+kernel,rfl,by decide+kernel,by decide+kernel⟩
 have B_NoField_i:Binds K d_NoField_i ["self","place"] []:=F_NoField_i.bindsN fun _ _ _ _ _ _ us hl=>match us,hl with | [_,_],_=>rfl
 have o_NoMake:=JB ex 1 (b:=GL K "NoMake") rfl
 obtain⟨o_NoMake1,o_NoMake⟩:=Bool.and_eq_true_iff.mp o_NoMake
 obtain⟨o_NoMake2,o_NoMake⟩:=Bool.and_eq_true_iff.mp o_NoMake
 obtain⟨o_NoMake3,o_NoMake4⟩:=Bool.and_eq_true_iff.mp o_NoMake
 have sc_NoMake_i:FnScope ["self","place"] ["self","place"] (defScope (da 3 0)):=⟨rfl,rfl,rfl,by decide+kernel,rfl,by decide+kernel,by decide+kernel⟩
 have B_NoMake_i:Binds K d_NoMake_i ["self","place"] []:=F_NoMake_i.bindsN fun _ _ _ _ _ _ us hl=>match us,hl with | [_,_],_=>rfl
 refine⟨d_law,fun s v=>b s [v] rfl,fun base _ _=>KI (Ke (cA:=qM K) (E:=⟨
  _,d__law_draws,F__law_draws,F__law_draws.bindsN fun _ _ _ _ _ _ us hl=>match us,hl with | [_,_,_,_],_=>rfl,He.glo_ok X G (c.fact 0 (f:=.glo "_law_draws") rfl),
  _,d__law_text,F__law_text,F__law_text.bindsN fun _ _ _ _ _ _ us hl=>match us,hl with | [_],_=>rfl,He.glo_ok X G (c.fact 1 (f:=.glo "_law_text") rfl),
  _,d__law_document,F__law_document,F__law_document.bindsN fun _ _ _ _ _ _ us hl=>match us,hl with | [_,_],_=>rfl,He.glo_ok X G (c.fact 2 (f:=.glo "_law_document") rfl),
  _,d__law_makes,F__law_makes,F__law_makes.bindsN fun _ _ _ _ _ _ us hl=>match us,hl with | [_],_=>rfl,He.glo_ok X G (c.fact 3 (f:=.glo "_law_makes") rfl),
  _,d_is_name,F_is_name,F_is_name.bindsN fun _ _ _ _ _ _ us hl=>match us,hl with | [_],_=>rfl,He.glo_ok X G (c.fact 4 (f:=.glo "is_name") rfl),
  _,d_look_at_document,F_look_at_document,F_look_at_document.bindsN fun _ _ _ _ _ _ us hl=>match us,hl with | [_],_=>rfl,He.glo_ok X G (c.fact 5 (f:=.glo "look_at_document") rfl),
  _,d_look_at_makes,F_look_at_makes,F_look_at_makes.bindsN fun _ _ _ _ _ _ us hl=>match us,hl with | [_],_=>rfl,He.glo_ok X G (c.fact 6 (f:=.glo "look_at_makes") rfl),
  _,d_lowered,F_lowered,F_lowered.bindsN fun _ _ _ _ _ _ us hl=>match us,hl with | [_],_=>rfl,He.glo_ok X G (c.fact 7 (f:=.glo "lowered") rfl),
  _,d_words_of,F_words_of,F_words_of.bindsN fun _ _ _ _ _ _ us hl=>match us,hl with | [_],_=>rfl,He.glo_ok X G (c.fact 8 (f:=.glo "words_of") rfl),
  _,d_counted,F_counted,F_counted.bindsN fun _ _ _ _ _ _ us hl=>match us,hl with | [_],_=>rfl,He.glo_ok X G (c.fact 9 (f:=.glo "counted") rfl),
  _,d_Piece__take_in,F_Piece__take_in,F_Piece__take_in.bindsN fun _ _ _ _ _ _ us hl=>match us,hl with | [_,_,_,_],_=>rfl,He.meth_ok (c.fact 10 (f:=.meth "Piece" "take_in") rfl),
  _,e7,F_Piece____init__,F_Piece____init__.bindsN fun _ _ _ _ _ _ us hl=>match us,hl with | [_,_],_=>rfl,
  _,d_Piece__makes,F_Piece__makes,F_Piece__makes.bindsN fun _ _ _ _ _ _ us hl=>match us,hl with | [_],_=>rfl,He.meth_ok (c.fact 11 (f:=.meth "Piece" "makes") rfl),
  _,d__law_words,F__law_words,F__law_words.bindsN fun _ _ _ _ _ _ us hl=>match us,hl with | [_],_=>rfl,He.glo_ok X G (c.fact 12 (f:=.glo "_law_words") rfl),
  _,d__law_table,F__law_table,F__law_table.bindsN fun _ _ _ _ _ _ us hl=>match us,hl with | [_],_=>rfl,He.glo_ok X G (c.fact 13 (f:=.glo "_law_table") rfl),
  _,d_Piece__fields,F_Piece__fields,F_Piece__fields.bindsN fun _ _ _ _ _ _ us hl=>match us,hl with | [_],_=>rfl,He.meth_ok (c.fact 14 (f:=.meth "Piece" "fields") rfl),
  _,d_Piece__words,F_Piece__words,F_Piece__words.bindsN fun _ _ _ _ _ _ us hl=>match us,hl with | [_,_],_=>rfl,He.meth_ok (c.fact 15 (f:=.meth "Piece" "words") rfl),
  _,d_copied_postings,F_copied_postings,F_copied_postings.bindsN fun _ _ _ _ _ _ us hl=>match us,hl with | [_],_=>rfl,He.glo_ok X G (c.fact 16 (f:=.glo "copied_postings") rfl),
  _,d_Piece__postings,F_Piece__postings,F_Piece__postings.bindsN fun _ _ _ _ _ _ us hl=>match us,hl with | [_,_,_],_=>rfl,He.meth_ok (c.fact 17 (f:=.meth "Piece" "postings") rfl),
  _,d_Piece__length,F_Piece__length,F_Piece__length.bindsN fun _ _ _ _ _ _ us hl=>match us,hl with | [_,_,_],_=>rfl,He.meth_ok (c.fact 18 (f:=.meth "Piece" "length") rfl),
  _,d__law_tells,F__law_tells,F__law_tells.bindsN fun _ _ _ _ _ _ us hl=>match us,hl with | [_,_],_=>rfl,He.glo_ok X G (c.fact 19 (f:=.glo "_law_tells") rfl),
  _,d__law_spoil,F__law_spoil,F__law_spoil.bindsN fun _ _ _ _ _ _ us hl=>match us,hl with | [_,_],_=>rfl,He.glo_ok X G (c.fact 20 (f:=.glo "_law_spoil") rfl),
  _,d_law,F_law,F_law.bindsN fun _ _ _ _ _ _ us hl=>match us,hl with | [_],_=>rfl,He.glo_ok X G (c.fact 21 (f:=.glo "law") rfl),
  He.free_ok X G (c.fact 22 (f:=.free "abs") rfl),
  He.free_ok X G (c.fact 23 (f:=.free "all") rfl),
  He.free_ok X G (c.fact 24 (f:=.free "bool") rfl),
  He.free_ok X G (c.fact 25 (f:=.free "dict") rfl),
  He.free_ok X G (c.fact 26 (f:=.free "enumerate") rfl),
  He.free_ok X G (c.fact 27 (f:=.free "int") rfl),
  He.free_ok X G (c.fact 28 (f:=.free "isinstance") rfl),
  He.free_ok X G (c.fact 29 (f:=.free "len") rfl),
  He.free_ok X G (c.fact 30 (f:=.free "list") rfl),
  He.free_ok X G (c.fact 31 (f:=.free "min") rfl),
  He.free_ok X G (c.fact 32 (f:=.free "range") rfl),
  He.free_ok X G (c.fact 33 (f:=.free "sorted") rfl),
  t_FIGURES,c_FIGURES,
  t_GREAT,c_GREAT,
  t_LETTERS,c_LETTERS,
  He.glo_ok X G (c.fact 37 (f:=.glo "NoField") rfl),
  He.glo_ok X G (c.fact 38 (f:=.glo "NoMake") rfl),
  He.glo_ok X G (c.fact 39 (f:=.glo "Piece") rfl),
  He.ma K (qM K "NoField") "__init__",d_NoField_i,⟨B1 o_NoField1,of_decide_eq_true o_NoField2,of_decide_eq_true o_NoField3,of_decide_eq_true o_NoField4,Bn F_NoField_i sc_NoField_i rfl rfl,B_NoField_i⟩,
  He.ma K (qM K "NoMake") "__init__",d_NoMake_i,⟨B1 o_NoMake1,of_decide_eq_true o_NoMake2,of_decide_eq_true o_NoMake3,of_decide_eq_true o_NoMake4,Bn F_NoMake_i sc_NoMake_i rfl rfl,B_NoMake_i⟩,
  He.cls_ok (c.fact 40 (f:=.cls "Piece") rfl),
  He.mkr_ok (c.fact 41 (f:=.mkr "Piece") rfl),
  Iv (JB ex 2 (b:=F6 K fT) rfl)⟩))⟩
end K06
open PySem PySem.W PySem.Calls PyProof.Rows
theorem PySem.Challenge.cw_findcourt_k06_pieces_holds : PySem.Challenge.rw_findcourt_k06_pieces.Holds := by
 refine K06.early ?hc
 case hc=>
  refine L2.walk_ofE (l:=PySem.Challenge.rw_findcourt_k06_pieces) (n:=63) (k:=10) (x:="_law_script") (CX:=Vw.GA) rfl (by decide) (by kernel_rfl) ⟨rfl,by decide,by decide⟩ ?F Vw.JL
  intro w mg fa h Y G hmg0
  obtain⟨K,KX,c,nl,ex⟩:=Y
  have hmg:mg ("law":PySem.Str)=some (.ref fa):=by
   have e:(HandSHeadRun.topDef (OpenLaw.row PySem.Challenge.rw_findcourt_k06_pieces).prog 27).name=("law":PySem.Str):=by kernel_rfl
   rw[←e]
   exact hmg0
  obtain⟨fd,hb,hF⟩:=K06.facts (P:=(PySem.Challenge.rw_findcourt_k06_pieces).prog) (w:=w) KX G hmg c ex
  exact⟨K,fd,_,KX,hb,fun H a ns hl _ hS=>Vw.Dy nl hS (K06.Jy ns hl),hF⟩
