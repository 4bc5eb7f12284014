import PyProof.Rows.All
import Wide.All
import OpenK.AllK
import Wide.FinOn
import HandS.ForMost
import HandS.ForExc
import HandS.Walk
import HandS.Wide
import KE.SortData
import HandS.ExcIs
import HandS.ExcField
import HandS.ExcInit
import HandS.TryOnly
import KE.DataEq
import HandS.Zip
import PyProof.Draws
import HandS.Rev
import HandS.Defaults
import HandS.WordsExc
import HandS.Comp
import HandS.Small
import HandS.Text
import HandS.IsInst
import HandS.SortInts
import HandS.Head0
import HandS.Head1
import HandS.Head2
import HandS.HeadEnd
import HandS.HeadHook1
import HandS.HeadHook2
import HandS.Replace
import KE.KExcIs
import HandS.Style
import HandS.More
import HandS.Deep
import PyProof.Rows.StrMeet
import KE.KEqDict
import HandS.Set
import HandS.SetFor
import HandS.DeepEq
import HandS.TupSets
import KE.KSortTupAny
import HandS.TupAny
import HandS.ReplaceList
import HandS.SuiteRaise
import HandS.HotCalls
import HandS.StrMore
import HandS.RaiseMore
import HandS.SortKw
import KE.DataMinMax
import KE.GoesRaise
import PyProof.StrLawsFrom
import PySem.Challenge.RW_findcourt_k34_lines_of_deeds_looked_at
set_option Elab.async false
set_option linter.all false
set_option maxRecDepth 100000
set_option maxHeartbeats 4100000
namespace Vw
open PySem L2
inductive K0 where
 | i (n:Int)
 | s (t:List Nat)
 deriving DecidableEq
inductive D where
 | non
 | bl (b:Bool)
 | int (i:Int)
 | str (s:List Nat)
 | tup (l:List D)
 | lst (l:List D)
 | dic (l:List (K0×D))
 | dit (l:List (List K0×D))
 | ins (c:String) (fs:List (String×D))
 | exc (c:String) (p:List D)
inductive Val where
 | d (x:D)
 | r (n:Nat)
 | tp (l:List Val)
inductive Ob where
 | lst (l:List Val)
 | dic (k:Bool) (l:List (K0×Val))
 | dit (k:Bool) (l:List (List K0×Val))
 | ins (c:String) (fs:List (String×Val))
 | gone
inductive Sl where
 | v (x:Val)
 | own (o:Ob)
abbrev Slots:=List (Option Sl)
structure State where
 sg:Slots
 st:List Ob
inductive RV where
 | val (x:Val)
 | new (o:Ob)
 | own (i:Nat)
structure Exn where
 c:String
 p:Option D
inductive Res (α:Type) where
 | ok (a:α) (s:State)
 | exc (x:Exn) (s:State)
 | stuck
def Res.bind{α β:Type}:Res α→(α→State→Res β)→Res β
 | .ok a s,k=>k a s
 | .exc x s,_=>.exc x s
 | .stuck,_=>.stuck
@[simp] theorem Res.aa{α β:Type}(a:α)(s:State)(k:α→State→Res β):(Res.ok a s).bind k=k a s:=id rfl
@[simp] theorem Res.Dq{α β:Type}(x:Exn)(s:State)(k:α→State→Res β):(Res.exc x s).bind k=.exc x s:=id rfl
@[simp] theorem Res.QN{α β:Type}(k:α→State→Res β):(Res.stuck:Res α).bind k=.stuck:=id rfl
def kz:K0→Key
 | .i n=>.inl n
 | .s t=>.inr ⟨t.toArray⟩
theorem yn{a b:K0}(h:kz a=kz b):a=b:=by
 cases a<;> cases b<;> simp[kz]at h<;> first | (subst h;rfl) | skip
 all_goals (rw[h])
def tY(cls:Value)(a:Addr)(d:Option Addr):HO:=.ext fun h=>∃ oe:Obj,h.get? a=some oe∧Zc cls d oe∧∃ vs,oe.data=.fields vs
def C3(Z:Hp)(d:Option Addr)(ws:List V):Prop:=(d=none∧ws=[])∨∃ dd w,d=some dd∧ws=[w]∧Z dd=some (.xd [(Str.ofString "place",w)])
theorem C3.mono{Z Z':Hp}(h:Same Z Z'){d:Option Addr}{ws:List V}(x:C3 Z d ws):C3 Z' d ws:=x.elim .inl fun⟨dd,w,e1,e2,z⟩=>.inr ⟨dd,w,e1,e2,h _ _ z⟩
section
variable(cA:String→Addr)(Z:Hp)
mutual
def bK:D→V→Prop
 | .non,v=>v=.non
 | .bl b,v=>v=.bl b
 | .int i,v=>v=.int i
 | .str s,v=>v=.str ⟨s.toArray⟩
 | .tup ds,v=>∃ a vs,v=.ref a∧Z a=some (.tup vs)∧dQ ds vs
 | .lst ds,v=>∃ a vs,v=.ref a∧(Z a=some (.lst vs)∨∃ o,Z a=some (.frz o (.lst vs)))∧dQ ds vs
 | .dic l,v=>∃ a ws,v=.ref a∧Z a=some (.dK ws)∧j7 l ws
 | .dit l,v=>∃ a ws,v=.ref a∧Z a=some (.dT ws)∧ou l ws
 | .ins c fs,v=>∃ a dx ws,v=.ref a∧Z a=some (.ins (cA c) dx ws)∧j9 fs ws
 | .exc c ps,v=>∃ a d ws,v=.ref a∧Z a=some (tY (.ref (cA c)) a d)∧C3 Z d ws∧dQ ps ws
def dQ:List D→List V→Prop
 | [],vs=>vs=[]
 | d::ds,vs=>∃ v r,vs=v::r∧bK d v∧dQ ds r
def j7:List (K0×D)→List (Key×V)→Prop
 | [],ws=>ws=[]
 | (k,d)::ds,ws=>∃ v r,ws=(kz k,v)::r∧bK d v∧j7 ds r
def ou:List (List K0×D)→List (List Key×V)→Prop
 | [],ws=>ws=[]
 | (k,d)::ds,ws=>∃ v r,ws=(k.map kz,v)::r∧bK d v∧ou ds r
def j9:List (String×D)→List (Str×V)→Prop
 | [],ws=>ws=[]
 | (f,d)::ds,ws=>∃ v r,ws=(Str.ofString f,v)::r∧bK d v∧j9 ds r
end
end
section
variable{cA:String→Addr}{Z Z':Hp}
mutual
theorem bK.mono(h:Same Z Z'):∀ (d:D) {v:V},bK cA Z d v→bK cA Z' d v
 | .non,v,q=>q
 | .bl _,v,q=>q
 | .int _,v,q=>q
 | .str _,v,q=>q
 | .tup ds,v,⟨a,vs,e,z,q⟩=>⟨a,vs,e,h _ _ z,dQ.mono h ds q⟩
 | .lst ds,v,⟨a,vs,e,z,q⟩=>⟨a,vs,e,z.elim (fun z=>.inl (h _ _ z)) (fun⟨o,z⟩=>.inr ⟨o,h _ _ z⟩),dQ.mono h ds q⟩
 | .dic l,v,⟨a,vs,e,z,q⟩=>⟨a,vs,e,h _ _ z,j7.mono h l q⟩
 | .dit l,v,⟨a,vs,e,z,q⟩=>⟨a,vs,e,h _ _ z,ou.mono h l q⟩
 | .ins c fs,v,⟨a,dx,ws,e,z,q⟩=>⟨a,dx,ws,e,h _ _ z,j9.mono h fs q⟩
 | .exc c ps,v,⟨a,d,ws,e,z,x,q⟩=>⟨a,d,ws,e,h _ _ z,x.mono h,dQ.mono h ps q⟩
theorem dQ.mono(h:Same Z Z'):∀ (ds:List D) {vs:List V},dQ cA Z ds vs→dQ cA Z' ds vs
 | [],vs,q=>q
 | d::ds,vs,⟨v,r,e,q,t⟩=>⟨v,r,e,bK.mono h d q,dQ.mono h ds t⟩
theorem j7.mono(h:Same Z Z'):∀ (ds:List (K0×D)) {vs:List (Key×V)},j7 cA Z ds vs→j7 cA Z' ds vs
 | [],vs,q=>q
 | (k,d)::ds,vs,⟨v,r,e,q,t⟩=>⟨v,r,e,bK.mono h d q,j7.mono h ds t⟩
theorem ou.mono(h:Same Z Z'):∀ (ds:List (List K0×D)) {vs:List (List Key×V)},ou cA Z ds vs→ou cA Z' ds vs
 | [],vs,q=>q
 | (k,d)::ds,vs,⟨v,r,e,q,t⟩=>⟨v,r,e,bK.mono h d q,ou.mono h ds t⟩
theorem j9.mono(h:Same Z Z'):∀ (ds:List (String×D)) {vs:List (Str×V)},j9 cA Z ds vs→j9 cA Z' ds vs
 | [],vs,q=>q
 | (k,d)::ds,vs,⟨v,r,e,q,t⟩=>⟨v,r,e,bK.mono h d q,j9.mono h ds t⟩
end
end
end Vw
namespace Vw
open PySem L2
section
variable(cA:String→Addr)(Z:Hp)(loc:List Addr)
mutual
def bX:Val→V→Prop
 | .d x,v=>bK cA Z x v
 | .r n,v=>∃ a,loc[n]? =some a∧v=.ref a
 | .tp l,v=>∃ a vs,v=.ref a∧Z a=some (.tup vs)∧aY l vs
def aY:List Val→List V→Prop
 | [],vs=>vs=[]
 | x::l,vs=>∃ v r,vs=v::r∧bX x v∧aY l r
end
def dN:List (K0×Val)→List (Key×V)→Prop
 | [],ws=>ws=[]
 | (k,x)::l,ws=>∃ v r,ws=(kz k,v)::r∧bX cA Z loc x v∧dN l r
def d7:List (List K0×Val)→List (List Key×V)→Prop
 | [],ws=>ws=[]
 | (k,x)::l,ws=>∃ v r,ws=(k.map kz,v)::r∧bX cA Z loc x v∧d7 l r
def gq:List (String×Val)→List (Str×V)→Prop
 | [],ws=>ws=[]
 | (f,x)::l,ws=>∃ v r,ws=(Str.ofString f,v)::r∧bX cA Z loc x v∧gq l r
def AK(H:Hp)(a:Addr)(u:HO):Bool→Prop
 | false=>H a=some u
 | true=>∃ o,H a=some (.frz o u)
def Cell(H:Hp)(a:Addr):Ob→Prop
 | .lst l=>∃ xs,H a=some (.lst xs)∧aY cA Z loc l xs
 | .dic k l=>∃ ws,AK H a (.dK ws) k∧dN cA Z loc l ws
 | .dit k l=>∃ ws,AK H a (.dT ws) k∧d7 cA Z loc l ws
 | .ins c fs=>∃ dx ws,H a=some (.ins (cA c) dx ws)∧gq cA Z loc fs ws
 | .gone=>True
end
def Ext(Z:Hp)(loc:List Addr)(Z':Hp)(loc':List Addr):Prop:=Same Z Z'∧∃ m,loc'=loc++m
theorem Ext.refl(Z:Hp)(loc:List Addr):Ext Z loc Z loc:=⟨Same.refl _,[],by simp⟩
theorem Ext.trans{Z Z1 Z2:Hp}{l l1 l2:List Addr}(a:Ext Z l Z1 l1)(b:Ext Z1 l1 Z2 l2):Ext Z l Z2 l2:=by
 obtain⟨a1,m,rfl⟩:=a
 obtain⟨b1,n,rfl⟩:=b
 exact⟨a1.trans b1,m++n,by simp⟩
theorem Ext.z{Z Z':Hp}{l:List Addr}(h:Same Z Z'):Ext Z l Z' l:=⟨h,[],by simp⟩
section
variable{cA:String→Addr}{Z Z':Hp}{loc loc':List Addr}
mutual
theorem bX.mono(h:Ext Z loc Z' loc'):∀ (x:Val) {v:V},bX cA Z loc x v→bX cA Z' loc' x v
 | .d x,v,q=>bK.mono h.1 x q
 | .r n,v,⟨a,e,q⟩=>⟨a,by
  obtain⟨_,m,rfl⟩:=h
  rw[List.getElem?_append_left (List.getElem?_eq_some_iff.mp e).1]
  exact e,q⟩
 | .tp l,v,⟨a,vs,e,z,q⟩=>⟨a,vs,e,h.1 _ _ z,aY.mono h l q⟩
theorem aY.mono(h:Ext Z loc Z' loc'):∀ (l:List Val) {vs:List V},aY cA Z loc l vs→aY cA Z' loc' l vs
 | [],vs,q=>q
 | x::l,vs,⟨v,r,e,q,t⟩=>⟨v,r,e,bX.mono h x q,aY.mono h l t⟩
end
theorem dN.mono(h:Ext Z loc Z' loc'):∀ (l:List (K0×Val)) {vs:List (Key×V)},dN cA Z loc l vs→dN cA Z' loc' l vs
 | [],vs,q=>q
 | (k,x)::l,vs,⟨v,r,e,q,t⟩=>⟨v,r,e,bX.mono h x q,dN.mono h l t⟩
theorem d7.mono(h:Ext Z loc Z' loc'):∀ (l:List (List K0×Val)) {vs:List (List Key×V)},d7 cA Z loc l vs→d7 cA Z' loc' l vs
 | [],vs,q=>q
 | (k,x)::l,vs,⟨v,r,e,q,t⟩=>⟨v,r,e,bX.mono h x q,d7.mono h l t⟩
theorem gq.mono(h:Ext Z loc Z' loc'):∀ (l:List (String×Val)) {vs:List (Str×V)},gq cA Z loc l vs→gq cA Z' loc' l vs
 | [],vs,q=>q
 | (k,x)::l,vs,⟨v,r,e,q,t⟩=>⟨v,r,e,bX.mono h x q,gq.mono h l t⟩
theorem AK.grow{H H':Hp}(h:Same H H'){a:Addr}{u:HO}:∀ {k:Bool},AK H a u k→AK H' a u k
 | false,q=>h _ _ q
 | true,⟨o,q⟩=>⟨o,h _ _ q⟩
theorem IZ{H:Hp}{a:Addr}{u:HO}:∀ {k:Bool},AK H a u k→H a≠none
 | false,q=>by rw[show H a=_ from q];simp
 | true,⟨o,q⟩=>by rw[q];simp
theorem Cell.mono{H H':Hp}{a:Addr}(h:Ext Z loc Z' loc')(g:Same H H'):∀ {o:Ob},Cell cA Z loc H a o→Cell cA Z' loc' H' a o
 | .lst l,⟨xs,e,q⟩=>⟨xs,g _ _ e,aY.mono h l q⟩
 | .dic k l,⟨xs,e,q⟩=>⟨xs,e.grow g,dN.mono h l q⟩
 | .dit k l,⟨xs,e,q⟩=>⟨xs,e.grow g,d7.mono h l q⟩
 | .ins c l,⟨dx,xs,e,q⟩=>⟨dx,xs,g _ _ e,gq.mono h l q⟩
 | .gone,_=>trivial
theorem Cell.at{H H':Hp}{a:Addr}(g:H' a=H a):∀ {o:Ob},Cell cA Z loc H a o→Cell cA Z loc H' a o
 | .lst l,⟨xs,e,q⟩=>⟨xs,g.trans e,q⟩
 | .dic false l,⟨xs,e,q⟩=>⟨xs,g.trans e,q⟩
 | .dic true l,⟨xs,⟨o,e⟩,q⟩=>⟨xs,⟨o,g.trans e⟩,q⟩
 | .dit false l,⟨xs,e,q⟩=>⟨xs,g.trans e,q⟩
 | .dit true l,⟨xs,⟨o,e⟩,q⟩=>⟨xs,⟨o,g.trans e⟩,q⟩
 | .ins c l,⟨dx,xs,e,q⟩=>⟨dx,xs,g.trans e,q⟩
 | .gone,_=>trivial
theorem j4{H:Hp}{a:Addr}{o:Ob}(ne:o≠ .gone)(h:Cell cA Z loc H a o):H a≠none:=by
 cases o with
 | lst l=>obtain⟨xs,e,q⟩:=h;rw[e];simp
 | dic k l=>obtain⟨xs,e,q⟩:=h;exact IZ e
 | dit k l=>obtain⟨xs,e,q⟩:=h;exact IZ e
 | ins c l=>obtain⟨dx,xs,e,q⟩:=h;rw[e];simp
 | gone=>exact absurd rfl ne
end
def qv:HO→Bool
 | .dK _=>true
 | .dT _=>true
 | _=>false
def Rz(H:Hp)(a:Addr)(u:HO):Prop:=H a=some u∨(qv u=true∧∃ o,H a=some (.frz o u))
theorem Ah{H:Hp}{a:Addr}{u:HO}(h:Rz H a u):H a≠none:=by
 rcases h with h | ⟨_,o,h⟩<;> rw[h]<;> simp
theorem MW{H H':Hp}(g:Same H H'){a:Addr}{u:HO}(h:Rz H a u):Rz H' a u:=h.elim (fun h=>.inl (g _ _ h)) fun⟨d,o,h⟩=>.inr ⟨d,o,g _ _ h⟩
theorem Rz.rd{H:Hp}{a:Addr}{u:HO}(h:Rz H a u):Rd H a u:=h.elim .inl fun⟨_,o,h⟩=>.inr ⟨o,h⟩
theorem Rz.at{H:Hp}{a:Addr}{u:HO}(h:Rz H a u)(d:qv u=false):H a=some u:=h.elim id fun⟨e,_⟩=>by rw[d]at e;cases e
structure Cst where
 cA:String→Addr
 Fr:Hp
 H0:Hp
 W:WX
structure SR (C:Cst) (Z:Hp) (loc:List Addr) (s:State) (sv:L2.St) (H:Hp):Prop where
 fr:Same C.Fr H
 zh:∀ (a:Addr) (o:HO),Z a=some o→Rz H a o
 zf:∀ (a:Addr) (o:HO),Z a=some o→C.Fr a=none
 lk:∀ (a:Addr) (o:Obj) (u:HO),C.H0 a=some (.frz o u)→H a=some (.frz o u)
 ln:loc.length=s.st.length
 nd:loc.Nodup
 lh:∀ a∈loc,H a≠none∧C.Fr a=none
 cl:∀ (n:Nat) (a:Addr) (o:Ob),loc[n]? =some a→s.st[n]? =some o→o≠ .gone→Cell C.cA Z loc H a o∧Z a=none
 vl:∀ (i:Nat) (x:Val),s.sg[i]? =some (some (.v x))→∃ v,sv[i]? =some (some v)∧bX C.cA Z loc x v
 ow:∀ (i:Nat) (o:Ob),s.sg[i]? =some (some (.own o))→∃ a,sv[i]? =some (some (.ref a))∧o≠ .gone∧Cell C.cA Z loc H a o∧Z a=none∧C.Fr a=none∧a∉loc
 oi:∀ (i j:Nat) (o o':Ob) (a:Addr),s.sg[i]? =some (some (.own o))→s.sg[j]? =some (some (.own o'))→sv[i]? =some (some (.ref a))→sv[j]? =some (some (.ref a))→i=j
 ls:s.sg.length=sv.length
structure Free (C:Cst) (Z:Hp) (loc:List Addr) (s:State) (sv:L2.St) (a:Addr):Prop where
 z:Z a=none
 f:C.Fr a=none
 l:a∉loc
 o:∀ (i:Nat) (o:Ob),s.sg[i]? =some (some (.own o))→sv[i]? ≠some (some (.ref a))
def bM(C:Cst)(Z:Hp)(loc:List Addr)(s:State)(sv:L2.St)(H:Hp):RV→V→Prop
 | .val x,v=>bX C.cA Z loc x v
 | .new o,v=>∃ a,v=.ref a∧o≠ .gone∧Cell C.cA Z loc H a o∧Free C Z loc s sv a
 | .own i,v=>sv[i]? =some (some v)
section
variable{C:Cst}{Z Z':Hp}{loc loc':List Addr}{s s':State}{sv:L2.St}{H H':Hp}
theorem SR.grow(r:SR C Z loc s sv H)(g:Same H H'):SR C Z loc s sv H' where
 fr:=r.fr.trans g
 zh a o h:=MW g (r.zh a o h)
 zf:=r.zf
 lk a o u h:=g _ _ (r.lk a o u h)
 ln:=r.ln
 nd:=r.nd
 lh a h:=⟨fun e=>(r.lh a h).1 (g.free e),(r.lh a h).2⟩
 cl n a o h1 h2 h3:=⟨(r.cl n a o h1 h2 h3).1.mono (Ext.refl _ _) g,(r.cl n a o h1 h2 h3).2⟩
 vl:=r.vl
 ow i o h:=let ⟨a,h1,h2,h3,h4⟩:=r.ow i o h;⟨a,h1,h2,h3.mono (Ext.refl _ _) g,h4⟩
 oi:=r.oi
 ls:=r.ls
theorem bI{p:Addr}{o:HO}(h:H p=none):Same H (upd H p o):=fun b x e=>by rw[upd_ne (ne_of_none e h)];exact e
theorem SR.free(r:SR C Z loc s sv H){p:Addr}(h:H p=none):Free C Z loc s sv p where
 z:=by
  cases e:Z p with
  | none=>rfl
  | some o=>exact absurd h (Ah (r.zh p o e))
 f:=r.fr.free h
 l hm:=(r.lh p hm).1 h
 o i ob e q:=by
  obtain⟨a,h1,h2,h3,_⟩:=r.ow i ob e
  rw[h1]at q
  cases q
  exact j4 h2 h3 h
theorem SR.vB(r:SR C Z loc s sv H){a:Addr}{o:HO}(e:H a=some o)(f:Free C Z loc s sv a):SR C (upd Z a o) loc s sv H:=by
 have g:Ext Z loc (upd Z a o) loc:=Ext.z (bI f.z)
 refine⟨r.fr,fun b u h=>?_,fun b u h=>?_,r.lk,r.ln,r.nd,r.lh,fun n b ob h1 h2 h3=>?_,fun i x h=>?_,fun i ob h=>?_,r.oi,r.ls⟩
 ·by_cases hb:b=a
  ·subst hb
   rw[upd_same]at h
   cases h
   exact .inl e
  ·rw[upd_ne hb]at h
   exact r.zh b u h
 ·by_cases hb:b=a
  ·subst hb
   exact f.f
  ·rw[upd_ne hb]at h
   exact r.zf b u h
 ·obtain⟨q1,q2⟩:=r.cl n b ob h1 h2 h3
  have hb:b≠a:=fun z=>f.l (z▸List.mem_of_getElem? h1)
  exact⟨q1.mono g (Same.refl _),by rw[upd_ne hb];exact q2⟩
 ·obtain⟨v,h1,h2⟩:=r.vl i x h
  exact⟨v,h1,bX.mono g x h2⟩
 ·obtain⟨b,h1,h2,h3,h4,h5⟩:=r.ow i ob h
  have hb:b≠a:=fun z=>f.o i ob h (z▸h1)
  exact⟨b,h1,h2,h3.mono g (Same.refl _),by rw[upd_ne hb];exact h4,h5⟩
end
end Vw
namespace Vw
open PySem L2
def toDs:List Val→Option (List D)
 | []=>some []
 | .d x::r=>(toDs r).map (x:: ·)
 | _::_=>none
def toDK{κ:Type}:List (κ×Val)→Option (List (κ×D))
 | []=>some []
 | (k,.d x)::r=>(toDK r).map ((k,x):: ·)
 | _::_=>none
def Ob.toD:Ob→Option D
 | .lst l=>(toDs l).map .lst
 | .dic false l=>(toDK l).map .dic
 | .dit false l=>(toDK l).map .dit
 | .ins c fs=>(toDK fs).map (.ins c)
 | _=>none
@[simp] theorem toDs_map(xs:List D):toDs (xs.map .d)=some xs:=by
 induction xs with
 | nil=>rfl
 | cons x r ih=>simp[toDs,ih]
@[simp] theorem toDK_map{κ:Type}(xs:List (κ×D)):toDK (xs.map fun p=>(p.1,Val.d p.2))=some xs:=by
 induction xs with
 | nil=>rfl
 | cons x r ih=>obtain⟨k,x⟩:=x;simp[toDK,ih]
theorem toDs_inv:∀ {l:List Val} {ds:List D},toDs l=some ds→l=ds.map .d
 | [],ds,h=>by cases h;rfl
 | .d x::r,ds,h=>by
  obtain⟨t,e,rfl⟩:=Option.map_eq_some_iff.mp h
  rw[toDs_inv e];rfl
 | .r _::_,ds,h=>by cases h
 | .tp _::_,ds,h=>by cases h
theorem toDK_inv{κ:Type}:∀ {l:List (κ×Val)} {ds:List (κ×D)},toDK l=some ds→l=ds.map fun p=>(p.1,Val.d p.2)
 | [],ds,h=>by cases h;rfl
 | (k,.d x)::r,ds,h=>by
  obtain⟨t,e,rfl⟩:=Option.map_eq_some_iff.mp h
  rw[toDK_inv e];rfl
 | (_,.r _)::_,ds,h=>by cases h
 | (_,.tp _)::_,ds,h=>by cases h
section
variable{cA:String→Addr}{Z:Hp}{loc:List Addr}
theorem gc:∀ {ds:List D} {vs:List V},aY cA Z loc (ds.map .d) vs↔dQ cA Z ds vs
 | [],vs=>Iff.rfl
 | d::ds,vs=>⟨fun⟨v,r,e,q,t⟩=>⟨v,r,e,q,gc.mp t⟩,fun⟨v,r,e,q,t⟩=>⟨v,r,e,q,gc.mpr t⟩⟩
theorem tN:∀ {ds:List (K0×D)} {vs:List (Key×V)},dN cA Z loc (ds.map fun p=>(p.1,Val.d p.2)) vs↔j7 cA Z ds vs
 | [],vs=>Iff.rfl
 | (k,d)::ds,vs=>⟨fun⟨v,r,e,q,t⟩=>⟨v,r,e,q,tN.mp t⟩,fun⟨v,r,e,q,t⟩=>⟨v,r,e,q,tN.mpr t⟩⟩
theorem tJ:∀ {ds:List (List K0×D)} {vs:List (List Key×V)},d7 cA Z loc (ds.map fun p=>(p.1,Val.d p.2)) vs↔ou cA Z ds vs
 | [],vs=>Iff.rfl
 | (k,d)::ds,vs=>⟨fun⟨v,r,e,q,t⟩=>⟨v,r,e,q,tJ.mp t⟩,fun⟨v,r,e,q,t⟩=>⟨v,r,e,q,tJ.mpr t⟩⟩
theorem xr:∀ {ds:List (String×D)} {vs:List (Str×V)},gq cA Z loc (ds.map fun p=>(p.1,Val.d p.2)) vs↔j9 cA Z ds vs
 | [],vs=>Iff.rfl
 | (k,d)::ds,vs=>⟨fun⟨v,r,e,q,t⟩=>⟨v,r,e,q,xr.mp t⟩,fun⟨v,r,e,q,t⟩=>⟨v,r,e,q,xr.mpr t⟩⟩
theorem DH{H:Hp}{a:Addr}{o:Ob}{d:D}(h:Cell cA Z loc H a o)(e:o.toD=some d)(z:Z a=none):
  ∃ u,H a=some u∧bK cA (upd Z a u) d (.ref a):=by
 cases o with
 | lst l=>
  obtain⟨ds,e1,rfl⟩:=Option.map_eq_some_iff.mp e
  obtain⟨xs,h1,h2⟩:=h
  rw[toDs_inv e1]at h2
  exact⟨_,h1,a,xs,rfl,.inl upd_same,dQ.mono (bI z) ds (gc.mp h2)⟩
 | dic k l=>
  cases k with
  | true=>cases e
  | false=>
   obtain⟨ds,e1,rfl⟩:=Option.map_eq_some_iff.mp e
   obtain⟨xs,h1,h2⟩:=h
   rw[toDK_inv e1]at h2
   exact⟨_,h1,a,xs,rfl,upd_same,j7.mono (bI z) ds (tN.mp h2)⟩
 | dit k l=>
  cases k with
  | true=>cases e
  | false=>
   obtain⟨ds,e1,rfl⟩:=Option.map_eq_some_iff.mp e
   obtain⟨xs,h1,h2⟩:=h
   rw[toDK_inv e1]at h2
   exact⟨_,h1,a,xs,rfl,upd_same,ou.mono (bI z) ds (tJ.mp h2)⟩
 | ins c l=>
  obtain⟨ds,e1,rfl⟩:=Option.map_eq_some_iff.mp e
  obtain⟨dx,xs,h1,h2⟩:=h
  rw[toDK_inv e1]at h2
  exact⟨_,h1,a,dx,xs,rfl,upd_same,j9.mono (bI z) ds (xr.mp h2)⟩
 | gone=>cases e
end
def settle:RV→State→Res RV
 | .new o,s=>match o.toD with
  | some d=>.ok (.val (.d d)) s
  | none=>.stuck
 | r,s=>.ok r s
def kd(i:Nat)(s:State):Res Val:=
 match s.sg[i]? with
 | some (some (.own o))=>match o.toD with
  | some d=>.ok (.d d) { s with sg:=s.sg.set i (some (.v (.d d))) }
  | none=>.stuck
 | some (some (.v x))=>.ok x s
 | _=>.stuck
def cf:RV→State→Res Val
 | .val x,s=>.ok x s
 | .new o,s=>match o.toD with
  | some d=>.ok (.d d) s
  | none=>.stuck
 | .own i,s=>kd i s
section
variable{C:Cst}{Z Z':Hp}{loc loc':List Addr}{s s':State}{sv:L2.St}{H H':Hp}
theorem SR.settled(r:SR C Z loc s sv H){o:Ob}{v:V}{d:D}(h:bM C Z loc s sv H (.new o) v)(e:o.toD=some d):∃ Z',Ext Z loc Z' loc∧SR C Z' loc s sv H∧bX C.cA Z' loc (.d d) v:=by
 obtain⟨a,rfl,ne,h1,h2⟩:=h
 obtain⟨u,h3,h4⟩:=DH h1 e h2.z
 exact⟨_,Ext.z (bI h2.z),r.vB h3 h2,h4⟩
theorem da{α:Type}{l:List α}{i j:Nat}{x y:α}(h:(l.set i x)[j]? =some y):(i=j∧y=x)∨(i≠j∧l[j]? =some y):=by
 by_cases e:i=j
 ·subst e
  rw[List.getElem?_set]at h
  simp at h
  exact .inl ⟨rfl,h.2.symm⟩
 ·rw[List.getElem?_set_ne e]at h
  exact .inr ⟨e,h⟩
theorem SR.drop(r:SR C Z loc s sv H)(i:Nat):SR C Z loc { s with sg:=s.sg.set i none } sv H:=by
 refine⟨r.fr,r.zh,r.zf,r.lk,r.ln,r.nd,r.lh,r.cl,fun j x h=>?_,fun j o h=>?_,fun j k o o' a h1 h2=>?_,by simpa using r.ls⟩
 ·rcases da h with⟨_,q⟩ | ⟨_,q⟩
  ·cases q
  ·exact r.vl j x q
 ·rcases da h with⟨_,q⟩ | ⟨_,q⟩
  ·cases q
  ·exact r.ow j o q
 ·rcases da h1 with⟨_,q⟩ | ⟨_,q⟩
  ·cases q
  ·rcases da h2 with⟨_,q'⟩ | ⟨_,q'⟩
   ·cases q'
   ·exact r.oi j k o o' a q q'
theorem SR.J0(r:SR C Z loc s sv H){i:Nat}{o:Ob}{a:Addr}(h:s.sg[i]? =some (some (.own o)))(ha:sv[i]? =some (some (.ref a))):Free C Z loc { s with sg:=s.sg.set i none } sv a:=by
 obtain⟨b,h1,h2,h3,h4,h5,h6⟩:=r.ow i o h
 rw[ha]at h1
 cases h1
 refine⟨h4,h5,h6,fun j o' q e=>?_⟩
 rcases da q with⟨_,q⟩ | ⟨ne,q⟩
 ·cases q
 ·exact ne (r.oi i j o o' a h q ha e)
theorem SR.Of(r:SR C Z loc s sv H){i:Nat}{x:Val}{v:V}(h:sv[i]? =some (some v))(q:bX C.cA Z loc x v):SR C Z loc { s with sg:=s.sg.set i (some (.v x)) } sv H:=by
 refine⟨r.fr,r.zh,r.zf,r.lk,r.ln,r.nd,r.lh,r.cl,fun j y h1=>?_,fun j o h1=>?_,fun j k o o' a h1 h2=>?_,by simpa using r.ls⟩
 ·rcases da h1 with⟨rfl,e⟩ | ⟨_,e⟩
  ·cases e
   exact⟨v,h,q⟩
  ·exact r.vl j y e
 ·rcases da h1 with⟨rfl,e⟩ | ⟨_,e⟩
  ·cases e
  ·exact r.ow j o e
 ·rcases da h1 with⟨_,q⟩ | ⟨_,q⟩
  ·cases q
  ·rcases da h2 with⟨_,q'⟩ | ⟨_,q'⟩
   ·cases q'
   ·exact r.oi j k o o' a q q'
theorem SR.S8(r:SR C Z loc s sv H){i:Nat}{o:Ob}{a:Addr}(h:sv[i]? =some (some (.ref a)))(ne:o≠ .gone)(q:Cell C.cA Z loc H a o)(f:Free C Z loc s sv a):SR C Z loc { s with sg:=s.sg.set i (some (.own o)) } sv H:=by
 refine⟨r.fr,r.zh,r.zf,r.lk,r.ln,r.nd,r.lh,r.cl,fun j y h1=>?_,fun j ob h1=>?_,fun j k ob ob' b h1 h2 h3 h4=>?_,by simpa using r.ls⟩
 ·rcases da h1 with⟨rfl,e⟩ | ⟨_,e⟩
  ·cases e
  ·exact r.vl j y e
 ·rcases da h1 with⟨rfl,e⟩ | ⟨_,e⟩
  ·cases e
   exact⟨a,h,ne,q,f.z,f.f,f.l⟩
  ·exact r.ow j ob e
 ·rcases da h1 with⟨rfl,e⟩ | ⟨n1,e⟩
  ·rcases da h2 with⟨rfl,e'⟩ | ⟨n2,e'⟩
   ·rfl
   ·rw[h]at h3
    cases h3
    exact absurd h4 (f.o k ob' e')
  ·rcases da h2 with⟨rfl,e'⟩ | ⟨n2,e'⟩
   ·rw[h]at h4
    cases h4
    exact absurd h3 (f.o j ob e)
   ·exact r.oi j k ob ob' b e e' h3 h4
theorem xH{α:Type}(l:List α)(i:Nat)(x y:α):(l.set i x).set i y=l.set i y:=List.set_set ..
theorem SR.kd(r:SR C Z loc s sv H){i:Nat}{v:V}{x:Val}(h:sv[i]? =some (some v))(e:kd i s=.ok x s'):∃ Z',Ext Z loc Z' loc∧SR C Z' loc s' sv H∧bX C.cA Z' loc x v:=by
 unfold Vw.kd at e
 split at e
 ·rename_i o ho
  split at e
  ·rename_i d hd
   cases e
   obtain⟨a,h1,h2,h3,h4⟩:=r.ow i o ho
   rw[h]at h1
   cases h1
   obtain⟨Z',g,r',q⟩:=(r.drop i).settled (v:=.ref a) ⟨a,rfl,h2,h3,r.J0 ho h⟩ hd
   refine⟨Z',g,?_,q⟩
   have:=r'.Of h q
   simpa [xH]using this
  ·cases e
 ·rename_i x' hx
  cases e
  obtain⟨v',h1,h2⟩:=r.vl i x hx
  rw[h]at h1
  cases h1
  exact⟨Z,Ext.refl _ _,r,h2⟩
 ·cases e
theorem SR.cf(r:SR C Z loc s sv H){rv:RV}{v:V}{x:Val}(h:bM C Z loc s sv H rv v)(e:cf rv s=.ok x s'):∃ Z',Ext Z loc Z' loc∧SR C Z' loc s' sv H∧bX C.cA Z' loc x v:=by
 cases rv with
 | val y=>cases e;exact⟨Z,Ext.refl _ _,r,h⟩
 | new o=>
  cases hd:o.toD with
  | none=>simp[Vw.cf,hd]at e
  | some d=>
   simp[Vw.cf,hd]at e
   obtain⟨rfl,rfl⟩:=e
   exact r.settled h hd
 | own i=>exact r.kd h e
theorem CU{rv:RV}{x:Exn}:cf rv s≠ .exc x s':=by
 unfold cf kd
 repeat' split
 all_goals simp
theorem AN{rv:RV}{x:Exn}:settle rv s≠ .exc x s':=by
 unfold settle
 repeat' split
 all_goals simp
def yy:RV→Prop
 | .new _=>False
 | _=>True
theorem bM.mono(h:Ext Z loc Z' loc'):∀ {rv:RV} {v:V},yy rv→bM C Z loc s sv H rv v→bM C Z' loc' s' sv H' rv v
 | .val x,v,_,q=>bX.mono h x q
 | .own i,v,_,q=>q
 | .new o,v,z,_=>z.elim
theorem SR.settle(r:SR C Z loc s sv H){rv rv':RV}{v:V}(h:bM C Z loc s sv H rv v)(e:settle rv s=.ok rv' s'):s'=s∧yy rv'∧∃ Z',Ext Z loc Z' loc∧SR C Z' loc s sv H∧bM C Z' loc s sv H rv' v:=by
 cases rv with
 | val y=>cases e;exact⟨rfl,trivial,Z,Ext.refl _ _,r,h⟩
 | own i=>cases e;exact⟨rfl,trivial,Z,Ext.refl _ _,r,h⟩
 | new o=>
  cases hd:o.toD with
  | none=>simp[Vw.settle,hd]at e
  | some d=>
   simp[Vw.settle,hd]at e
   obtain⟨rfl,rfl⟩:=e
   obtain⟨Z',g,r',q⟩:=r.settled h hd
   exact⟨rfl,trivial,Z',g,r',q⟩
end
def ke(C:Cst)(Z:Hp)(H:Hp)(x:Exn)(c:Value)(d:Option Addr):Prop:=
 c=.ref (C.cA x.c)∧match x.p with
  | none=>d=none
  | some p=>∃ dd v,d=some dd∧Z dd=some (.xd [(Str.ofString "place",v)])∧bK C.cA Z p v
inductive Fl where
 | nx
 | ret (r:RV)
 | brk
 | cnt
def EPost(C:Cst)(Z:Hp)(loc:List Addr)(sv:L2.St)(r:Res RV)(Q:VK):Prop:=
 match r with
 | .ok rv s'=>∀ Z' loc' H' v,Ext Z loc Z' loc'→SR C Z' loc' s' sv H'→bM C Z' loc' s' sv H' rv v→Q v H'
 | .exc x s'=>∀ Z' loc' H' c d,Ext Z loc Z' loc'→SR C Z' loc' s' sv H'→ke C Z' H' x c d→C.W c d sv H'
 | .stuck=>False
def iX(C:Cst)(Z:Hp)(loc:List Addr)(s:State)(sv:L2.St)(H:Hp):List RV→List V→Prop
 | [],vs=>vs=[]
 | x::l,vs=>∃ v r,vs=v::r∧yy x∧bM C Z loc s sv H x v∧iX C Z loc s sv H l r
def sZ(C:Cst)(Z:Hp)(loc:List Addr)(sv:L2.St)(r:Res (List RV))(Q:List V→Hp→Prop):Prop:=
 match r with
 | .ok rv s'=>∀ Z' loc' H' v,Ext Z loc Z' loc'→SR C Z' loc' s' sv H'→iX C Z' loc' s' sv H' rv v→Q v H'
 | .exc x s'=>∀ Z' loc' H' c d,Ext Z loc Z' loc'→SR C Z' loc' s' sv H'→ke C Z' H' x c d→C.W c d sv H'
 | .stuck=>False
def iu(C:Cst)(Z:Hp)(loc:List Addr)(sv:L2.St)(r:Res Bool)(Q:Bool→Hp→Prop):Prop:=
 match r with
 | .ok b s'=>∀ Z' loc' H',Ext Z loc Z' loc'→SR C Z' loc' s' sv H'→Q b H'
 | .exc x s'=>∀ Z' loc' H' c d,Ext Z loc Z' loc'→SR C Z' loc' s' sv H'→ke C Z' H' x c d→C.W c d sv H'
 | .stuck=>False
def bS(C:Cst)(Z:Hp)(loc:List Addr)(r:Res Fl)(D:Ends):Prop:=
 match r with
 | .ok .nx s'=>∀ Z' loc' sv' H',Ext Z loc Z' loc'→SR C Z' loc' s' sv' H'→D.nx sv' H'
 | .ok .brk s'=>∀ Z' loc' sv' H',Ext Z loc Z' loc'→SR C Z' loc' s' sv' H'→D.bk sv' H'
 | .ok .cnt s'=>∀ Z' loc' sv' H',Ext Z loc Z' loc'→SR C Z' loc' s' sv' H'→D.ct sv' H'
 | .ok (.ret rv) s'=>∀ Z' loc' sv' H' v,Ext Z loc Z' loc'→SR C Z' loc' s' sv' H'→bM C Z' loc' s' sv' H' rv v→D.rt v H'
 | .exc x s'=>∀ Z' loc' sv' H' c d,Ext Z loc Z' loc'→SR C Z' loc' s' sv' H'→ke C Z' H' x c d→C.W c d sv' H'
 | .stuck=>False
def au(C:Cst)(f:State→Res RV):TE:=fun sv H Q=>∃ Z loc s,SR C Z loc s sv H∧EPost C Z loc sv (f s) Q
def cV(C:Cst)(f:State→Res (List RV)):TA:=fun sv H Q=>∃ Z loc s,SR C Z loc s sv H∧sZ C Z loc sv (f s) Q
def dM(C:Cst)(f:State→Res Bool):TT:=fun sv H Q=>∃ Z loc s,SR C Z loc s sv H∧iu C Z loc sv (f s) Q
def dj(C:Cst)(f:State→Res Fl):TS:=fun D sv H=>∃ Z loc s,SR C Z loc s sv H∧bS C Z loc (f s) D
section
variable{C:Cst}{Z Z':Hp}{loc loc':List Addr}{s:State}{sv:L2.St}{H:Hp}
theorem EPost.ext{r:Res RV}{Q:VK}(h:EPost C Z loc sv r Q)(g:Ext Z loc Z' loc'):EPost C Z' loc' sv r Q:=by
 cases r with
 | ok rv s'=>exact fun Z2 l2 H2 v g2=>h Z2 l2 H2 v (g.trans g2)
 | exc x s'=>exact fun Z2 l2 H2 c d g2=>h Z2 l2 H2 c d (g.trans g2)
 | stuck=>exact h
theorem EPost.imp{r:Res RV}{Q Q':VK}(h:EPost C Z loc sv r Q)(q:∀ v H,Q v H→Q' v H):EPost C Z loc sv r Q':=by
 cases r with
 | ok rv s'=>exact fun Z2 l2 H2 v g2 a b=>q _ _ (h Z2 l2 H2 v g2 a b)
 | exc x s'=>exact h
 | stuck=>exact h
theorem sZ.ext{r:Res (List RV)}{Q:List V→Hp→Prop}(h:sZ C Z loc sv r Q)(g:Ext Z loc Z' loc'):sZ C Z' loc' sv r Q:=by
 cases r with
 | ok rv s'=>exact fun Z2 l2 H2 v g2=>h Z2 l2 H2 v (g.trans g2)
 | exc x s'=>exact fun Z2 l2 H2 c d g2=>h Z2 l2 H2 c d (g.trans g2)
 | stuck=>exact h
theorem iu.ext{r:Res Bool}{Q:Bool→Hp→Prop}(h:iu C Z loc sv r Q)(g:Ext Z loc Z' loc'):iu C Z' loc' sv r Q:=by
 cases r with
 | ok rv s'=>exact fun Z2 l2 H2 g2=>h Z2 l2 H2 (g.trans g2)
 | exc x s'=>exact fun Z2 l2 H2 c d g2=>h Z2 l2 H2 c d (g.trans g2)
 | stuck=>exact h
theorem bS.ext{r:Res Fl}{D:Ends}(h:bS C Z loc r D)(g:Ext Z loc Z' loc'):bS C Z' loc' r D:=by
 cases r with
 | ok f s'=>
  cases f with
  | nx=>exact fun Z2 l2 v2 H2 g2=>h Z2 l2 v2 H2 (g.trans g2)
  | brk=>exact fun Z2 l2 v2 H2 g2=>h Z2 l2 v2 H2 (g.trans g2)
  | cnt=>exact fun Z2 l2 v2 H2 g2=>h Z2 l2 v2 H2 (g.trans g2)
  | ret rv=>exact fun Z2 l2 v2 H2 v g2=>h Z2 l2 v2 H2 v (g.trans g2)
 | exc x s'=>exact fun Z2 l2 v2 H2 c d g2=>h Z2 l2 v2 H2 c d (g.trans g2)
 | stuck=>exact h
theorem au.B4{f:State→Res RV}{k:RV→State→Res RV}{Q:VK}(r:SR C Z loc s sv H)(h:EPost C Z loc sv ((f s).bind k) Q):
  au C f sv H (fun v H'=>∃ Z' loc' s' rv,Ext Z loc Z' loc'∧SR C Z' loc' s' sv H'∧bM C Z' loc' s' sv H' rv v∧EPost C Z' loc' sv (k rv s') Q):=by
 refine⟨Z,loc,s,r,?_⟩
 cases e:f s with
 | ok rv s'=>rw[e]at h;exact fun Z' loc' H' v g r' q=>⟨Z',loc',s',rv,g,r',q,EPost.ext h g⟩
 | exc x s'=>rw[e]at h;exact h
 | stuck=>rw[e]at h;exact h
theorem au.sN{f:State→Res RV}{k:RV→State→Res Fl}{D:Ends}(r:SR C Z loc s sv H)(h:bS C Z loc ((f s).bind k) D):
  au C f sv H (fun v H'=>∃ Z' loc' s' rv,Ext Z loc Z' loc'∧SR C Z' loc' s' sv H'∧bM C Z' loc' s' sv H' rv v∧bS C Z' loc' (k rv s') D):=by
 refine⟨Z,loc,s,r,?_⟩
 cases e:f s with
 | ok rv s'=>rw[e]at h;exact fun Z' loc' H' v g r' q=>⟨Z',loc',s',rv,g,r',q,bS.ext h g⟩
 | exc x s'=>rw[e]at h;exact fun Z' loc' H' c d=>h Z' loc' sv H' c d
 | stuck=>rw[e]at h;exact h
theorem cV.B4{f:State→Res (List RV)}{k:List RV→State→Res RV}{Q:VK}(r:SR C Z loc s sv H)(h:EPost C Z loc sv ((f s).bind k) Q):
  cV C f sv H (fun v H'=>∃ Z' loc' s' rv,Ext Z loc Z' loc'∧SR C Z' loc' s' sv H'∧iX C Z' loc' s' sv H' rv v∧EPost C Z' loc' sv (k rv s') Q):=by
 refine⟨Z,loc,s,r,?_⟩
 cases e:f s with
 | ok rv s'=>rw[e]at h;exact fun Z' loc' H' v g r' q=>⟨Z',loc',s',rv,g,r',q,EPost.ext h g⟩
 | exc x s'=>rw[e]at h;exact h
 | stuck=>rw[e]at h;exact h
theorem dM.sN{f:State→Res Bool}{k:Bool→State→Res Fl}{D:Ends}(r:SR C Z loc s sv H)(h:bS C Z loc ((f s).bind k) D):
  dM C f sv H (fun b H'=>∃ Z' loc' s',Ext Z loc Z' loc'∧SR C Z' loc' s' sv H'∧bS C Z' loc' (k b s') D):=by
 refine⟨Z,loc,s,r,?_⟩
 cases e:f s with
 | ok rv s'=>rw[e]at h;exact fun Z' loc' H' g r'=>⟨Z',loc',s',g,r',bS.ext h g⟩
 | exc x s'=>rw[e]at h;exact fun Z' loc' H' c d=>h Z' loc' sv H' c d
 | stuck=>rw[e]at h;exact h
theorem au.imp{f:State→Res RV}{Q Q':VK}(h:au C f sv H Q)(q:∀ v H,Q v H→Q' v H):au C f sv H Q':=by
 obtain⟨Z,loc,s,r,h⟩:=h
 exact⟨Z,loc,s,r,h.imp q⟩
theorem cV.imp{f:State→Res (List RV)}{Q Q':List V→Hp→Prop}(h:cV C f sv H Q)(q:∀ v H,Q v H→Q' v H):cV C f sv H Q':=by
 obtain⟨Z,loc,s,r,h⟩:=h
 refine⟨Z,loc,s,r,?_⟩
 cases e:f s with
 | ok rv s'=>rw[e]at h;exact fun Z2 l2 H2 v g2 a b=>q _ _ (h Z2 l2 H2 v g2 a b)
 | exc x s'=>rw[e]at h;exact h
 | stuck=>rw[e]at h;exact h
theorem dM.imp{f:State→Res Bool}{Q Q':Bool→Hp→Prop}(h:dM C f sv H Q)(q:∀ v H,Q v H→Q' v H):dM C f sv H Q':=by
 obtain⟨Z,loc,s,r,h⟩:=h
 refine⟨Z,loc,s,r,?_⟩
 cases e:f s with
 | ok rv s'=>rw[e]at h;exact fun Z2 l2 H2 g2 a=>q _ _ (h Z2 l2 H2 g2 a)
 | exc x s'=>rw[e]at h;exact h
 | stuck=>rw[e]at h;exact h
end
theorem bq{X:Cx}{e:Expr}{t t':TE}(h:PE X e t)(m:∀ sv H Q,t' sv H Q→t sv H Q):PE X e t':=⟨fun pins s sv H Q I q=>h.run pins s sv H Q I (m sv H Q q)⟩
theorem Ft{X:Cx}{e:List Expr}{t t':TA}(h:PA X e t)(m:∀ sv H Q,t' sv H Q→t sv H Q):PA X e t':=⟨fun pos pins s sv H Q I q=>h.run pos pins s sv H Q I (m sv H Q q)⟩
theorem v3{X:Cx}{e:Expr}{t t':TT}(h:PT X e t)(m:∀ sv H Q,t' sv H Q→t sv H Q):PT X e t':=⟨fun pins s sv H Q I q=>h.run pins s sv H Q I (m sv H Q q)⟩
theorem gb{X:Cx}{e:Stmt}{t t':TS}(h:PS X e t)(m:∀ D sv H,t' D sv H→t D sv H):PS X e t':=⟨fun pins s sv H D I q=>h.run pins s sv H D I (m D sv H q)⟩
theorem Dw{X:Cx}{e:List Stmt}{t t':TS}(h:PSs X e t)(m:∀ D sv H,t' D sv H→t D sv H):PSs X e t':=⟨fun pins s sv H D I q=>h.run pins s sv H D I (m D sv H q)⟩
end Vw
namespace Vw
open PySem L2 PyProof.Rows
section
variable{X:Cx}
theorem QS:OpR X (binaryOp .Add) (fun x y H Q=>∃ l b xs zs,x=.ref l∧y=.ref b∧Rd H l (.lst xs)∧Rd H b (.lst zs)∧xs.length+zs.length≤sizeLine∧∀ p,H p=none→Q (.ref p) (upd H p (.lst (xs++zs)))):=by
 intro pins s σ H x y v u Q I rx ry h
 obtain⟨l,b,xs,zs,rfl,rfl,hH,hB,hz,q⟩:=h
 cases rx
 cases ry
 obtain⟨z,its,n,r,e⟩:=hH.ok I.hok
 obtain⟨z2,its2,n2,r2,e2⟩:=hB.ok I.hok
 have hl:=r.length
 have hl2:=r2.length
 refine PySem.P.add_list e e2 ?_ (by rw[List.size_toArray,List.size_toArray];omega)
 have ea:its.toArray++its2.toArray=(its++its2).toArray:=by simp
 rw[ea]
 exact⟨.ref _,_,I.lnew (t':=s.toks) (r.append r2) (by rw[List.length_append];omega),rfl,q _ I.fresh⟩
def OM(K:PySem.W.Frag)(n:Bool):R2:=fun x y H Q=>∃ d e,Dp K H x d∧Dp K H y e∧d.plain=true∧e.plain=true∧min d.depth e.depth≤60∧Q (.bl (xor n (PyData.eqv d e))) H
theorem SE(hu:X.A.units+64<cLine):OpR X (compareOp .Eq) (OM X.K false):=by
 intro pins s σ H x y v u Q I rx ry h
 obtain⟨d,e,hd,he,sd,se,dp,q⟩:=h
 obtain⟨as,r1⟩:=Dp.reads I d x v hd rx
 obtain⟨bs,r2⟩:=Dp.reads I e y u he ry
 exact SeqAt.eq_plain r1 r2 sd se (by omega) ⟨.bl _,H,I,by simp[L2.RelV],q⟩
theorem Sw(hu:X.A.units+64<cLine):OpR X (compareOp .NotEq) (OM X.K true):=by
 intro pins s σ H x y v u Q I rx ry h
 obtain⟨d,e,hd,he,sd,se,dp,q⟩:=h
 obtain⟨as,r1⟩:=Dp.reads I d x v hd rx
 obtain⟨bs,r2⟩:=Dp.reads I e y u he ry
 exact SeqAt.ne_plain r1 r2 sd se (by omega) ⟨.bl _,H,I,by simp[L2.RelV],q⟩
def rIn(K:PySem.W.Frag)(n:Bool):R2:=fun x y H Q=>∃ d l,Dp K H x d∧(Dp K H y (.list l)∨Dp K H y (.tuple l))∧d.plain=true∧PyData.plainAll l=true∧min (PyData.depthAll l) d.depth≤60∧Q (.bl (xor n (l.any fun y=>PyData.eqv y d))) H
theorem Tp(hu:X.A.units+64<cLine):OpR X (compareOp .In) (rIn X.K false):=by
 intro pins s σ H x y v u Q I rx ry h
 obtain⟨d,l,hd,he,sd,se,dp,q⟩:=h
 obtain⟨as,r1⟩:=Dp.reads I d x v hd rx
 rcases he with he | he
 ·obtain⟨bs,r2⟩:=Dp.reads I _ y u he ry
  exact SeqAt.in_list_data r2 r1 se sd (by omega) ⟨.bl _,H,I,by simp[L2.RelV],q⟩
 ·obtain⟨bs,r2⟩:=Dp.reads I _ y u he ry
  exact SeqAt.in_tuple_data r2 r1 se sd (by omega) ⟨.bl _,H,I,by simp[L2.RelV],q⟩
theorem Rm(hu:X.A.units+64<cLine):OpR X (compareOp .NotIn) (rIn X.K true):=by
 intro pins s σ H x y v u Q I rx ry h
 obtain⟨d,l,hd,he,sd,se,dp,q⟩:=h
 obtain⟨as,r1⟩:=Dp.reads I d x v hd rx
 rcases he with he | he
 ·obtain⟨bs,r2⟩:=Dp.reads I _ y u he ry
  exact SeqAt.notIn_list_data r2 r1 se sd (by omega) ⟨.bl _,H,I,by simp[L2.RelV],q⟩
 ·obtain⟨bs,r2⟩:=Dp.reads I _ y u he ry
  exact SeqAt.notIn_tuple_data r2 r1 se sd (by omega) ⟨.bl _,H,I,by simp[L2.RelV],q⟩
def JV(n:Bool):R2:=fun y x H Q=>∃ a o,x=.ref a∧DGet H a y o∧Q (.bl (xor n o.isSome)) H
theorem QL(hu:X.A.units+64<cLine):OpR X (compareOp .In) (JV false):=by
 intro pins s σ H x y v u Q I rx ry h
 obtain⟨a,o,rfl,g,q⟩:=h
 cases ry
 exact d_in (by omega) I g rx fun s' I'=>⟨.bl _,H,I',by simp[L2.RelV],q⟩
theorem Py(hu:X.A.units+64<cLine):OpR X (compareOp .NotIn) (JV true):=by
 intro pins s σ H x y v u Q I rx ry h
 obtain⟨a,o,rfl,g,q⟩:=h
 cases ry
 exact d_notIn (by omega) I g rx fun s' I'=>⟨.bl _,H,I',by simp[L2.RelV],q⟩
def rIxD:R2:=fun x y H Q=>∃ a v,x=.ref a∧DGet H a y (some v)∧Q v H
theorem Q6(hu:X.A.units+64<cLine):IxR X rIxD:=by
 intro value slice pins s σ H x y v u Q I rx ry h hs
 obtain⟨a,z,rfl,g,q⟩:=h
 cases rx
 have hT:=dict_typeIs I g
 unfold subscriptTail
 refine wpAny_bind ?_
 rw[getitemInPython_of_ne hT.not_modules]
 refine wpAny_bind (wpAny_specialOf hT PySem.F.slot_dict_getitem.lookup ?_)
 have fin:wpAny (model X.prog X.w) X.A (subscripted slice false (.ref a) u) (fun r s₃=>wpAny (model X.prog X.w) X.A (letTemporaryGo value (.ref a) r >>= fun _=>pure r) (EP X pins σ Q) X.xe s₃) X.xe s:=by
  rw[hs]
  exact wpAny_operating (d_getItem (by omega) I g ry fun w' s3 I3 rw'=>wpAny_bind (wpAny_letTemporaryGo (wpAny_pure ⟨z,H,I3,rw',q⟩)))
 first
  | exact wpAny_pure (wpAny_bind fin)
  | exact wpAny_bind (wpAny_pure (wpAny_bind fin))
  | exact wpAny_bind fin
end
def st(l:List Nat):Str:=⟨l.toArray⟩
mutual
def pd:D→PyData
 | .non=>.none
 | .bl b=>.bool b
 | .int i=>.int i
 | .str s=>.str (st s)
 | .tup l=>.tuple (dS l)
 | .lst l=>.list (dS l)
 | _=>.dict []
def dS:List D→List PyData
 | []=>[]
 | x::r=>pd x::dS r
end
mutual
theorem KS{C:Cst}{K:PySem.W.Frag}{Z:Hp}{loc:List Addr}{s:State}{sv:L2.St}{H:Hp}(r:SR C Z loc s sv H):∀ (d:D) {v:V},bK C.cA Z d v→(pd d).plain=true→Dp K H v (pd d)
 | .non,v,q,_=>by rw[show v=_ from q];exact .non
 | .bl _,v,q,_=>by rw[show v=_ from q];exact .bl _
 | .int _,v,q,_=>by rw[show v=_ from q];exact .int _
 | .str _,v,q,_=>by rw[show v=_ from q];exact .str _
 | .tup l,v,⟨a,vs,e,z,q⟩,p=>by
  rw[e]
  exact .tup (.inl (r.zh a _ z).rd) (yq r l q p)
 | .lst l,v,⟨a,vs,e,z,q⟩,p=>by
  rw[e]
  refine .lst (.inl ?_) (yq r l q p)
  rcases z with z | ⟨o,z⟩
  ·exact(r.zh a _ z).rd
  ·exact .inr ⟨o,(r.zh a _ z).at rfl⟩
 | .dic _,v,_,p=>by cases p
 | .dit _,v,_,p=>by cases p
 | .ins _ _,v,_,p=>by cases p
 | .exc _ _,v,_,p=>by cases p
theorem yq{C:Cst}{K:PySem.W.Frag}{Z:Hp}{loc:List Addr}{s:State}{sv:L2.St}{H:Hp}(r:SR C Z loc s sv H):∀ (l:List D) {vs:List V},dQ C.cA Z l vs→PyData.plainAll (dS l)=true→DpAll K H vs (dS l)
 | [],vs,q,_=>by rw[show vs=_ from q];exact .nil
 | d::l,vs,⟨v,t,e,q1,q2⟩,p=>by
  rw[e]
  have p':(pd d).plain=true∧PyData.plainAll (dS l)=true:=by simpa [dS,PyData.plainAll]using p
  exact .cons (KS r d q1 p'.1) (yq r l q2 p'.2)
end
def fH(x y:D):Bool:=PyData.eqv (pd x) (pd y)
def fK(x y:D):Bool:=(pd x).plain&&(pd y).plain&&decide (min (pd x).depth (pd y).depth≤60)
def kj(s:State):RV→RV
 | .own i=>match s.sg[i]? with
  | some (some (.v x))=>.val x
  | _=>.own i
 | r=>r
def dv(s:State)(r:RV):Option D:=
 match kj s r with
 | .val (.d x)=>some x
 | _=>none
def ob(s:State)(r:RV):Option Ob:=
 match kj s r with
 | .own i=>match s.sg[i]? with
  | some (some (.own o))=>some o
  | _=>none
 | .val (.r n)=>match s.st[n]? with
  | some .gone=>none
  | some o=>some o
  | none=>none
 | _=>none
def lv(s:State)(r:RV):Option (List Val):=
 match dv s r with
 | some (.lst l)=>some (l.map .d)
 | some _=>none
 | none=>match ob s r with
  | some (.lst l)=>some l
  | _=>none
def tv(s:State)(r:RV):Option (List Val):=
 match kj s r with
 | .val (.d (.tup l))=>some (l.map .d)
 | .val (.tp l)=>some l
 | _=>none
def lV(s:State)(r:RV):Option D:=
 match dv s r with
 | some d=>some d
 | none=>match ob s r with
  | some (.lst l)=>(toDs l).map .lst
  | _=>none
section
variable{C:Cst}{Z:Hp}{loc:List Addr}{s:State}{sv:L2.St}{H:Hp}
theorem SR.kj(r:SR C Z loc s sv H){rv:RV}{v:V}(h:bM C Z loc s sv H rv v):bM C Z loc s sv H (kj s rv) v:=by
 cases rv with
 | val x=>exact h
 | new o=>exact h
 | own i=>
  unfold Vw.kj
  dsimp only
  split
  ·rename_i x e
   obtain⟨v',h1,h2⟩:=r.vl i x e
   rw[show sv[i]? =some (some v)from h]at h1
   cases h1
   exact h2
  ·exact h
theorem SR.dv(r:SR C Z loc s sv H){rv:RV}{v:V}{x:D}(h:bM C Z loc s sv H rv v)(e:dv s rv=some x):bK C.cA Z x v:=by
 have q:=r.kj h
 unfold Vw.dv at e
 split at e
 ·rename_i y e1
  cases e
  rw[e1]at q
  exact q
 ·cases e
theorem SR.ob(r:SR C Z loc s sv H){rv:RV}{v:V}{o:Ob}(h:bM C Z loc s sv H rv v)(e:ob s rv=some o):∃ a,v=.ref a∧o≠ .gone∧Cell C.cA Z loc H a o:=by
 have q:=r.kj h
 unfold Vw.ob at e
 split at e
 ·rename_i i e1
  rw[e1]at q
  split at e
  ·rename_i o' e2
   cases e
   obtain⟨a,h1,h2,h3,_⟩:=r.ow i _ e2
   rw[show sv[i]? =some (some v)from q]at h1
   cases h1
   exact⟨a,rfl,h2,h3⟩
  ·cases e
 ·rename_i n e1
  rw[e1]at q
  obtain⟨a,h1,h2⟩:=q
  split at e
  ·cases e
  ·rename_i o' ne e2
   cases e
   exact⟨a,h2,ne,(r.cl n a _ h1 e2 ne).1⟩
  ·cases e
 ·cases e
theorem SR.lv(r:SR C Z loc s sv H){rv:RV}{v:V}{l:List Val}(h:bM C Z loc s sv H rv v)(e:lv s rv=some l):∃ a xs,v=.ref a∧Rd H a (.lst xs)∧aY C.cA Z loc l xs:=by
 unfold Vw.lv at e
 split at e
 ·rename_i l' e1
  cases e
  obtain⟨a,vs,h1,h2,h3⟩:=r.dv h e1
  refine⟨a,vs,h1,?_,gc.mpr h3⟩
  rcases h2 with z | ⟨o,z⟩
  ·exact(r.zh a _ z).rd
  ·exact .inr ⟨o,(r.zh a _ z).at rfl⟩
 ·cases e
 ·split at e
  ·rename_i l' e1
   cases e
   obtain⟨a,h1,_,xs,h2,h3⟩:=r.ob h e1
   exact⟨a,xs,h1,.inl h2,h3⟩
  ·cases e
theorem SR.tv(r:SR C Z loc s sv H){rv:RV}{v:V}{l:List Val}(h:bM C Z loc s sv H rv v)(e:tv s rv=some l):∃ a xs,v=.ref a∧H a=some (.tup xs)∧aY C.cA Z loc l xs:=by
 have q:=r.kj h
 unfold Vw.tv at e
 split at e
 ·rename_i l' e1
  cases e
  rw[e1]at q
  obtain⟨a,vs,h1,h2,h3⟩:=q
  exact⟨a,vs,h1,(r.zh a _ h2).at rfl,gc.mpr h3⟩
 ·rename_i l' e1
  cases e
  rw[e1]at q
  obtain⟨a,vs,h1,h2,h3⟩:=q
  exact⟨a,vs,h1,(r.zh a _ h2).at rfl,h3⟩
 ·cases e
theorem SR.lV(r:SR C Z loc s sv H){K:PySem.W.Frag}{rv:RV}{v:V}{d:D}(h:bM C Z loc s sv H rv v)(e:lV s rv=some d)(p:(pd d).plain=true):Dp K H v (pd d):=by
 unfold Vw.lV at e
 split at e
 ·rename_i d' e1
  cases e
  exact KS r _ (r.dv h e1) p
 ·split at e
  ·rename_i l e1
   obtain⟨ds,e2,rfl⟩:=Option.map_eq_some_iff.mp e
   obtain⟨a,h1,_,xs,h2,h3⟩:=r.ob h e1
   rw[h1]
   rw[toDs_inv e2]at h3
   exact .lst (.inl (.inl h2)) (yq r ds (gc.mp h3) p)
  ·cases e
end
end Vw
namespace Vw
open PySem L2 PyProof.Rows
def aS(x:D)(s:State):Res RV:=.ok (.val (.d x)) s
inductive Bop where
 | add | sub | mul | fdiv | mod | pow
 deriving DecidableEq
def Bop.py:Bop→Operator
 | .add=>.Add
 | .sub=>.Sub
 | .mul=>.Mult
 | .fdiv=>.FloorDiv
 | .mod=>.Mod
 | .pow=>.Pow
def sG(x y:RV)(s:State):Res RV:=
 match dv s x,dv s y with
 | some (.int i),some (.int j)=>aS (.int (i+j)) s
 | some (.str a),some (.str b)=>if a.length+b.length≤sizeLine then aS (.str (a++b)) s else .stuck
 | _,_=>match lv s x,lv s y with
  | some l,some m=>if l.length+m.length≤sizeLine then .ok (.new (.lst (l++m))) s else .stuck
  | _,_=>.stuck
def zT(x y:RV)(s:State):Res RV:=
 match dv s x,dv s y with
 | some (.int i),some (.int j)=>if i.natAbs.log2+j.natAbs.log2<1000000 then aS (.int (i*j)) s else .stuck
 | some (.str a),some (.int j)=>if 0≤j∧j<1000000∧a.length*j.toNat≤1000000 then aS (.str (List.replicate j.toNat a).flatten) s else .stuck
 | _,_=>.stuck
def binop:Bop→RV→RV→State→Res RV
 | .add,x,y,s=>sG x y s
 | .mul,x,y,s=>zT x y s
 | .sub,x,y,s=>match dv s x,dv s y with
  | some (.int i),some (.int j)=>aS (.int (i-j)) s
  | _,_=>.stuck
 | .fdiv,x,y,s=>match dv s x,dv s y with
  | some (.int i),some (.int j)=>if 0<j∧j.natAbs.log2<9000 then aS (.int (i/j)) s else .stuck
  | _,_=>.stuck
 | .mod,x,y,s=>match dv s x,dv s y with
  | some (.int i),some (.int j)=>if 0<j then aS (.int (i%j)) s else .stuck
  | _,_=>.stuck
 | .pow,x,y,s=>match dv s x,dv s y with
  | some (.int i),some (.int j)=>if 0≤j∧j≤1000000∧i.natAbs<2^64 then aS (.int (i^j.toNat)) s else .stuck
  | _,_=>.stuck
inductive Cop where
 | eq | ne | lt | le | gt | ge | is | isn | isin | notin
 deriving DecidableEq
def Cop.py:Cop→CmpOp
 | .eq=>.Eq
 | .ne=>.NotEq
 | .lt=>.Lt
 | .le=>.LtE
 | .gt=>.Gt
 | .ge=>.GtE
 | .is=>.Is
 | .isn=>.IsNot
 | .isin=>.In
 | .notin=>.NotIn
def subIn(a b:List Nat):Bool:= !(Builtin.Str.occurrences (st b) (st a) 0 b.length 1).isEmpty
def eG(a b:List Nat):Bool:=decide (a<b)
def zC(s:State)(x y:RV)(f:Int→Int→Bool)(g:List Nat→List Nat→Bool):Option Bool:=
 match dv s x,dv s y with
 | some (.int i),some (.int j)=>some (f i j)
 | some (.str a),some (.str b)=>some (g a b)
 | _,_=>none
def C7:D→Option K0
 | .int i=>some (.i i)
 | .str t=>some (.s t)
 | _=>none
def Cz:List D→Option (List K0)
 | []=>some []
 | d::r=>match C7 d,Cz r with
  | some k,some t=>some (k::t)
  | _,_=>none
def xb{κ α:Type}[DecidableEq κ](l:List (κ×α))(k:κ):Option α:=(l.find? fun p=>decide (p.1=k)).map (·.2)
def kI{κ α:Type}[DecidableEq κ](l:List (κ×α))(k:κ)(v:α):List (κ×α):=
 if l.any fun p=>decide (p.1=k)then l.map (fun p=>if p.1=k then(p.1,v)else p)else l++[(k,v)]
def oj(s:State)(r:RV):Option (List (K0×Val)):=
 match dv s r with
 | some (.dic l)=>some (l.map fun p=>(p.1,.d p.2))
 | some _=>none
 | none=>match ob s r with
  | some (.dic _ l)=>some l
  | _=>none
def wV(s:State)(r:RV):Option (List (List K0×Val)):=
 match dv s r with
 | some (.dit l)=>some (l.map fun p=>(p.1,.d p.2))
 | some _=>none
 | none=>match ob s r with
  | some (.dit _ l)=>some l
  | _=>none
def mq(s:State)(x k:RV):Option (Option Val):=
 match oj s x,dv s k with
 | some l,some d=>(C7 d).map (xb l)
 | _,_=>match wV s x,dv s k with
  | some l,some (.tup ks)=>(Cz ks).map (xb l)
  | _,_=>none
def inD(s:State)(x y:RV):Option Bool:=
 match mq s y x with
 | some o=>some o.isSome
 | none=>match dv s x,dv s y with
  | some (.str a),some (.str b)=>some (subIn a b)
  | _,_=>match lV s x,lV s y with
   | some d,some (.lst l)=>if(pd d).plain&&PyData.plainAll (dS l)&&decide (min (PyData.depthAll (dS l)) (pd d).depth≤60)then some (l.any fun y=>fH y d)else none
   | some d,some (.tup l)=>if(pd d).plain&&PyData.plainAll (dS l)&&decide (min (PyData.depthAll (dS l)) (pd d).depth≤60)then some (l.any fun y=>fH y d)else none
   | _,_=>none
def AJ(s:State)(x y:RV):Option Bool:=
 match dv s y with
 | some .non=>match dv s x with
  | some .non=>some true
  | some _=>some false
  | none=>match ob s x with
   | some _=>some false
   | none=>(tv s x).map fun _=>false
 | _=>none
def yS(s:State)(x y:RV):Option Bool:=
 match lV s x,lV s y with
 | some a,some b=>if fK a b then some (fH a b)else none
 | _,_=>none
def ij:Cop→State→RV→RV→Option Bool
 | .eq,s,x,y=>yS s x y
 | .ne,s,x,y=>(yS s x y).map not
 | .lt,s,x,y=>zC s x y (fun i j=>decide (i<j)) eG
 | .le,s,x,y=>zC s x y (fun i j=>decide (i≤j)) fun a b=> !eG b a
 | .gt,s,x,y=>zC s x y (fun i j=>decide (j<i)) fun a b=>eG b a
 | .ge,s,x,y=>zC s x y (fun i j=>decide (j≤i)) fun a b=> !eG a b
 | .is,s,x,y=>AJ s x y
 | .isn,s,x,y=>(AJ s x y).map not
 | .isin,s,x,y=>inD s x y
 | .notin,s,x,y=>(inD s x y).map not
def AU(C:Cst)(f:RV→RV→State→Res RV)(r:R2):Prop:=
 ∀ Z loc s sv H x y u v Q,SR C Z loc s sv H→bM C Z loc s sv H x u→bM C Z loc s sv H y v→EPost C Z loc sv (f x y s) Q→r u v H Q
def Nq(C:Cst)(f:State→RV→RV→Option Bool)(r:R2):Prop:=
 ∀ Z loc s sv H x y u v b Q,SR C Z loc s sv H→bM C Z loc s sv H x u→bM C Z loc s sv H y v→f s x y=some b→Q (.bl b) H→r u v H Q
section
variable{C:Cst}{Z:Hp}{loc:List Addr}{s:State}{sv:L2.St}{H:Hp}{Q:VK}
theorem EPost.val{x:Val}{v:V}(h:EPost C Z loc sv (.ok (.val x) s) Q)(r:SR C Z loc s sv H)(q:bX C.cA Z loc x v):Q v H:=h Z loc H v (Ext.refl _ _) r q
theorem EPost.aS{x:D}{v:V}(h:EPost C Z loc sv (aS x s) Q)(r:SR C Z loc s sv H)(q:bK C.cA Z x v):Q v H:=EPost.val h r q
theorem EPost.new{o:Ob}{u:HO}{p:Addr}(h:EPost C Z loc sv (.ok (.new o) s) Q)(r:SR C Z loc s sv H)(np:H p=none)(ne:o≠ .gone)(q:Cell C.cA Z loc (upd H p u) p o):Q (.ref p) (upd H p u):=
 h Z loc _ _ (Ext.refl _ _) (r.grow (bI np)) ⟨p,rfl,ne,q,r.free np⟩
theorem b7:∀ {l:List Val} {xs:List V},aY C.cA Z loc l xs→l.length=xs.length
 | [],xs,h=>by rw[show xs=_ from h];rfl
 | x::l,xs,⟨v,r,e,q,t⟩=>by rw[e,List.length_cons,List.length_cons,b7 t]
theorem m6:∀ {l m:List Val} {xs ys:List V},aY C.cA Z loc l xs→aY C.cA Z loc m ys→aY C.cA Z loc (l++m) (xs++ys)
 | [],m,xs,ys,h,g=>by rw[show xs=_ from h];exact g
 | x::l,m,xs,ys,⟨v,r,e,q,t⟩,g=>by rw[e];exact⟨v,r++ys,rfl,q,m6 t g⟩
theorem MH:AU C sG (fun x y H Q=>rI0 (fun i j=>.int (i+j)) x y H Q∨((∃ i j,x=.str i∧y=.str j∧i.length+j.length≤sizeLine∧Q (.str (i++j)) H)∨
  ∃ l b xs zs,x=.ref l∧y=.ref b∧Rd H l (.lst xs)∧Rd H b (.lst zs)∧xs.length+zs.length≤sizeLine∧∀ p,H p=none→Q (.ref p) (upd H p (.lst (xs++zs))))):=by
 intro Z loc s sv H x y u v Q r hx hy h
 unfold sG at h
 split at h
 ·rename_i i j e1 e2
  exact .inl ⟨i,j,r.dv hx e1,r.dv hy e2,h.aS r rfl⟩
 ·rename_i a b e1 e2
  split at h
  ·rename_i hl
   refine .inr (.inl ⟨⟨a.toArray⟩,⟨b.toArray⟩,r.dv hx e1,r.dv hy e2,by simpa [Str.length]using hl,h.aS r ?_⟩)
   show V.str _=V.str _
   congr 1
   show Str.mk (a.toArray++b.toArray)=_
   simp
  ·exact h.elim
 ·split at h
  ·rename_i l m e1 e2
   split at h
   ·rename_i hl
    obtain⟨a,xs,h1,h2,h3⟩:=r.lv hx e1
    obtain⟨b,ys,h4,h5,h6⟩:=r.lv hy e2
    refine .inr (.inr ⟨a,b,xs,ys,h1,h4,h2,h5,by rw[←b7 h3,←b7 h6];exact hl,fun p np=>h.new r np (by simp) ⟨_,upd_same,m6 h3 h6⟩⟩)
   ·exact h.elim
  ·exact h.elim
end
section
variable{X:Cx}
theorem QH:OpR X (binaryOp .Add) (fun x y H Q=>rI0 (fun i j=>.int (i+j)) x y H Q∨((∃ i j,x=.str i∧y=.str j∧i.length+j.length≤sizeLine∧Q (.str (i++j)) H)∨
  ∃ l b xs zs,x=.ref l∧y=.ref b∧Rd H l (.lst xs)∧Rd H b (.lst zs)∧xs.length+zs.length≤sizeLine∧∀ p,H p=none→Q (.ref p) (upd H p (.lst (xs++zs))))):=
 op_add.or (op_add_str.or QS)
def Ux:R2:=fun x y H Q=>∃ (a:Str) (j:Int),x=.str a∧y=.int j∧0≤j∧j<1000000∧a.length*j.toNat≤1000000∧Q (.str ⟨(List.replicate j.toNat a.cps.toList).flatten.toArray⟩) H
theorem A1(a:Array Nat):∀ (n:Nat) (b:Array Nat),(List.replicate n a).foldl (· ++ ·) b=(b.toList++(List.replicate n a.toList).flatten).toArray
 | 0,b=>by simp
 | n+1,b=>by
  rw[List.replicate_succ,List.foldl_cons,A1 a n]
  simp[List.replicate_succ]
theorem OZ:OpR X (binaryOp .Mult) Ux:=by
 intro pins s σ H x y v u Q I rx ry h
 obtain⟨a,j,rfl,rfl,h0,h1,h2,q⟩:=h
 obtain⟨t,rfl⟩:=rx
 obtain⟨t',rfl⟩:=ry
 have b63:(2:Int)^63=9223372036854775808:=by decide
 refine PySem.P.mul_str (by simp;omega) (fun g1 g2 g=>?_) (fun g1 g2=>?_) ?_
 ·have hj:(1:Int)≤j:=by omega
  have e1:(a.length:Int)*j≤1000000:=by
   have:((a.length*j.toNat:Nat):Int)≤1000000:=by omega
   rw[Int.natCast_mul,Int.toNat_of_nonneg h0]at this
   exact this
  have e2:(a.length:Int)≤1000000:=by
   have:a.length≤a.length*j.toNat:=Nat.le_mul_of_pos_right _ (by omega)
   omega
  have e3:(9223372036853:Int)≤(2^63- 1)/j:=by
   refine Int.le_ediv_of_mul_le (by omega) ?_
   rw[b63]
   omega
  omega
 ·have h3:a.length*j.toNat≤1000000:=h2
  unfold Builtin.Str.tooLong
  rw[sizeLine_eq]
  simp
  omega
 ·by_cases c1:j<1
  ·rw[if_pos c1]
   have e0:j=0:=by omega
   subst e0
   exact⟨by decide,.str _,H,I.tok _,⟨_,rfl⟩,q⟩
  ·rw[if_neg c1]
   by_cases c2:(j==1||a.length==0)=true
   ·rw[if_pos c2]
    refine⟨.str a,H,I,⟨_,rfl⟩,?_⟩
    have ea:(⟨(List.replicate j.toNat a.cps.toList).flatten.toArray⟩:Str)=a:=by
     refine Str.ext' (Array.toList_inj.mp ?_)
     simp at c2
     rcases c2 with c2 | c2
     ·subst c2;simp
     ·have:a.cps.toList=[]:=List.length_eq_zero_iff.mp (by simpa [Str.length]using c2)
      simp[this]
    rw[ea]at q
    exact q
   ·rw[if_neg c2]
    have ea:(List.replicate j.toNat a.cps).foldl (· ++ ·) #[]=(List.replicate j.toNat a.cps.toList).flatten.toArray:=by
     rw[A1];simp
    rw[ea]
    refine⟨?_,.str _,H,I.tok _,⟨_,rfl⟩,q⟩
    show(List.replicate j.toNat a.cps.toList).flatten.toArray.size≤_
    rw[List.size_toArray,List.length_flatten,List.map_replicate,List.sum_replicate_nat,sizeLine_eq]
    have h3:a.cps.toList.length=a.length:=rfl
    rw[h3,Nat.mul_comm]
    omega
end
end Vw
namespace Vw
open PySem L2 PyProof.Rows
section
variable{C:Cst}{X:Cx}
theorem vD{f:RV→RV→State→Res RV}{c:Int→Int→Prop}{g:Int→Int→Int}
  (h:∀ x y s,(∃ i j,dv s x=some (.int i)∧dv s y=some (.int j)∧c i j∧f x y s=aS (.int (g i j)) s)∨f x y s=.stuck):AU C f (rI c fun i j=>.int (g i j)):=by
 intro Z loc s sv H x y u v Q r hx hy q
 rcases h x y s with⟨i,j,e1,e2,hc,e⟩ | e
 ·rw[e]at q
  exact⟨i,j,r.dv hx e1,r.dv hy e2,hc,q.aS r rfl⟩
 ·rw[e]at q
  exact q.elim
theorem CC(op:Bop):∃ r,OpR X (binaryOp op.py) r∧AU C (binop op) r:=by
 cases op with
 | add=>exact⟨_,QH,MH⟩
 | sub=>exact⟨_,opI (C:=fun _ _=>True) fun _ _ _ _ _ _ _ _ q=>sub_int q,vD fun x y s=>by
   show(_∨(match dv s x,dv s y with | some (.int i),some (.int j)=>_ | _,_=>_)=Res.stuck)
   split
   ·rename_i i j e1 e2;exact .inl ⟨i,j,e1,e2,trivial,by unfold binop;simp only[e1,e2]⟩
   ·exact .inr rfl⟩
 | mul=>
  refine⟨_,op_mulW.or OZ,?_⟩
  intro Z loc s sv H x y u v Q r hx hy q
  unfold binop zT at q
  dsimp only at q
  split at q
  ·rename_i i j e1 e2
   split at q
   ·rename_i hc
    exact .inl ⟨i,j,r.dv hx e1,r.dv hy e2,hc,q.aS r rfl⟩
   ·exact q.elim
  ·rename_i a j e1 e2
   split at q
   ·rename_i hc
    refine .inr ⟨⟨a.toArray⟩,j,r.dv hx e1,r.dv hy e2,hc.1,hc.2.1,by simpa [Str.length]using hc.2.2,q.aS r ?_⟩
    show V.str _=V.str _
    simp
   ·exact q.elim
  ·exact q.elim
 | fdiv=>exact⟨_,op_fdivW,vD fun x y s=>by
   show(_∨(match dv s x,dv s y with | some (.int i),some (.int j)=>_ | _,_=>_)=Res.stuck)
   split
   ·rename_i i j e1 e2
    by_cases hc:0<j∧j.natAbs.log2<9000
    ·exact .inl ⟨i,j,e1,e2,hc,by unfold binop;simp only[e1,e2,if_pos hc]⟩
    ·exact .inr (if_neg hc)
   ·exact .inr rfl⟩
 | mod=>exact⟨_,op_mod,vD fun x y s=>by
   show(_∨(match dv s x,dv s y with | some (.int i),some (.int j)=>_ | _,_=>_)=Res.stuck)
   split
   ·rename_i i j e1 e2
    by_cases hc:0<j
    ·exact .inl ⟨i,j,e1,e2,hc,by unfold binop;simp only[e1,e2,if_pos hc]⟩
    ·exact .inr (if_neg hc)
   ·exact .inr rfl⟩
 | pow=>exact⟨_,op_pow,vD fun x y s=>by
   show(_∨(match dv s x,dv s y with | some (.int i),some (.int j)=>_ | _,_=>_)=Res.stuck)
   split
   ·rename_i i j e1 e2
    by_cases hc:0≤j∧j≤1000000∧i.natAbs<2^64
    ·exact .inl ⟨i,j,e1,e2,hc,by unfold binop;simp only[e1,e2,if_pos hc]⟩
    ·exact .inr (if_neg hc)
   ·exact .inr rfl⟩
end
section
variable{C:Cst}{Z:Hp}{loc:List Addr}{s:State}{sv:L2.St}{H:Hp}
theorem GN{d:D}{k:K0}{v:V}(e:C7 d=some k)(h:bK C.cA Z d v):v=kV (kz k):=by
 cases d<;> simp[C7]at e
 ·subst e;exact h
 ·subst e;exact h
theorem Cu:∀ {l:List D} {ks:List K0} {vs:List V},Cz l=some ks→dQ C.cA Z l vs→vs=(ks.map kz).map kV
 | [],ks,vs,e,h=>by cases e;rw[show vs=_ from h];rfl
 | d::l,ks,vs,e,⟨v,r,e1,q,t⟩=>by
  unfold Cz at e
  split at e
  ·rename_i k ks' e2 e3
   cases e
   rw[e1,GN e2 q,Cu e3 t]
   rfl
  ·cases e
def Ej(C:Cst)(Z:Hp)(loc:List Addr):Option Val→Option V→Prop
 | some x,some v=>bX C.cA Z loc x v
 | none,none=>True
 | _,_=>False
theorem AF{κ α:Type}[DecidableEq κ](k':κ)(x:α)(l:List (κ×α))(k:κ):xb ((k',x)::l) k=if k'=k then some x else xb l k:=by
 unfold xb
 by_cases e:k'=k<;> simp[List.find?_cons,e]
theorem AM:∀ {l:List (K0×Val)} {ws:List (Key×V)} (k:K0),dN C.cA Z loc l ws→Ej C Z loc (xb l k) (valV ws (kz k))
 | [],ws,k,h=>by rw[show ws=_ from h];exact trivial
 | (k',x)::l,ws,k,⟨v,r,e,q,t⟩=>by
  rw[e,AF]
  by_cases hk:k'=k
  ·rw[if_pos hk,valV_pos (by rw[hk])];exact q
  ·rw[if_neg hk,valV_neg (fun z=>hk (yn z))];exact AM k t
theorem oy:∀ {a b:List K0},a.map kz=b.map kz→a=b
 | [],[],_=>rfl
 | [],_::_,h=>by simp at h
 | _::_,[],h=>by simp at h
 | x::a,y::b,h=>by
  simp only[List.map_cons,List.cons.injEq]at h
  rw[yn h.1,oy h.2]
theorem Ay:∀ {l:List (List K0×Val)} {ws:List (List Key×V)} (k:List K0),d7 C.cA Z loc l ws→Ej C Z loc (xb l k) (valV ws (k.map kz))
 | [],ws,k,h=>by rw[show ws=_ from h];exact trivial
 | (k',x)::l,ws,k,⟨v,r,e,q,t⟩=>by
  rw[e,AF]
  by_cases hk:k'=k
  ·rw[if_pos hk,valV_pos (by rw[hk])];exact q
  ·rw[if_neg hk,valV_neg (fun z=>hk (oy z))];exact Ay k t
theorem AK.rd{H:Hp}{a:Addr}{u:HO}:∀ {k:Bool},AK H a u k→Rd H a u
 | false,q=>.inl q
 | true,q=>.inr q
theorem SR.oj(r:SR C Z loc s sv H){rv:RV}{v:V}{l:List (K0×Val)}(h:bM C Z loc s sv H rv v)(e:oj s rv=some l):∃ a ws,v=.ref a∧Rd H a (.dK ws)∧dN C.cA Z loc l ws:=by
 unfold Vw.oj at e
 split at e
 ·rename_i l' e1
  cases e
  obtain⟨a,ws,h1,h2,h3⟩:=r.dv h e1
  exact⟨a,ws,h1,(r.zh a _ h2).rd,tN.mpr h3⟩
 ·cases e
 ·split at e
  ·rename_i k l' e1
   cases e
   obtain⟨a,h1,_,ws,h2,h3⟩:=r.ob h e1
   exact⟨a,ws,h1,h2.rd,h3⟩
  ·cases e
theorem SR.wV(r:SR C Z loc s sv H){rv:RV}{v:V}{l:List (List K0×Val)}(h:bM C Z loc s sv H rv v)(e:wV s rv=some l):∃ a ws,v=.ref a∧Rd H a (.dT ws)∧d7 C.cA Z loc l ws:=by
 unfold Vw.wV at e
 split at e
 ·rename_i l' e1
  cases e
  obtain⟨a,ws,h1,h2,h3⟩:=r.dv h e1
  exact⟨a,ws,h1,(r.zh a _ h2).rd,tJ.mpr h3⟩
 ·cases e
 ·split at e
  ·rename_i k l' e1
   cases e
   obtain⟨a,h1,_,ws,h2,h3⟩:=r.ob h e1
   exact⟨a,ws,h1,h2.rd,h3⟩
  ·cases e
theorem SR.mq(r:SR C Z loc s sv H){x k:RV}{u v:V}{o:Option Val}(hx:bM C Z loc s sv H x u)(hk:bM C Z loc s sv H k v)(e:mq s x k=some o):
  ∃ a w,u=.ref a∧DGet H a v w∧Ej C Z loc o w:=by
 unfold Vw.mq at e
 split at e
 ·rename_i l d e1 e2
  obtain⟨k0,e3,rfl⟩:=Option.map_eq_some_iff.mp e
  obtain⟨a,ws,h1,h2,h3⟩:=r.oj hx e1
  exact⟨a,_,h1,.inl ⟨ws,kz k0,h2,GN e3 (r.dv hk e2),rfl⟩,AM k0 h3⟩
 ·split at e
  ·rename_i l ks e1 e2
   obtain⟨k0,e3,rfl⟩:=Option.map_eq_some_iff.mp e
   obtain⟨a,ws,h1,h2,h3⟩:=r.wV hx e1
   obtain⟨b,vs,h4,h5,h6⟩:=r.dv hk e2
   refine⟨a,_,h1,.inr ⟨ws,k0.map kz,b,h2,h4,?_,rfl⟩,Ay k0 h3⟩
   rw[←Cu e3 h6]
   exact(r.zh b _ h5).at rfl
  ·cases e
theorem Ej.isSome{o:Option Val}{w:Option V}(h:Ej C Z loc o w):o.isSome=w.isSome:=by
 cases o<;> cases w<;> first | rfl | exact h.elim
end
section
variable{C:Cst}{X:Cx}
theorem Gp{op:CmpOp}{f:Int→Int→Bool}{g:List Nat→List Nat→Bool}
  (h1:OpR X (compareOp op) (rI0 fun i j=>.bl (f i j))) (h2:OpR X (compareOp op) (fun x y H Q=>∃ i j:Str,x=.str i∧y=.str j∧Q (.bl (g i.cps.toList j.cps.toList)) H)):
  ∃ r,OpR X (compareOp op) r∧Nq C (fun s x y=>zC s x y f g) r:=by
 refine⟨_,h1.or h2,?_⟩
 intro Z loc s sv H x y u v b Q r hx hy e q
 unfold zC at e
 dsimp only at e
 split at e
 ·rename_i i j e1 e2
  cases e
  exact .inl ⟨i,j,r.dv hx e1,r.dv hy e2,q⟩
 ·rename_i i j e1 e2
  cases e
  exact .inr ⟨⟨i.toArray⟩,⟨j.toArray⟩,r.dv hx e1,r.dv hy e2,by simpa using q⟩
 ·cases e
theorem R3(n:Bool){Z:Hp}{loc:List Addr}{s:State}{sv:L2.St}{H:Hp}{x y:RV}{u v:V}{b:Bool}{Q:VK}(r:SR C Z loc s sv H)(hx:bM C Z loc s sv H x u)(hy:bM C Z loc s sv H y v)(e:yS s x y=some b)
  (q:Q (.bl (xor n b)) H):OM X.K n u v H Q:=by
 unfold yS at e
 split at e
 ·rename_i d d' e1 e2
  split at e
  ·rename_i hc
   cases e
   simp only[fK,Bool.and_eq_true,decide_eq_true_eq]at hc
   exact⟨pd d,pd d',r.lV hx e1 hc.1.1,r.lV hy e2 hc.1.2,hc.1.1,hc.1.2,hc.2,q⟩
  ·cases e
 ·cases e
theorem zt(d:D):∀ l:List D,(dS l).any (fun y=>PyData.eqv y (pd d))=l.any fun y=>fH y d
 | []=>rfl
 | x::l=>by
  show(_||_)=(_||_)
  rw[zt d l]
  rfl
theorem RP(n:Bool){Z:Hp}{loc:List Addr}{s:State}{sv:L2.St}{H:Hp}{x y:RV}{u v:V}{b:Bool}(r:SR C Z loc s sv H)(hx:bM C Z loc s sv H x u)(hy:bM C Z loc s sv H y v)(e:AJ s x y=some b):
  v=.non∧decide (u=.non)=b:=by
 unfold AJ at e
 split at e
 ·rename_i e1
  refine⟨r.dv hy e1,?_⟩
  split at e
  ·rename_i e2
   cases e
   exact decide_eq_true (r.dv hx e2)
  ·rename_i d ne e2
   cases e
   refine decide_eq_false fun z=>?_
   have q:=r.dv hx e2
   subst z
   cases d with
   | non=>exact ne rfl
   | bl _=>cases q
   | int _=>cases q
   | str _=>cases q
   | tup l=>obtain⟨_,_,h,_⟩:=q;cases h
   | lst l=>obtain⟨_,_,h,_⟩:=q;cases h
   | dic l=>obtain⟨_,_,h,_⟩:=q;cases h
   | dit l=>obtain⟨_,_,h,_⟩:=q;cases h
   | ins c l=>obtain⟨_,_,_,h,_⟩:=q;cases h
   | exc c l=>obtain⟨_,_,_,h,_⟩:=q;cases h
  ·split at e
   ·rename_i o e2
    cases e
    obtain⟨a,h,_⟩:=r.ob hx e2
    rw[h];rfl
   ·obtain⟨l,e2,e3⟩:=Option.map_eq_some_iff.mp e
    obtain⟨a,xs,h,_⟩:=r.tv hx e2
    rw[h,←e3];rfl
 ·cases e
theorem RX(n:Bool){Z:Hp}{loc:List Addr}{s:State}{sv:L2.St}{H:Hp}{x y:RV}{u v:V}{b:Bool}{Q:VK}(r:SR C Z loc s sv H)(hx:bM C Z loc s sv H x u)(hy:bM C Z loc s sv H y v)(e:inD s x y=some b)
  (q:Q (.bl (xor n b)) H):JV n u v H Q∨((∃ i j,u=.str i∧v=.str j∧Q (.bl (xor n (!(Builtin.Str.occurrences j i 0 j.length 1).isEmpty))) H)∨rIn X.K n u v H Q):=by
 unfold inD at e
 split at e
 ·rename_i o e1
  cases e
  obtain⟨a,w,h1,h2,h3⟩:=r.mq hy hx e1
  exact .inl ⟨a,w,h1,h2,by rw[←h3.isSome];exact q⟩
 ·split at e
  ·rename_i i j e1 e2
   cases e
   exact .inr (.inl ⟨⟨i.toArray⟩,⟨j.toArray⟩,r.dv hx e1,r.dv hy e2,by simpa [subIn,st,Str.length]using q⟩)
  ·split at e
   ·rename_i d l e1 e2
    split at e
    ·rename_i hc
     cases e
     simp only[Bool.and_eq_true,decide_eq_true_eq]at hc
     refine .inr (.inr ⟨pd d,dS l,r.lV hx e1 hc.1.1,.inl (r.lV hy e2 hc.1.2),hc.1.1,hc.1.2,hc.2,?_⟩)
     rw[zt];exact q
    ·cases e
   ·rename_i d l e1 e2
    split at e
    ·rename_i hc
     cases e
     simp only[Bool.and_eq_true,decide_eq_true_eq]at hc
     refine .inr (.inr ⟨pd d,dS l,r.lV hx e1 hc.1.1,.inr (r.lV hy e2 hc.1.2),hc.1.1,hc.1.2,hc.2,?_⟩)
     rw[zt];exact q
    ·cases e
   ·cases e
theorem rY(hu:X.A.units+64<cLine)(op:Cop):∃ r,OpR X (compareOp op.py) r∧Nq C (ij op) r:=by
 cases op with
 | eq=>exact⟨_,SE hu,fun Z loc s sv H x y u v b Q r hx hy e q=>R3 false r hx hy e (by simpa using q)⟩
 | ne=>exact⟨_,Sw hu,fun Z loc s sv H x y u v b Q r hx hy e q=>by
   obtain⟨b',e1,rfl⟩:=Option.map_eq_some_iff.mp e
   exact R3 true r hx hy e1 (by simpa using q)⟩
 | lt=>exact Gp op_lt op_lt_str
 | le=>exact Gp op_le op_le_str
 | gt=>exact Gp op_gt op_gt_str
 | ge=>exact Gp op_ge op_ge_str
 | is=>exact⟨_,op_isN,fun Z loc s sv H x y u v b Q r hx hy e q=>by
   obtain⟨h1,h2⟩:=RP false r hx hy e
   exact⟨h1,by rw[h2];exact q⟩⟩
 | isn=>exact⟨_,op_notN,fun Z loc s sv H x y u v b Q r hx hy e q=>by
   obtain⟨b',e1,rfl⟩:=Option.map_eq_some_iff.mp e
   obtain⟨h1,h2⟩:=RP false r hx hy e1
   exact⟨h1,by rw[h2];exact q⟩⟩
 | isin=>exact⟨_,(QL hu).or (op_in_str.or (Tp hu)),fun Z loc s sv H x y u v b Q r hx hy e q=>by
   rcases RX (X:=X) false r hx hy e (by simpa using q)with h | ⟨i,j,h1,h2,h3⟩ | h
   ·exact .inl h
   ·exact .inr (.inl ⟨i,j,h1,h2,by simpa using h3⟩)
   ·exact .inr (.inr h)⟩
 | notin=>exact⟨_,(Py hu).or (L2.op_notin_str.or (Rm hu)),fun Z loc s sv H x y u v b Q r hx hy e q=>by
   obtain⟨b',e1,rfl⟩:=Option.map_eq_some_iff.mp e
   rcases RX (X:=X) true r hx hy e1 (by simpa using q)with h | ⟨i,j,h1,h2,h3⟩ | h
   ·exact .inl h
   ·exact .inr (.inl ⟨i,j,h1,h2,by simpa using h3⟩)
   ·exact .inr (.inr h)⟩
end
end Vw
namespace Vw
open PySem L2 PyProof.Rows
def notStar:Expr→Bool
 | .Starred .. =>false
 | _=>true
def Hc:Expr→Bool
 | .Call (.Name x _) [] [] _=>x != "super"
 | _=>true
theorem bx{e:Expr}{es:List Expr}{env:Env}(h:notStar e=true):starEach (e::es) env=(false,eval e env)::starEach es env:=by
 cases e<;> first | rfl | cases h
theorem eW{pos:Pos}{env:Env}:∀ {es:List Expr},es.all notStar=true→(backTo pos (starEach es env)).any (·.1)=false
 | [],_=>rfl
 | e::es,h=>by
  simp only[List.all_cons,Bool.and_eq_true]at h
  rw[bx h.1]
  show(false||_)=false
  rw[Bool.false_or]
  exact eW h.2
theorem D7{pos:Pos}{env:Env}:∀ {es:List Expr},es.all notStar=true→(backTo pos (starEach es env)).all (fun x=> !x.1)=true
 | [],_=>rfl
 | e::es,h=>by
  simp only[List.all_cons,Bool.and_eq_true]at h
  rw[bx h.1]
  show(true&&_)=true
  rw[Bool.true_and]
  exact D7 h.2
theorem O0{pos:Pos}{env:Env}{es:List Expr}(h:es.all notStar=true)(hl:es.length<20):
  ((backTo pos (starEach es env)).all (fun x=> !x.1)&&(backToKw pos (keywordEach [] env)).all (fun x=>x.1.isSome)
   &&decide (es.length+([]:List Keyword).length+(if([]:List Keyword).isEmpty then 0 else 1)<30))=true:=by
 rw[D7 h]
 show(true&&true&&decide (es.length+0+0<30))=true
 simp
 omega
theorem Ku{o:Expr}{a:Str}{env:Env}{w:Sem Value}(h:Hc o=true):attributeBase o a env w=w:=by
 unfold attributeBase
 split
 ·rename_i x p q
  have hx:(x != "super")=true:=by
   unfold Hc at h
   exact h
  simp[hx]
 ·rfl
def A6:Expr→Bool
 | .UnaryOp .Not _ _=>false
 | .BoolOp .. =>false
 | .IfExp .. =>false
 | .Compare .. =>false
 | _=>true
theorem mW{e:Expr}{env:Env}(h:A6 e=true):∀ whole,isTrue e env whole=(do let v ←whole;standAt e.pos;holding [v] (truthy v)):=by
 intro w
 cases e<;> first | rfl | cases h | skip
 rename_i op x p
 cases op<;> first | rfl | cases h
def cw:Expr→Bool
 | .Set .. =>false
 | _=>true
theorem wY{op:CmpOp}{e:Expr}(h:cw e=true):behindInMarks op e=false:=by
 cases e<;> first | rfl | cases h
theorem fold_ok{e:Expr}{env:Env}(h:cw e=true):∀ x,foldedSetIterable e env x=pure x:=by
 intro x
 cases e<;> first | rfl | cases h
def j6:Expr→Bool
 | .ListComp .. =>false
 | .SetComp .. =>false
 | .DictComp .. =>false
 | _=>true
theorem vE{e:Expr}{t:Option Expr}{n:Nat}{env:Env}(h:j6 e=true):swapsWith e t n env=pure false:=by
 cases e<;> first | rfl | cases h
def p0:Expr→Bool
 | .Slice .. =>false
 | _=>true
theorem GQ{e:Expr}(h:p0 e=true):PlainIx e:=by
 intro o i
 cases e<;> first | rfl | cases h
def ae(i:Nat)(s:State):Res RV:=
 match s.sg[i]? with
 | some (some (.v x))=>.ok (.val x) s
 | some (some (.own _))=>.ok (.own i) s
 | _=>.stuck
def fD(d:D)(s:State):Res RV:=aS d s
def ev(f:State→Res RV)(s:State):Res RV:=(f s).bind settle
def ao(fa fb:State→Res RV)(k:RV→RV→State→Res RV)(s:State):Res RV:=(ev fa s).bind fun x s=>(ev fb s).bind fun y s=>k x y s
def aD(op:Cop)(x y:RV)(s:State):Res RV:=
 match ij op s x y with
 | some b=>aS (.bl b) s
 | none=>.stuck
def yT(r:RV)(s:State):Res Bool:=
 match dv s r with
 | some (.bl b)=>.ok b s
 | _=>.stuck
def aM(f:State→Res RV)(s:State):Res Bool:=(ev f s).bind yT
def aw:List (State→Res RV)→State→Res (List RV)
 | [],s=>.ok [] s
 | f::r,s=>(ev f s).bind fun x s=>(aw r s).bind fun xs s=>.ok (x::xs) s
def bc:List RV→State→Res (List Val)
 | [],s=>.ok [] s
 | r::rs,s=>(cf r s).bind fun x s=>(bc rs s).bind fun xs s=>.ok (x::xs) s
def iY(l:List Val):Val:=
 match toDs l with
 | some ds=>.d (.tup ds)
 | none=>.tp l
def D2(rs:List RV)(s:State):Res RV:=(bc rs s).bind fun l s=>if l.length≤sizeLine then .ok (.val (iY l)) s else .stuck
def CY(rs:List RV)(s:State):Res RV:=(bc rs s).bind fun l s=>if l.length≤sizeLine then .ok (.new (.lst l)) s else .stuck
def Dm(x:RV)(s:State):Res RV:=
 match dv s x with
 | some (.int i)=>aS (.int (-i)) s
 | _=>.stuck
def iL:List (State→Res Bool)→State→Res Bool
 | [],s=>.ok true s
 | [f],s=>f s
 | f::r,s=>(f s).bind fun b s=>if b=true then iL r s else .ok false s
def lU:List (State→Res Bool)→State→Res Bool
 | [],s=>.ok false s
 | [f],s=>f s
 | f::r,s=>(f s).bind fun b s=>if b=true then .ok true s else lU r s
def jy(f:State→Res Bool)(s:State):Res Bool:=(f s).bind fun b s=>.ok (!b) s
def fN:List (State→Res RV)→State→Res RV
 | [],s=>.stuck
 | [f],s=>ev f s
 | f::r,s=>(aM f s).bind fun b s=>if b=true then fN r s else aS (.bl false) s
def mE:List (State→Res RV)→State→Res RV
 | [],s=>.stuck
 | [f],s=>ev f s
 | f::r,s=>(aM f s).bind fun b s=>if b=true then aS (.bl true) s else mE r s
theorem Res.bind_assoc{α β γ:Type}(r:Res α)(f:α→State→Res β)(g:β→State→Res γ):(r.bind f).bind g=r.bind fun a s=>(f a s).bind g:=by
 cases r<;> rfl
section
variable{C:Cst}{Z Z':Hp}{loc loc':List Addr}{s s':State}{sv:L2.St}{H:Hp}
theorem au.Fy{f:State→Res RV}{α:Type}{k:RV→State→Res α}{PO:Hp→List Addr→Res α→Prop}{Q:VK}
  (r:SR C Z loc s sv H) (h:PO Z loc ((ev f s).bind k)) (ext:∀ Z' loc' t,Ext Z loc Z' loc'→PO Z loc t→PO Z' loc' t)
  (hx:∀ x s',PO Z loc (.exc x s')→∀ Z' loc' H' c d,Ext Z loc Z' loc'→SR C Z' loc' s' sv H'→ke C Z' H' x c d→C.W c d sv H') (hs:¬ PO Z loc .stuck)
  (hq:∀ v H',(∃ Z' loc' s' rv,Ext Z loc Z' loc'∧SR C Z' loc' s' sv H'∧yy rv∧bM C Z' loc' s' sv H' rv v∧PO Z' loc' (k rv s'))→Q v H'):au C f sv H Q:=by
 refine⟨Z,loc,s,r,?_⟩
 unfold ev at h
 cases e:f s with
 | stuck=>rw[e]at h;exact(hs h).elim
 | exc x s'=>rw[e]at h;exact hx x s' h
 | ok rv s'=>
  rw[e]at h
  intro Z1 l1 H1 v g r1 q
  simp only[Res.aa]at h
  cases e2:settle rv s' with
  | stuck=>rw[e2]at h;exact(hs h).elim
  | exc x s2=>exact absurd e2 AN
  | ok rv' s2=>
   rw[e2]at h
   obtain⟨rfl,st,Z2,g2,r2,q2⟩:=r1.settle q e2
   exact hq v H1 ⟨Z2,l1,s2,rv',g.trans g2,r2,st,q2,ext _ _ _ (g.trans g2) h⟩
theorem au.nq{f:State→Res RV}{k:RV→State→Res RV}{Q:VK}(r:SR C Z loc s sv H)(h:EPost C Z loc sv ((ev f s).bind k) Q):
  au C f sv H (fun v H'=>∃ Z' loc' s' rv,Ext Z loc Z' loc'∧SR C Z' loc' s' sv H'∧yy rv∧bM C Z' loc' s' sv H' rv v∧EPost C Z' loc' sv (k rv s') Q):=
 au.Fy (PO:=fun Z loc t=>EPost C Z loc sv t Q) r h (fun _ _ _ g q=>q.ext g) (fun _ _ q=>q) (fun q=>q) fun _ _ q=>q
theorem au.SV{f:State→Res RV}{k:RV→State→Res (List RV)}{Q:List V→Hp→Prop}(r:SR C Z loc s sv H)(h:sZ C Z loc sv ((ev f s).bind k) Q):
  au C f sv H (fun v H'=>∃ Z' loc' s' rv,Ext Z loc Z' loc'∧SR C Z' loc' s' sv H'∧yy rv∧bM C Z' loc' s' sv H' rv v∧sZ C Z' loc' sv (k rv s') Q):=
 au.Fy (PO:=fun Z loc t=>sZ C Z loc sv t Q) r h (fun _ _ _ g q=>q.ext g) (fun _ _ q=>q) (fun q=>q) fun _ _ q=>q
theorem au.SF{f:State→Res RV}{k:RV→State→Res Bool}{Q:Bool→Hp→Prop}(r:SR C Z loc s sv H)(h:iu C Z loc sv ((ev f s).bind k) Q):
  au C f sv H (fun v H'=>∃ Z' loc' s' rv,Ext Z loc Z' loc'∧SR C Z' loc' s' sv H'∧yy rv∧bM C Z' loc' s' sv H' rv v∧iu C Z' loc' sv (k rv s') Q):=
 au.Fy (PO:=fun Z loc t=>iu C Z loc sv t Q) r h (fun _ _ _ g q=>q.ext g) (fun _ _ q=>q) (fun q=>q) fun _ _ q=>q
theorem au.AH{f:State→Res RV}{k:RV→State→Res Fl}{D:Ends}(r:SR C Z loc s sv H)(h:bS C Z loc ((ev f s).bind k) D):
  au C f sv H (fun v H'=>∃ Z' loc' s' rv,Ext Z loc Z' loc'∧SR C Z' loc' s' sv H'∧yy rv∧bM C Z' loc' s' sv H' rv v∧bS C Z' loc' (k rv s') D):=
 au.Fy (PO:=fun Z loc t=>bS C Z loc t D) r h (fun _ _ _ g q=>q.ext g) (fun _ _ q Z' loc' H' c d=>q Z' loc' sv H' c d) (fun q=>q) fun _ _ q=>q
variable{X:Cx}{e a b c:Expr}{es:List Expr}{pos:Pos}{f fa fb fc:State→Res RV}{ft:State→Res Bool}
theorem v_var{i:Nat}{x:Str}(hN:X.N[i]? =some x)(hv:Vis X.env.scope x)(hd:(x==("__debug__":Str))=false)(hcd:(x==("__classdict__":Str))=false):PE X (.Name x pos) (au C (ae i)):=by
 refine bq (pe_var hN hv hd hcd) fun sv H Q ⟨Z,loc,s,r,h⟩=>?_
 unfold ae at h
 split at h
 ·rename_i y e
  obtain⟨v,h1,h2⟩:=r.vl i y e
  exact⟨v,h1,h.val r h2⟩
 ·rename_i o e
  obtain⟨a,h1,_⟩:=r.ow i o e
  exact⟨_,h1,h Z loc H _ (Ext.refl _ _) r h1⟩
 ·exact h.elim
theorem su{d:D}{v:V}(he:PE X e (tC v))(hd:∀ Z,bK C.cA Z d v):PE X e (au C (fD d)):=
 bq he fun sv H Q ⟨Z,loc,s,r,h⟩=>EPost.aS h r (hd Z)
theorem vT{r:R2}{g:RV→RV→State→Res RV}(hs:AU C g r){Q:VK}(h:au C (ao fa fb g) sv H Q):tOp r (au C fa) (au C fb) sv H Q:=by
 obtain⟨Z,loc,s,r0,h⟩:=h
 refine(au.nq r0 h).imp fun u H1 ⟨Z1,l1,s1,x,g1,r1,st1,q1,h1⟩=>?_
 refine(au.nq r1 h1).imp fun v H2 ⟨Z2,l2,s2,y,g2,r2,st2,q2,h2⟩=>?_
 exact hs Z2 l2 s2 sv H2 x y u v Q r2 (q1.mono g2 st1) q2 h2
theorem vH(op:Bop)(ha:PE X a (au C fa))(hb:PE X b (au C fb)):PE X (.BinOp a op.py b pos) (au C (ao fa fb (binop op))):=by
 obtain⟨r,ho,hs⟩:=CC (C:=C) (X:=X) op
 exact bq (pe_op ho ha hb) fun sv H Q h=>vT hs h
theorem Ab{op:Cop}{r:R2}(hs:Nq C (ij op) r):AU C (aD op) r:=by
 intro Z loc s sv H x y u v Q r0 hx hy h
 unfold aD at h
 split at h
 ·rename_i b e
  exact hs Z loc s sv H x y u v b Q r0 hx hy e (h.aS r0 rfl)
 ·exact h.elim
theorem Gx(hu:X.A.units+64<cLine)(op:Cop)(ha:PE X a (au C fa))(hb:PE X b (au C fb))(hm:cw b=true):PE X (.Compare a [op.py] [b] pos) (au C (ao fa fb (aD op))):=by
 obtain⟨r,ho,hs⟩:=rY (C:=C) hu op
 exact bq (pe_cmpR ho ha hb (wY hm)) fun sv H Q h=>vT (Ab hs) h
theorem toB{f:State→Res RV}{Q:Bool→Hp→Prop}(h:dM C (aM f) sv H Q):au C f sv H (fun x H'=>∃ k,x=.bl k∧Q k H'):=by
 obtain⟨Z,loc,s,r0,h⟩:=h
 refine(au.SF r0 h).imp fun u H1 ⟨Z1,l1,s1,x,g1,r1,st1,q1,h1⟩=>?_
 unfold yT at h1
 split at h1
 ·rename_i b e
  exact⟨b,r1.dv q1 e,h1 Z1 l1 H1 (Ext.refl _ _) r1⟩
 ·exact h1.elim
theorem fq(h:PE X e (au C f))(he:A6 e=true):PT X e (dM C (aM f)):=
 v3 (pt_val h (mW he)) fun sv H Q q=>toB q
theorem ko(hu:X.A.units+64<cLine)(op:Cop)(ha:PE X a (au C fa))(hb:PE X b (au C fb))(hm:cw b=true):PT X (.Compare a [op.py] [b] pos) (dM C (aM (ao fa fb (aD op)))):=by
 obtain⟨r,ho,hs⟩:=rY (C:=C) hu op
 exact v3 (pt_cmpR ho ha hb (wY hm)) fun sv H Q q=>vT (Ab hs) (toB q)
def wI(fa fb fc:State→Res RV)(g g':RV→RV→State→Res RV)(s:State):Res RV:=
 (ev fa s).bind fun x s=>(ev fb s).bind fun y s=>(g x y s).bind fun z s=>(yT z s).bind fun k s=>if k=true then(ev fc s).bind fun w s=>g' y w s else aS (.bl false) s
def Lx(C:Cst)(f:RV→RV→State→Res RV):Prop:=∀ x y s,(∃ b,f x y s=aS (.bl b) s)∨f x y s=.stuck
theorem NC{op:Cop}:Lx C (aD op):=by
 intro x y s
 unfold aD
 split
 ·exact .inl ⟨_,rfl⟩
 ·exact .inr rfl
theorem K3{r r':R2}{g g':RV→RV→State→Res RV}(hs:AU C g r)(hs':AU C g' r')(hb:Lx C g){Q:VK}(h:au C (wI fa fb fc g g') sv H Q):tChain r r' (au C fa) (au C fb) (au C fc) sv H Q:=by
 obtain⟨Z,loc,s,r0,h⟩:=h
 refine(au.nq r0 h).imp fun u H1 ⟨Z1,l1,s1,x,g1,r1,st1,q1,h1⟩=>?_
 refine(au.nq r1 h1).imp fun v H2 ⟨Z2,l2,s2,y,g2,r2,st2,q2,h2⟩=>?_
 have q1':=q1.mono (s':=s2) (H':=H2) g2 st1
 rcases hb x y s2 with⟨k,e⟩ | e
 ·rw[e]at h2
  refine hs Z2 l2 s2 sv H2 x y u v _ r2 q1' q2 ?_
  rw[e]
  intro Z3 l3 H3 z g3 r3 q3
  refine⟨k,q3,?_⟩
  simp only[aS,Res.aa,yT,dv,kj]at h2
  cases k with
  | true=>
   rw[if_pos rfl]at h2 ⊢
   refine(au.nq r3 (h2.ext g3)).imp fun w H4 ⟨Z4,l4,s4,z',g4,r4,st4,q4,h4⟩=>?_
   exact hs' Z4 l4 s4 sv H4 y z' v w Q r4 (q2.mono (g3.trans g4) st2) q4 h4
  | false=>
   rw[if_neg Bool.false_ne_true]at h2 ⊢
   exact EPost.aS (h2.ext g3) r3 rfl
 ·rw[e]at h2
  exact h2.elim
theorem Fm{op op':Cop}(hm:cw c=true):lastMarks [op.py,op'.py] [b,c]=false:=wY hm
theorem L1(hu:X.A.units+64<cLine)(op op':Cop)(ha:PE X a (au C fa))(hb:PE X b (au C fb))(hc:PE X c (au C fc))(hm:cw c=true):PE X (.Compare a [op.py,op'.py] [b,c] pos) (au C (wI fa fb fc (aD op) (aD op'))):=by
 obtain⟨r,ho,hs⟩:=rY (C:=C) hu op
 obtain⟨r',ho',hs'⟩:=rY (C:=C) hu op'
 exact bq (pe_chain ho ho' ha hb hc (Fm hm)) fun sv H Q h=>K3 (Ab hs) (Ab hs') (NC (C:=C)) h
theorem JI(hu:X.A.units+64<cLine)(op op':Cop)(ha:PE X a (au C fa))(hb:PE X b (au C fb))(hc:PE X c (au C fc))(hm:cw c=true):PT X (.Compare a [op.py,op'.py] [b,c] pos) (dM C (aM (wI fa fb fc (aD op) (aD op')))):=by
 obtain⟨r,ho,hs⟩:=rY (C:=C) hu op
 obtain⟨r',ho',hs'⟩:=rY (C:=C) hu op'
 exact v3 (pt_chain ho ho' ha hb hc (Fm hm)) fun sv H Q h=>K3 (Ab hs) (Ab hs') (NC (C:=C)) (toB h)
theorem lr(h:PT X e (dM C ft)):PW X (.BoolOp .And [e] pos) (dM C (iL [ft])):=pw_and1 h
theorem yR(h:PT X e (dM C ft)):PW X (.BoolOp .Or [e] pos) (dM C (lU [ft])):=pw_or1 h
theorem v_and{ft2:State→Res Bool}{fr:List (State→Res Bool)}(h:PT X e (dM C ft))(h2:PW X (.BoolOp .And (a::es) pos) (dM C (iL (ft2::fr)))):PW X (.BoolOp .And (e::a::es) pos) (dM C (iL (ft::ft2::fr))):=by
 refine⟨fun wh pins t sv H Q I q=>(pw_and h h2).run wh pins t sv H Q I ?_⟩
 obtain⟨Z,loc,s,r0,q⟩:=q
 refine⟨Z,loc,s,r0,?_⟩
 show iu C Z loc sv (ft s) _
 have q:iu C Z loc sv ((ft s).bind fun b s=>if b=true then iL (ft2::fr) s else .ok false s) Q:=q
 cases e:ft s with
 | stuck=>rw[e]at q;exact q
 | exc x s'=>rw[e]at q;exact q
 | ok b s'=>
  rw[e]at q
  intro Z1 l1 H1 g1 r1
  cases b with
  | true=>exact⟨Z1,l1,s',r1,iu.ext q g1⟩
  | false=>exact iu.ext (show iu C Z loc sv (.ok false s') Q from q) g1 Z1 l1 H1 (Ext.refl _ _) r1
theorem v_or{ft2:State→Res Bool}{fr:List (State→Res Bool)}(h:PT X e (dM C ft))(h2:PW X (.BoolOp .Or (a::es) pos) (dM C (lU (ft2::fr)))):PW X (.BoolOp .Or (e::a::es) pos) (dM C (lU (ft::ft2::fr))):=by
 refine⟨fun wh pins t sv H Q I q=>(pw_or h h2).run wh pins t sv H Q I ?_⟩
 obtain⟨Z,loc,s,r0,q⟩:=q
 refine⟨Z,loc,s,r0,?_⟩
 show iu C Z loc sv (ft s) _
 have q:iu C Z loc sv ((ft s).bind fun b s=>if b=true then .ok true s else lU (ft2::fr) s) Q:=q
 cases e:ft s with
 | stuck=>rw[e]at q;exact q
 | exc x s'=>rw[e]at q;exact q
 | ok b s'=>
  rw[e]at q
  intro Z1 l1 H1 g1 r1
  cases b with
  | false=>exact⟨Z1,l1,s',r1,iu.ext q g1⟩
  | true=>exact iu.ext (show iu C Z loc sv (.ok true s') Q from q) g1 Z1 l1 H1 (Ext.refl _ _) r1
theorem v_not(h:PT X e (dM C ft)):PT X (.UnaryOp .Not e pos) (dM C (jy ft)):=by
 refine v3 (pt_not h) fun sv H Q q=>?_
 obtain⟨Z,loc,s,r0,q⟩:=q
 unfold jy at q
 refine⟨Z,loc,s,r0,?_⟩
 cases e:ft s with
 | stuck=>rw[e]at q;exact q
 | exc x s'=>rw[e]at q;exact q
 | ok b s'=>rw[e]at q;exact q
end
end Vw
namespace Vw
open PySem L2 PyProof.Rows
def B7(f:State→Res RV)(s:State):Res RV:=(aM f s).bind fun b s=>aS (.bl (!b)) s
def Uv(t:State→Res Bool)(a b:State→Res RV)(s:State):Res RV:=(t s).bind fun k s=>if k=true then a s else b s
def bJ(x y:RV)(s:State):Res RV:=
 match mq s x y with
 | some (some v)=>.ok (.val v) s
 | some none=>.stuck
 | none=>match dv s x,dv s y with
  | some (.str t),some (.int i)=>if t.length≤sizeLine then match atI t i with
   | some c=>aS (.str [c]) s
   | none=>.stuck else .stuck
  | _,some (.int i)=>match lv s x,tv s x with
   | some l,_=>match atI l i with
    | some v=>.ok (.val v) s
    | none=>.stuck
   | none,some l=>match atI l i with
    | some v=>.ok (.val v) s
    | none=>.stuck
   | none,none=>.stuck
  | _,_=>.stuck
inductive Par where
 | no
 | ex (f:State→Res RV)
def F0(r:RV)(s:State):Res (Option Int):=
 match dv s r with
 | some (.int i)=>.ok (some i) s
 | _=>.stuck
def nh:Par→State→Res (Option Int)
 | .no,s=>.ok none s
 | .ex f,s=>(ev f s).bind F0
def cz{α:Type}(l:List α)(lo hi:Option Int):List α:=(l.drop (HT.sIx l.length 0 lo)).take (HT.sIx l.length l.length hi-HT.sIx l.length 0 lo)
def xQ(x:RV)(lo hi:Option Int)(s:State):Res RV:=
 match dv s x with
 | some (.str t)=>if t.length≤sizeLine then aS (.str (cz t lo hi)) s else .stuck
 | _=>match lv s x with
  | some l=>.ok (.new (.lst (cz l lo hi))) s
  | none=>match tv s x with
   | some l=>if(cz l lo hi).length=l.length then .stuck else .ok (.val (iY (cz l lo hi))) s
   | none=>.stuck
def iP(f:State→Res RV)(lo hi:Par)(s:State):Res RV:=
 (ev f s).bind fun x s=>(nh lo s).bind fun l s=>(nh hi s).bind fun h s=>xQ x l h s
section
variable{C:Cst}{Z Z':Hp}{loc loc':List Addr}{s s':State}{sv:L2.St}{H:Hp}
variable{X:Cx}{e a b c:Expr}{es:List Expr}{pos:Pos}{f fa fb fc:State→Res RV}{ft:State→Res Bool}
theorem sf(h:PE X e (au C f)):PE X (.BoolOp .And [e] pos) (au C (fN [f])):=bq (pe_one h) fun sv H Q ⟨Z,loc,s,r,q⟩=>by
 have q:EPost C Z loc sv ((ev f s).bind fun x s=>.ok x s) Q:=by
  have e1:((ev f s).bind fun x s=>.ok x s)=fN [f] s:=by
   show _=ev f s
   cases ev f s<;> rfl
  rw[e1];exact q
 exact(au.nq r q).imp fun v H1 ⟨Z1,l1,s1,x,g1,r1,st1,q1,h1⟩=>h1 Z1 l1 H1 v (Ext.refl _ _) r1 q1
theorem N4(h:PE X e (au C f)):PE X (.BoolOp .Or [e] pos) (au C (mE [f])):=bq (pe_one h) fun sv H Q ⟨Z,loc,s,r,q⟩=>by
 have q:EPost C Z loc sv ((ev f s).bind fun x s=>.ok x s) Q:=by
  have e1:((ev f s).bind fun x s=>.ok x s)=mE [f] s:=by
   show _=ev f s
   cases ev f s<;> rfl
  rw[e1];exact q
 exact(au.nq r q).imp fun v H1 ⟨Z1,l1,s1,x,g1,r1,st1,q1,h1⟩=>h1 Z1 l1 H1 v (Ext.refl _ _) r1 q1
theorem au.JS{f:State→Res RV}{k:Bool→State→Res RV}{Q:VK}(r:SR C Z loc s sv H)(h:EPost C Z loc sv ((aM f s).bind k) Q):
  au C f sv H (fun x H'=>∃ c,x=.bl c∧∃ Z' loc' s',Ext Z loc Z' loc'∧SR C Z' loc' s' sv H'∧EPost C Z' loc' sv (k c s') Q):=by
 unfold aM at h
 rw[Res.bind_assoc]at h
 refine(au.nq r h).imp fun v H1 ⟨Z1,l1,s1,x,g1,r1,st1,q1,h1⟩=>?_
 unfold yT at h1
 split at h1
 ·rename_i b e
  exact⟨b,r1.dv q1 e,Z1,l1,s1,g1,r1,h1⟩
 ·exact h1.elim
theorem rM{f2:State→Res RV}{fr:List (State→Res RV)}(h:PE X e (au C f))(h2:PE X (.BoolOp .And (a::es) pos) (au C (fN (f2::fr)))):PE X (.BoolOp .And (e::a::es) pos) (au C (fN (f::f2::fr))):=by
 refine bq (pe_and h h2) fun sv H Q ⟨Z,loc,s,r,q⟩=>?_
 have q:EPost C Z loc sv ((aM f s).bind fun b s=>if b=true then fN (f2::fr) s else aS (.bl false) s) Q:=q
 refine(au.JS r q).imp fun v H1 ⟨c,e1,Z1,l1,s1,g1,r1,h1⟩=>⟨c,e1,?_⟩
 cases c with
 | true=>exact⟨Z1,l1,s1,r1,h1⟩
 | false=>exact EPost.aS h1 r1 rfl
theorem Ra{f2:State→Res RV}{fr:List (State→Res RV)}(h:PE X e (au C f))(h2:PE X (.BoolOp .Or (a::es) pos) (au C (mE (f2::fr)))):PE X (.BoolOp .Or (e::a::es) pos) (au C (mE (f::f2::fr))):=by
 refine bq (pe_or h h2) fun sv H Q ⟨Z,loc,s,r,q⟩=>?_
 have q:EPost C Z loc sv ((aM f s).bind fun b s=>if b=true then aS (.bl true) s else mE (f2::fr) s) Q:=q
 refine(au.JS r q).imp fun v H1 ⟨c,e1,Z1,l1,s1,g1,r1,h1⟩=>⟨c,e1,?_⟩
 cases c with
 | false=>exact⟨Z1,l1,s1,r1,h1⟩
 | true=>exact EPost.aS h1 r1 rfl
theorem P6(h:PE X e (au C f)):PE X (.UnaryOp .Not e pos) (au C (B7 f)):=by
 refine bq (pe_not h) fun sv H Q ⟨Z,loc,s,r,q⟩=>?_
 exact(au.JS r q).imp fun v H1 ⟨c,e1,Z1,l1,s1,g1,r1,h1⟩=>⟨c,e1,EPost.aS h1 r1 rfl⟩
theorem QP(h:PE X e (au C f)):PE X (.UnaryOp .USub e pos) (au C (fun s=>(ev f s).bind Dm)):=by
 refine bq (pe_un un_neg h) fun sv H Q ⟨Z,loc,s,r,q⟩=>?_
 refine(au.nq r q).imp fun v H1 ⟨Z1,l1,s1,x,g1,r1,st1,q1,h1⟩=>?_
 unfold Dm at h1
 split at h1
 ·rename_i i e
  exact⟨i,r1.dv q1 e,h1.aS r1 rfl⟩
 ·exact h1.elim
theorem iX.mono(h:Ext Z loc Z' loc'){H':Hp}:∀ {rs:List RV} {vs:List V},iX C Z loc s sv H rs vs→iX C Z' loc' s' sv H' rs vs
 | [],vs,q=>q
 | x::rs,vs,⟨v,r,e,st,q,t⟩=>⟨v,r,e,st,q.mono h st,iX.mono h t⟩
theorem ak:PA X [] (cV C (aw [])):=Ft pa_nil fun sv H Q ⟨Z,loc,s,r,q⟩=>q Z loc H [] (Ext.refl _ _) r rfl
theorem OF{fr:List (State→Res RV)}(h:PE X e (au C f))(hr:PA X es (cV C (aw fr)))(hs:notStar e=true):PA X (e::es) (cV C (aw (f::fr))):=by
 refine Ft (pa_cons h hr (bx hs)) fun sv H Q ⟨Z,loc,s,r,q⟩=>?_
 refine(au.SV r q).imp fun v H1 ⟨Z1,l1,s1,x,g1,r1,st1,q1,h1⟩=>?_
 refine⟨Z1,l1,s1,r1,?_⟩
 cases e1:aw fr s1 with
 | stuck=>rw[e1]at h1;exact h1
 | exc y s2=>rw[e1]at h1;exact h1
 | ok xs s2=>
  rw[e1]at h1
  intro Z2 l2 H2 vs g2 r2 q2
  exact h1 Z2 l2 H2 (v::vs) g2 r2 ⟨v,vs,rfl,st1,q1.mono g2 st1,q2⟩
theorem SR.bc(r:SR C Z loc s sv H):∀ {rs:List RV} {vs:List V} {l:List Val},iX C Z loc s sv H rs vs→bc rs s=.ok l s'→∃ Z',Ext Z loc Z' loc∧SR C Z' loc s' sv H∧aY C.cA Z' loc l vs:=by
 intro rs
 induction rs generalizing Z s with
 | nil=>intro vs l h e;cases e;exact⟨Z,Ext.refl _ _,r,h⟩
 | cons x rs ih=>
  intro vs l h e
  obtain⟨v,t,rfl,st,q,h⟩:=h
  unfold Vw.bc at e
  cases e1:Vw.cf x s with
  | stuck=>rw[e1]at e;cases e
  | exc y s2=>exact absurd e1 CU
  | ok y s1=>
   rw[e1]at e
   simp only[Res.aa]at e
   obtain⟨Z1,g1,r1,q1⟩:=r.cf q e1
   cases e2:Vw.bc rs s1 with
   | stuck=>rw[e2]at e;cases e
   | exc y s2=>rw[e2]at e;cases e
   | ok ys s2=>
    rw[e2]at e
    cases e
    obtain⟨Z2,g2,r2,q2⟩:=ih r1 (h.mono g1) e2
    exact⟨Z2,g1.trans g2,r2,v,t,rfl,q1.mono g2,q2⟩
theorem ie:∀ {rs:List RV} {s s1:State} {x:Exn},bc rs s≠ .exc x s1
 | [],s,s1,x=>by simp[bc]
 | r::rs,s,s1,x=>by
  unfold bc
  cases e:cf r s with
  | stuck=>simp
  | exc y s2=>exact absurd e CU
  | ok y s1=>
   simp only[Res.aa]
   cases e2:bc rs s1 with
   | stuck=>simp
   | exc y s2=>exact absurd e2 ie
   | ok ys s2=>simp
theorem Hw{l:List Val}{vs:List V}{p:Addr}(h:aY C.cA Z loc l vs)(hp:Z p=some (.tup vs)):bX C.cA Z loc (iY l) (.ref p):=by
 unfold iY
 split
 ·rename_i ds e
  rw[toDs_inv e]at h
  exact⟨p,vs,rfl,hp,gc.mp h⟩
 ·exact⟨p,vs,rfl,hp,h⟩
theorem EPost.tup{l:List Val}{vs:List V}{p:Addr}{Q:VK}(h:EPost C Z loc sv (.ok (.val (iY l)) s) Q)(r:SR C Z loc s sv H)(q:aY C.cA Z loc l vs)(np:H p=none):Q (.ref p) (upd H p (.tup vs)):=by
 have r1:=(r.grow (bI np)).vB (o:=.tup vs) upd_same (r.free np)
 have g:Ext Z loc (upd Z p (.tup vs)) loc:=Ext.z (bI (r.free np).z)
 exact h _ loc _ _ g r1 (Hw (aY.mono g l q) upd_same)
theorem Qq{k:Nat}{fs:List (State→Res RV)}(h:PA X es (cV C (aw fs))):PE X (.Tuple es k pos) (au C (fun s=>(aw fs s).bind D2)):=by
 refine bq (pe_tup h) fun sv H Q ⟨Z,loc,s,r,q⟩=>?_
 refine(cV.B4 r q).imp fun vs H1 ⟨Z1,l1,s1,rs,g1,r1,q1,h1⟩=>?_
 unfold D2 at h1
 cases e:bc rs s1 with
 | stuck=>rw[e]at h1;exact h1.elim
 | exc y s2=>exact absurd e ie
 | ok l s2=>
  rw[e]at h1
  simp only[Res.aa]at h1
  obtain⟨Z2,g2,r2,q2⟩:=r1.bc q1 e
  split at h1
  ·rename_i hl
   exact⟨by rw[←b7 q2];exact hl,fun p np=>(h1.ext g2).tup r2 q2 np⟩
  ·exact h1.elim
theorem Rv{fs:List (State→Res RV)}(h:PA X es (cV C (aw fs))):PE X (.List es pos) (au C (fun s=>(aw fs s).bind CY)):=by
 refine bq (pe_lst h) fun sv H Q ⟨Z,loc,s,r,q⟩=>?_
 refine(cV.B4 r q).imp fun vs H1 ⟨Z1,l1,s1,rs,g1,r1,q1,h1⟩=>?_
 unfold CY at h1
 cases e:bc rs s1 with
 | stuck=>rw[e]at h1;exact h1.elim
 | exc y s2=>exact absurd e ie
 | ok l s2=>
  rw[e]at h1
  simp only[Res.aa]at h1
  obtain⟨Z2,g2,r2,q2⟩:=r1.bc q1 e
  split at h1
  ·rename_i hl
   exact⟨by rw[←b7 q2];exact hl,fun p np=>(h1.ext g2).new r2 np (by simp) ⟨_,upd_same,q2⟩⟩
  ·exact h1.elim
theorem jL:∀ {l:List Val} {xs:List V} {i:Nat} {x:Val},aY C.cA Z loc l xs→l[i]? =some x→∃ v,xs[i]? =some v∧bX C.cA Z loc x v
 | [],xs,i,x,h,e=>by simp at e
 | y::l,xs,0,x,⟨v,r,e1,q,t⟩,e=>by
  rw[e1]
  simp at e
  exact⟨v,rfl,e▸q⟩
 | y::l,xs,i+1,x,⟨v,r,e1,q,t⟩,e=>by
  rw[e1]
  exact jL (i:=i) t (by simpa using e)
theorem CH{l:List Val}{xs:List V}{i:Int}{x:Val}(h:aY C.cA Z loc l xs)(e:atI l i=some x):∃ v,atI xs i=some v∧bX C.cA Z loc x v:=by
 unfold atI at e ⊢
 rw[←b7 h]
 cases e1:ixN l.length i with
 | none=>rw[e1]at e;cases e
 | some j=>
  rw[e1]at e
  exact jL h e
def SM(K:PySem.W.Frag):R2:=fun x y H Q=>rIxD x y H Q∨rIx K x y H Q
theorem OU:AU C bJ (SM X.K):=by
 intro Z loc s sv H x y u v Q r hx hy h
 unfold bJ at h
 split at h
 ·rename_i w e
  obtain⟨a,o,h1,h2,h3⟩:=r.mq hx hy e
  cases o with
  | none=>exact h3.elim
  | some z=>exact .inl ⟨a,z,h1,h2,h.val r h3⟩
 ·exact h.elim
 ·split at h
  ·rename_i t i e1 e2
   split at h
   ·rename_i hl
    split at h
    ·rename_i c e3
     exact .inr (.inr (.inr ⟨⟨t.toArray⟩,i,c,r.dv hx e1,r.dv hy e2,by simpa [Str.length]using hl,by simpa using e3,h.aS r rfl⟩))
    ·exact h.elim
   ·exact h.elim
  ·rename_i i e2 _
   split at h
   ·rename_i l e3
    split at h
    ·rename_i w e4
     obtain⟨a,xs,h1,h2,h3⟩:=r.lv hx e3
     obtain⟨z,h4,h5⟩:=CH h3 e4
     exact .inr (.inl ⟨a,xs,i,z,h1,r.dv hy e2,.inl h2,h4,h.val r h5⟩)
    ·exact h.elim
   ·rename_i l e3
    split at h
    ·rename_i w e4
     obtain⟨a,xs,h1,h2,h3⟩:=r.tv hx e3
     obtain⟨z,h4,h5⟩:=CH h3 e4
     exact .inr (.inr (.inl ⟨a,xs,i,z,h1,r.dv hy e2,.inl (.inl h2),h4,h.val r h5⟩))
    ·exact h.elim
   ·exact h.elim
  ·exact h.elim
theorem SO(hu:X.A.units+64<cLine)(ha:PE X a (au C fa))(hb:PE X b (au C fb))(hs:p0 b=true):PE X (.Subscript a b pos) (au C (ao fa fb bJ)):=
 bq (pe_ix ((Q6 hu).or ix_seq) ha hb (GQ hs)) fun sv H Q h=>vT OU h
def C2(C:Cst)(p:Par):TO:=fun sv H Q=>∃ Z loc s,SR C Z loc s sv H∧match nh p s with
 | .ok o s'=>∀ Z' loc' H',Ext Z loc Z' loc'→SR C Z' loc' s' sv H'→Q o H'
 | .exc x s'=>∀ Z' loc' H' c d,Ext Z loc Z' loc'→SR C Z' loc' s' sv H'→ke C Z' H' x c d→C.W c d sv H'
 | .stuck=>False
theorem i8:PO X none (C2 C .no):=⟨fun pins t sv H Q I ⟨Z,loc,s,r,h⟩=>po_none.run pins t sv H Q I (h Z loc H (Ext.refl _ _) r)⟩
theorem di(h:PE X e (au C f)):PO X (some e) (C2 C (.ex f)):=by
 refine⟨fun pins t sv H Q I ⟨Z,loc,s,r,q⟩=>(po_some h).run pins t sv H Q I ?_⟩
 unfold nh at q
 dsimp only at q
 refine au.Fy (f:=f) (PO:=fun Z loc (t:Res (Option Int))=>match t with
  | .ok o s'=>∀ Z' loc' H',Ext Z loc Z' loc'→SR C Z' loc' s' sv H'→Q o H'
  | .exc x s'=>∀ Z' loc' H' c d,Ext Z loc Z' loc'→SR C Z' loc' s' sv H'→ke C Z' H' x c d→C.W c d sv H'
  | .stuck=>False) r q (fun Z1 l1 t g q=>?_) (fun _ _ q=>q) (fun q=>q) fun v H1 ⟨Z1,l1,s1,x,g1,r1,st1,q1,h1⟩=>?_
 ·cases t with
  | ok o s'=>exact fun Z2 l2 H2 g2=>q Z2 l2 H2 (g.trans g2)
  | exc x s'=>exact fun Z2 l2 H2 c d g2=>q Z2 l2 H2 c d (g.trans g2)
  | stuck=>exact q
 ·have key:(∃ i,dv s1 x=some (.int i)∧F0 x s1=.ok (some i) s1)∨F0 x s1=.stuck:=by
   unfold F0
   split
   ·rename_i i e
    exact .inl ⟨i,e,rfl⟩
   ·exact .inr rfl
  rcases key with⟨i,e1,e2⟩ | e2
  ·rw[e2]at h1
   exact⟨i,r1.dv q1 e1,h1 Z1 l1 H1 (Ext.refl _ _) r1⟩
  ·rw[e2]at h1
   exact h1.elim
theorem xU:∀ {l:List Val} {xs:List V} (n:Nat),aY C.cA Z loc l xs→aY C.cA Z loc (l.drop n) (xs.drop n)
 | l,xs,0,h=>h
 | [],xs,n+1,h=>by rw[show xs=_ from h];exact rfl
 | x::l,xs,n+1,⟨v,r,e,q,t⟩=>by rw[e];exact xU n t
theorem yh:∀ {l:List Val} {xs:List V} (n:Nat),aY C.cA Z loc l xs→aY C.cA Z loc (l.take n) (xs.take n)
 | l,xs,0,h=>rfl
 | [],xs,n+1,h=>by rw[show xs=_ from h];exact rfl
 | x::l,xs,n+1,⟨v,r,e,q,t⟩=>by rw[e];exact⟨v,r.take n,rfl,q,yh n t⟩
theorem AZ{l:List Val}{xs:List V}{lo hi:Option Int}(h:aY C.cA Z loc l xs):aY C.cA Z loc (cz l lo hi) (cutV xs lo hi):=by
 unfold cz cutV
 rw[←b7 h]
 exact yh _ (xU _ h)
theorem hJ{lo hi:Option Expr}{pl ph:Par}{p2:Pos}(he:PE X e (au C f))(hl:PO X lo (C2 C pl))(hh:PO X hi (C2 C ph)):PE X (.Subscript e (.Slice lo hi none p2) pos) (au C (iP f pl ph)):=by
 refine bq (pe_slice (sl_str.or (sl_list.or sl_tup)) he hl hh) fun sv H Q ⟨Z,loc,s,r,q⟩=>?_
 refine(au.nq r q).imp fun v H1 ⟨Z1,l1,s1,x,g1,r1,st1,q1,h1⟩=>?_
 have part:∀ {p:Par} {k:Option Int→State→Res RV} {Z1:Hp} {l1:List Addr} {s1:State} {H1:Hp},SR C Z1 l1 s1 sv H1→EPost C Z1 l1 sv ((nh p s1).bind k) Q→
   C2 C p sv H1 fun o H2=>∃ Z2 l2 s2,Ext Z1 l1 Z2 l2∧SR C Z2 l2 s2 sv H2∧EPost C Z2 l2 sv (k o s2) Q:=by
  intro p k Z1 l1 s1 H1 r1 h
  refine⟨Z1,l1,s1,r1,?_⟩
  cases e:nh p s1 with
  | stuck=>rw[e]at h;exact h
  | exc y s2=>rw[e]at h;exact h
  | ok o s2=>rw[e]at h;exact fun Z2 l2 H2 g2 r2=>⟨Z2,l2,s2,g2,r2,EPost.ext h g2⟩
 have imp:∀ {p:Par} {H1:Hp} {Q1 Q2:Option Int→Hp→Prop},C2 C p sv H1 Q1→(∀ o H,Q1 o H→Q2 o H)→C2 C p sv H1 Q2:=by
  rintro p H1 Q1 Q2 ⟨Z,loc,s,r,h⟩ m
  refine⟨Z,loc,s,r,?_⟩
  cases e:nh p s with
  | stuck=>rw[e]at h;exact h
  | exc y s2=>rw[e]at h;exact h
  | ok o s2=>rw[e]at h;exact fun Z2 l2 H2 g2 r2=>m _ _ (h Z2 l2 H2 g2 r2)
 refine imp (part r1 h1) fun o1 H2 ⟨Z2,l2,s2,g2,r2,h2⟩=>?_
 refine imp (part r2 h2) fun o2 H3 ⟨Z3,l3,s3,g3,r3,h3⟩=>?_
 have q3:=q1.mono (s':=s3) (H':=H3) (g2.trans g3) st1
 unfold xQ at h3
 split at h3
 ·rename_i t e1
  split at h3
  ·rename_i hz
   refine .inl ⟨⟨t.toArray⟩,r3.dv q3 e1,by simpa [Str.length]using hz,h3.aS r3 ?_⟩
   show V.str _=V.str _
   simp[cutS,cz,Str.length]
  ·exact h3.elim
 ·split at h3
  ·rename_i l e1
   obtain⟨a,xs,h4,h5,h6⟩:=r3.lv q3 e1
   exact .inr (.inl ⟨a,xs,h4,.inl h5,fun p np=>h3.new r3 np (by simp) ⟨_,upd_same,AZ h6⟩⟩)
  ·split at h3
   ·rename_i l e1
    obtain⟨a,xs,h4,h5,h6⟩:=r3.tv q3 e1
    split at h3
    ·exact h3.elim
    ·rename_i hne
     refine .inr (.inr ⟨a,xs,h4,.inl (.inl h5),fun z=>hne ?_,fun p np=>h3.tup r3 (AZ h6) np⟩)
     rw[←b7 h6]at z
     unfold cz
     rw[z.1,z.2]
     simp
   ·exact h3.elim
end
end Vw
namespace Vw
open PySem L2 PyProof.Rows
def rE(i:Nat):RV→State→Option State
 | .val x,s=>some { s with sg:=s.sg.set i (some (.v x)) }
 | .new o,s=>some { s with sg:=s.sg.set i (some (.own o)) }
 | .own j,s=>match kd j s with
  | .ok x s=>some { s with sg:=s.sg.set i (some (.v x)) }
  | _=>none
def wr(r:RV)(o:Ob)(s:State):State:=
 match kj s r with
 | .own i=> { s with sg:=s.sg.set i (some (.own o)) }
 | .val (.r n)=> { s with st:=s.st.set n o }
 | _=>s
inductive Tg where
 | nm (i:Nat)
 | tp (l:List Tg)
mutual
def gE:Tg→Val→State→Option State
 | .nm i,x,s=>some { s with sg:=s.sg.set i (some (.v x)) }
 | .tp ts,x,s=>match tv s (.val x)with
  | some l=>if l.length=ts.length then oK ts l s else none
  | none=>none
def oK:List Tg→List Val→State→Option State
 | [],[],s=>some s
 | t::ts,x::xs,s=>match gE t x s with
  | some s=>oK ts xs s
  | none=>none
 | _,_,_=>none
end
def uY(o:Option State):Res Fl:=
 match o with
 | some s=>.ok .nx s
 | none=>.stuck
def aJ(i:Nat)(f:State→Res RV)(s:State):Res Fl:=(f s).bind fun r s=>uY (rE i r s)
def B5(t:Tg)(f:State→Res RV)(s:State):Res Fl:=(ev f s).bind fun r s=>match cf r s with
 | .ok x s=>uY (gE t x s)
 | _=>.stuck
def bY(f:State→Res RV)(s:State):Res Fl:=(f s).bind fun _ s=>.ok .nx s
def aN(f:State→Res RV)(s:State):Res Fl:=(f s).bind fun r s=>.ok (.ret r) s
def bC(t:State→Res Bool)(a b:State→Res Fl)(s:State):Res Fl:=(t s).bind fun k s=>if k=true then a s else b s
def ai:List (State→Res Fl)→State→Res Fl
 | [],s=>.ok .nx s
 | f::r,s=>match f s with
  | .ok .nx s=>ai r s
  | t=>t
def lZ:Nat→(State→Res Bool)→(State→Res Fl)→State→Res Fl
 | 0,_,_,_=>.stuck
 | n+1,t,b,s=>(t s).bind fun k s=>if k=true then(match b s with
   | .ok .nx s=>lZ n t b s
   | .ok .cnt s=>lZ n t b s
   | .ok .brk s=>.ok .nx s
   | r=>r)else .ok .nx s
def jB(t:Tg)(b:State→Res Fl):List Val→State→Res Fl
 | [],s=>.ok .nx s
 | x::r,s=>match gE t x s with
  | none=>.stuck
  | some s=>match b s with
   | .ok .nx s=>jB t b r s
   | .ok .cnt s=>jB t b r s
   | .ok .brk s=>.ok .nx s
   | r=>r
def ve(o i:RV)(x:Val)(s:State):Option State:=
 match ob s o,dv s i with
 | some (.lst l),some (.int k)=>match ixN l.length k with
  | some j=>some (wr o (.lst (l.set j x)) s)
  | none=>none
 | some (.dic false l),some d=>match C7 d with
  | some k=>if l.length<sizeLine then some (wr o (.dic false (kI l k x)) s)else none
  | none=>none
 | some (.dit false l),some (.tup d)=>match Cz d with
  | some k=>if l.length<sizeLine then some (wr o (.dit false (kI l k x)) s)else none
  | none=>none
 | _,_=>none
def yY(fo fi fv:State→Res RV)(s:State):Res Fl:=
 (ev fv s).bind fun v s=>(ev fo s).bind fun o s=>(ev fi s).bind fun i s=>match cf v s with
  | .ok x s=>uY (ve o i x s)
  | _=>.stuck
def Gr:Bop→Option (Int→Int→Int)
 | .add=>some fun a b=>a+b
 | .sub=>some fun a b=>a-b
 | _=>none
def sl(s:State)(i:Nat):Option D:=
 match s.sg[i]? with
 | some (some (.v (.d x)))=>some x
 | _=>none
section
variable{C:Cst}{Z Z':Hp}{loc loc':List Addr}{s s':State}{sv sv':L2.St}{H H':Hp}
theorem SR.unset(r:SR C Z loc s sv H)(i:Nat)(v:Option V):SR C Z loc { s with sg:=s.sg.set i none } (sv.set i v) H:=by
 have r1:=r.drop i
 have key:∀ {j:Nat} {x:Sl},(s.sg.set i none)[j]? =some (some x)→(sv.set i v)[j]? =sv[j]? :=fun {j x} h=>by
  rcases da h with⟨_,q⟩ | ⟨ne,q⟩
  ·cases q
  ·rw[List.getElem?_set_ne ne]
 refine⟨r1.fr,r1.zh,r1.zf,r1.lk,r1.ln,r1.nd,r1.lh,r1.cl,fun j x h=>?_,fun j o h=>?_,fun j k o o' a h1 h2 h3 h4=>?_,by simpa using r1.ls⟩
 ·rw[key h];exact r1.vl j x h
 ·rw[key h];exact r1.ow j o h
 ·rw[key h1]at h3;rw[key h2]at h4;exact r1.oi j k o o' a h1 h2 h3 h4
theorem SR.store(r:SR C Z loc s sv H){i:Nat}(hi:i<sv.length){x:Val}{v:V}(q:bX C.cA Z loc x v):SR C Z loc { s with sg:=s.sg.set i (some (.v x)) } (sv.set i (some v)) H:=by
 have:=(r.unset i (some v)).Of (i:=i) (v:=v) (x:=x) (by simp[hi]) q
 simpa [xH]using this
theorem SR.rE(r:SR C Z loc s sv H){i:Nat}(hi:i<sv.length){rv:RV}{v:V}(q:bM C Z loc s sv H rv v)(e:rE i rv s=some s'):∃ Z',Ext Z loc Z' loc∧SR C Z' loc s' (sv.set i (some v)) H:=by
 cases rv with
 | val x=>cases e;exact⟨Z,Ext.refl _ _,r.store hi q⟩
 | own j=>
  unfold Vw.rE at e
  dsimp only at e
  split at e
  ·rename_i x s1 e1
   cases e
   obtain⟨Z1,g,r1,q1⟩:=r.kd q e1
   exact⟨Z1,g,r1.store hi q1⟩
  ·cases e
 | new o=>
  cases e
  obtain⟨a,rfl,ne,h1,h2⟩:=q
  have r1:=r.unset i (some (.ref a))
  have f:Free C Z loc { s with sg:=s.sg.set i none } (sv.set i (some (.ref a))) a:=by
   refine⟨h2.z,h2.f,h2.l,fun j ob h=>?_⟩
   rcases da h with⟨_,q⟩ | ⟨ne',q⟩
   ·cases q
   ·rw[List.getElem?_set_ne ne'];exact h2.o j ob q
  have:=r1.S8 (i:=i) (o:=o) (a:=a) (by simp[hi]) ne h1 f
  exact⟨Z,Ext.refl _ _,by simpa [xH]using this⟩
theorem SR.write(r:SR C Z loc s sv H){rv:RV}{v:V}{o o':Ob}{a:Addr}{u:HO}(h:bM C Z loc s sv H rv v)(e:Vw.ob s rv=some o)(ea:v=.ref a)(ne:o'≠ .gone)(nf:∀ x w,H a≠some (.frz x w))
  (q:Cell C.cA Z loc (upd H a u) a o'):SR C Z loc (wr rv o' s) sv (upd H a u):=by
 have q0:=r.kj h
 have zz:Z a=none∧C.Fr a=none:=by
  unfold Vw.ob at e
  split at e
  ·rename_i i e1
   rw[e1]at q0
   split at e
   ·rename_i o1 e2
    obtain⟨b,h1,_,_,h4,h5,_⟩:=r.ow i _ e2
    rw[show sv[i]? =some (some v)from q0,ea]at h1
    cases h1
    exact⟨h4,h5⟩
   ·cases e
  ·rename_i n e1
   rw[e1]at q0
   obtain⟨b,h1,h2⟩:=q0
   rw[ea]at h2
   cases h2
   split at e
   ·cases e
   ·rename_i o1 ng e2
    exact⟨(r.cl n a _ h1 e2 ng).2,(r.lh a (List.mem_of_getElem? h1)).2⟩
   ·cases e
  ·cases e
 have cellAt:∀ {b:Addr} {ob:Ob},b≠a→Cell C.cA Z loc H b ob→Cell C.cA Z loc (upd H a u) b ob:=fun {b ob} hb x=>x.at (upd_ne hb)
 have fr:Same C.Fr (upd H a u):=fun b x hx=>by
  have hb:b≠a:=fun z=>by rw[z,zz.2]at hx;cases hx
  rw[upd_ne hb];exact r.fr b x hx
 have zh:∀ (b:Addr) (x:HO),Z b=some x→Rz (upd H a u) b x:=fun b x hx=>by
  have hb:b≠a:=fun z=>by rw[z,zz.1]at hx;cases hx
  unfold Rz
  rw[upd_ne hb];exact r.zh b x hx
 have lk:∀ (b:Addr) (x:Obj) (w:HO),C.H0 b=some (.frz x w)→upd H a u b=some (.frz x w):=fun b x w hx=>by
  have hb:b≠a:=fun z=>nf x w (z▸r.lk b x w hx)
  rw[upd_ne hb];exact r.lk b x w hx
 have lh:∀ b∈loc,upd H a u b≠none∧C.Fr b=none:=fun b hb=>by
  refine⟨?_,(r.lh b hb).2⟩
  by_cases hba:b=a
  ·rw[hba,upd_same];simp
  ·rw[upd_ne hba];exact(r.lh b hb).1
 unfold Vw.ob at e
 unfold wr
 split at e
 ·rename_i i e1
  rw[e1]at q0
  split at e
  ·rename_i o1 e2
   cases e
   have hi:sv[i]? =some (some (.ref a)):=by rw[←ea];exact q0
   obtain⟨b,h1,h2,h3,h4,h5,h6⟩:=r.ow i _ e2
   rw[hi]at h1
   cases h1
   try rw[e1]
   try dsimp only
   refine⟨fr,zh,r.zf,lk,r.ln,r.nd,lh,fun n b ob g1 g2 g3=>?_,fun j x g=>?_,fun j ob g=>?_,fun j k o1 o2 b g1 g2 g3 g4=>?_,by simpa using r.ls⟩
   ·have hb:b≠a:=fun z=>h6 (z▸List.mem_of_getElem? g1)
    exact⟨cellAt hb (r.cl n b ob g1 g2 g3).1,(r.cl n b ob g1 g2 g3).2⟩
   ·change (s.sg.set i _)[j]? =_ at g
    rcases da g with⟨_,k⟩ | ⟨_,k⟩
    ·cases k
    ·exact r.vl j x k
   ·change (s.sg.set i _)[j]? =_ at g
    rcases da g with⟨rfl,k⟩ | ⟨nj,k⟩
    ·cases k
     exact⟨a,hi,ne,q,h4,h5,h6⟩
    ·obtain⟨b,f1,f2,f3,f4⟩:=r.ow j ob k
     have hb:b≠a:=fun z=>nj (r.oi i j _ ob a e2 k hi (z▸f1))
     exact⟨b,f1,f2,cellAt hb f3,f4⟩
   ·have pick:∀ {j:Nat} {ob:Ob},(s.sg.set i (some (.own o')))[j]? =some (some (.own ob))→∃ ob',s.sg[j]? =some (some (.own ob')):=fun {j ob} g=>by
     rcases da g with⟨rfl,_⟩ | ⟨_,k⟩
     ·exact⟨_,e2⟩
     ·exact⟨_,k⟩
    obtain⟨p1,k1⟩:=pick g1
    obtain⟨p2,k2⟩:=pick g2
    exact r.oi j k p1 p2 b k1 k2 g3 g4
  ·cases e
 ·rename_i n e1
  rw[e1]at q0
  obtain⟨b,h1,h2⟩:=q0
  rw[ea]at h2
  cases h2
  try rw[e1]
  try dsimp only
  have hn:n<s.st.length:=by rw[←r.ln];exact(List.getElem?_eq_some_iff.mp h1).1
  refine⟨fr,zh,r.zf,lk,by simpa using r.ln,r.nd,lh,fun m b ob g1 g2 g3=>?_,r.vl,fun j ob g=>?_,r.oi,r.ls⟩
  ·rcases da g2 with⟨rfl,g⟩ | ⟨nm,g⟩
   ·cases g
    rw[h1]at g1
    cases g1
    exact⟨q,zz.1⟩
   ·have hb:b≠a:=fun z=>by
     subst z
     obtain⟨l1,e3⟩:=List.getElem?_eq_some_iff.mp h1
     obtain⟨l2,e4⟩:=List.getElem?_eq_some_iff.mp g1
     exact nm ((List.getElem_inj r.nd).mp (e3.trans e4.symm))
    exact⟨cellAt hb (r.cl m b ob g1 g g3).1,(r.cl m b ob g1 g g3).2⟩
  ·obtain⟨b,f1,f2,f3,f4,f5,f6⟩:=r.ow j ob g
   have hb:b≠a:=fun z=>f6 (z▸List.mem_of_getElem? h1)
   exact⟨b,f1,f2,cellAt hb f3,f4,f5,f6⟩
 ·cases e
mutual
def wD:Tg→List Nat
 | .nm i=>[i]
 | .tp l=>Dj l
def Dj:List Tg→List Nat
 | []=>[]
 | t::l=>wD t++Dj l
end
def Off(l:List Nat)(a b:L2.St):Prop:=b.length=a.length∧∀ j,j∉l→b[j]? =a[j]?
def qC(C:Cst)(t:Tg):TG:=fun v sv H Q=>∃ Z loc s x,SR C Z loc s sv H∧bX C.cA Z loc x v∧match gE t x s with
 | some s'=>∀ sv',Off (wD t) sv sv'→SR C Z loc s' sv' H→Q sv' H
 | none=>False
def G8(C:Cst)(ts:List Tg):TGs:=fun vs sv H Q=>∃ Z loc s xs,SR C Z loc s sv H∧aY C.cA Z loc xs vs∧match oK ts xs s with
 | some s'=>∀ sv',Off (Dj ts) sv sv'→SR C Z loc s' sv' H→Q sv' H
 | none=>False
variable{X:Cx}{e a b c:Expr}{es:List Expr}{pos:Pos}{f fa fb fc fo fi fv:State→Res RV}{ft:State→Res Bool}
theorem Fb{t t':TG}{e:Expr}(h:PG X e t)(m:∀ v sv H Q,sv.length=X.N.length→t' v sv H Q→t v sv H Q):PG X e t':=⟨fun pins s sv H v u Q I r q=>h.run pins s sv H v u Q I r (m v sv H Q I.len q)⟩
theorem CD{t t':TGs}{e:List Expr}(h:PGs X e t)(m:∀ v sv H Q,sv.length=X.N.length→t' v sv H Q→t v sv H Q):PGs X e t':=⟨fun pins s sv H v u Q I r q=>h.run pins s sv H v u Q I r (m v sv H Q I.len q)⟩
theorem sT{st:Stmt}{t t':TS}(h:PS X st t)(m:∀ D sv H,sv.length=X.N.length→t' D sv H→t D sv H):PS X st t':=⟨fun pins s sv H D I q=>h.run pins s sv H D I (m D sv H I.len q)⟩
theorem RB{i:Nat}{x:Str}(hN:X.N.Nodup)(hi:X.N[i]? =some x)(hx:Loc X.env.scope x)(hf:X.fn x=true∨X.env.scope.names.lookup x=some .local):PG X (.Name x pos) (qC C (.nm i)):=by
 refine Fb (pg_name hN hi hx hf) fun v sv H Q hl ⟨Z,loc,s,y,r,q,h⟩=>?_
 have hi':i<sv.length:=by rw[hl];exact(List.getElem?_eq_some_iff.mp hi).1
 exact h _ ⟨List.length_set,fun j hj=>List.getElem?_set_ne (fun e=>hj (by simp[wD,e]))⟩ (r.store hi' q)
theorem oP:PGs X [] (G8 C []):=CD pgs_nil fun vs sv H Q hl ⟨Z,loc,s,xs,r,q,h⟩=>by
 cases xs with
 | nil=>exact⟨q,h sv ⟨rfl,fun _ _=>rfl⟩ r⟩
 | cons x xs=>exact h.elim
theorem xn{e:Expr}{es:List Expr}{env:Env}(h:notStar e=true):assignEach (e::es) env=(false,assign e env)::assignEach es env:=by
 cases e<;> first | rfl | cases h
theorem eX{t:Tg}{ts:List Tg}(h1:PG X e (qC C t))(h2:PGs X es (G8 C ts))(hs:notStar e=true):PGs X (e::es) (G8 C (t::ts)):=by
 refine CD (pgs_cons h1 h2 (by rw[xn hs];rfl)) fun vs sv H Q hl ⟨Z,loc,s,xs,r,q,h⟩=>?_
 cases xs with
 | nil=>exact h.elim
 | cons x xs=>
  obtain⟨v,t',rfl,q1,q2⟩:=q
  refine⟨v,t',rfl,Z,loc,s,x,r,q1,?_⟩
  unfold oK at h
  cases e1:gE t x s with
  | none=>rw[e1]at h;exact h
  | some s1=>
   rw[e1]at h
   refine fun sv' o' r'=>⟨Z,loc,s1,xs,r',q2,?_⟩
   dsimp only at h
   split at h
   ·rename_i s2 e2
    exact fun sv2 o2 r2=>h sv2 ⟨o2.1.trans o'.1,fun j hj=>(o2.2 j fun z=>hj (by simp[Dj,z])).trans (o'.2 j fun z=>hj (by simp[Dj,z]))⟩ r2
   ·exact h.elim
theorem Fi:∀ {es:List Expr} {env:Env},(assignEach es env).length=es.length
 | [],_=>rfl
 | e::es,env=>by cases e<;> exact congrArg Nat.succ Fi
theorem FY:∀ {es:List Expr} {env:Env},es.all notStar=true→(assignEach es env).findIdx? (·.1)=none
 | [],_,_=>rfl
 | e::es,env,h=>by
  simp only[List.all_cons,Bool.and_eq_true]at h
  rw[xn h.1,List.findIdx?_cons]
  simp[FY h.2]
theorem oV{k:Nat}{ts:List Tg}(hc:X.calm=true)(h:PGs X es (G8 C ts))(hs:es.all notStar=true)(hl:es.length=ts.length):PG X (.Tuple es k pos) (qC C (.tp ts)):=by
 refine Fb (pg_tup hc h (n:=ts.length) (Fi.trans hl) (FY hs)) fun v sv H Q hl ⟨Z,loc,s,y,r,q,h⟩=>?_
 unfold gE at h
 cases e1:tv s (.val y)with
 | none=>rw[e1]at h;exact h.elim
 | some l=>
  rw[e1]at h
  dsimp only at h
  obtain⟨a,xs,h1,h2,h3⟩:=r.tv (rv:=.val y) q e1
  by_cases hlen:l.length=ts.length
  ·rw[if_pos hlen]at h
   exact⟨a,xs,h1,.inl (.inl h2),by rw[←b7 h3];exact hlen,Z,loc,s,l,r,h3,h⟩
  ·rw[if_neg hlen]at h;exact h.elim
theorem bS.nx{D:Ends}(h:bS C Z loc (.ok .nx s) D)(r:SR C Z loc s sv H):D.nx sv H:=h Z loc sv H (Ext.refl _ _) r
theorem cq(h:PE X e (au C f))(hc:j6 e=true):PS X (.Expr e pos) (dj C (bY f)):=by
 refine gb (ps_expr h (vE hc)) fun D sv H ⟨Z,loc,s,r,q⟩=>?_
 exact(au.sN r q).imp fun v H1 ⟨Z1,l1,s1,x,g1,r1,q1,h1⟩=>h1.nx r1
theorem aR(h:PE X e (au C f)):PS X (.Return (some e) pos) (dj C (aN f)):=by
 refine gb (ps_ret h) fun D sv H ⟨Z,loc,s,r,q⟩=>?_
 exact(au.sN r q).imp fun v H1 ⟨Z1,l1,s1,x,g1,r1,q1,h1⟩=>h1 Z1 l1 sv H1 v (Ext.refl _ _) r1 q1
theorem bB{a b:List Stmt}{sa sb:State→Res Fl}(ht:PT X c (dM C ft))(ha:PSs X a (dj C sa))(hb:PSs X b (dj C sb)):PS X (.If c a b pos) (dj C (bC ft sa sb)):=by
 refine gb (ps_if ht ha hb) fun D sv H ⟨Z,loc,s,r,q⟩=>?_
 refine(dM.sN r q).imp fun k H1 ⟨Z1,l1,s1,g1,r1,h1⟩=>?_
 cases k with
 | true=>exact⟨Z1,l1,s1,r1,h1⟩
 | false=>exact⟨Z1,l1,s1,r1,h1⟩
theorem aj:PSs X [] (dj C (ai [])):=Dw pss_nil fun D sv H ⟨Z,loc,s,r,h⟩=>h.nx r
theorem af{st:Stmt}{sts:List Stmt}{g:State→Res Fl}{gs:List (State→Res Fl)}(h1:PS X st (dj C g))(h2:PSs X sts (dj C (ai gs))):PSs X (st::sts) (dj C (ai (g::gs))):=by
 refine Dw (pss_cons h1 h2) fun D sv H ⟨Z,loc,s,r,h⟩=>?_
 refine⟨Z,loc,s,r,?_⟩
 unfold ai at h
 cases e:g s with
 | stuck=>rw[e]at h;exact h
 | exc x s1=>rw[e]at h;exact h
 | ok k s1=>
  rw[e]at h
  cases k with
  | nx=>exact fun Z1 l1 sv1 H1 g1 r1=>⟨Z1,l1,s1,r1,bS.ext h g1⟩
  | ret rv=>exact h
  | brk=>exact h
  | cnt=>exact h
theorem Cf{i:Nat}{x:Str}{p:Pos}(hN:X.N.Nodup)(hi:X.N[i]? =some x)(hx:Loc X.env.scope x)(hf:X.fn x=true∨X.env.scope.names.lookup x=some .local)(h:PE X e (au C f))(hc:j6 e=true):
  PS X (.Assign [.Name x p] e pos) (dj C (aJ i f)):=by
 refine sT (ps_set hN hi hx h (vE hc) hf) fun D sv H hl ⟨Z,loc,s,r,q⟩=>?_
 have hi':i<sv.length:=by rw[hl];exact(List.getElem?_eq_some_iff.mp hi).1
 refine(au.sN r q).imp fun v H1 ⟨Z1,l1,s1,y,g1,r1,q1,h1⟩=>?_
 show D.nx (sv.set i (some v)) H1
 unfold uY at h1
 split at h1
 ·rename_i s2 e2
  obtain⟨Z2,g2,r2⟩:=r1.rE hi' q1 e2
  exact(h1.ext g2).nx r2
 ·exact h1.elim
def II:Expr→Bool
 | .Tuple .. =>false
 | _=>true
theorem Ni{tg e:Expr}{env:Env}(h:II e=true):swappedStores [tg] e env=pure none:=by
 cases e<;> first | rfl | (cases tg<;> rfl) | cases h
theorem Ik{t:Tg}{tg:Expr}(h:PE X e (au C f))(ht:PG X tg (qC C t))(hc:j6 e=true)(hn:II e=true)(hs:notStar tg=true):PS X (.Assign [tg] e pos) (dj C (B5 t f)):=by
 refine sT (ps_asg h ht (vE hc) (Ni hn) (by rw[xn hs];rfl)) fun D sv H hl ⟨Z,loc,s,r,q⟩=>?_
 refine(au.AH r q).imp fun v H1 ⟨Z1,l1,s1,y,g1,r1,st1,q1,h1⟩=>?_
 cases e1:cf y s1 with
 | stuck=>rw[e1]at h1;exact h1.elim
 | exc x s2=>rw[e1]at h1;exact h1.elim
 | ok z s2=>
  rw[e1]at h1
  dsimp only at h1
  obtain⟨Z2,g2,r2,q2⟩:=r1.cf q1 e1
  refine⟨Z2,l1,s2,z,r2,q2,?_⟩
  cases e2:gE t z s2 with
  | none=>rw[e2]at h1;exact h1
  | some s3=>rw[e2]at h1;exact fun sv' _ r'=>bS.nx (bS.ext h1 g2) r'
end
end Vw
namespace Vw
open PySem L2 PyProof.Rows
section
variable{C:Cst}{Z Z':Hp}{loc loc':List Addr}{s s':State}{sv sv':L2.St}{H H':Hp}
variable{X:Cx}{e a b c:Expr}{es:List Expr}{pos:Pos}{f fa fb fc fo fi fv:State→Res RV}{ft:State→Res Bool}
theorem O2(hu:X.A.units+64<cLine):PSet X (fun o i v H Q=>∃ a H',o=.ref a∧DPut H a i v H'∧Q H'):=by
 intro pins s sv H o i v ov iv u Q I ro ri rv ⟨a,H',e,g,q⟩
 subst e
 cases ro
 exact d_setItem (by omega) I g ri rv fun s' I'=>⟨H',I',q⟩
theorem LX{t t':TSet}(h:PSet X t)(h':PSet X t'):PSet X (fun o i v H Q=>t o i v H Q∨t' o i v H Q):=by
 intro pins s sv H o i v ov iv u Q I ro ri rv q
 rcases q with q | q
 ·exact h pins s sv H o i v ov iv u Q I ro ri rv q
 ·exact h' pins s sv H o i v ov iv u Q I ro ri rv q
theorem AY:∀ {l:List Val} {xs:List V} (j:Nat) {x:Val} {v:V},aY C.cA Z loc l xs→bX C.cA Z loc x v→aY C.cA Z loc (l.set j x) (xs.set j v)
 | [],xs,j,x,v,h,q=>by rw[show xs=_ from h];exact rfl
 | y::l,xs,0,x,v,⟨w,t,e,q1,q2⟩,q=>by rw[e];exact⟨v,t,rfl,q,q2⟩
 | y::l,xs,j+1,x,v,⟨w,t,e,q1,q2⟩,q=>by rw[e];exact⟨w,t.set j v,rfl,q1,AY j q2 q⟩
theorem M8:∀ {l:List (K0×Val)} {ws:List (Key×V)} (k:K0),dN C.cA Z loc l ws→(l.any fun p=>decide (p.1=k))=ws.any fun p=>decide (p.1=kz k)
 | [],ws,k,h=>by rw[show ws=_ from h];rfl
 | (k',x)::l,ws,k,⟨v,t,e,q,r⟩=>by
  rw[e,List.any_cons,List.any_cons,M8 k r]
  congr 1
  by_cases h:k'=k
  ·simp[h]
  ·have h2:¬ kz k'=kz k:=fun z=>h (yn z)
   simp[h,h2]
theorem Nd:∀ {l:List (List K0×Val)} {ws:List (List Key×V)} (k:List K0),d7 C.cA Z loc l ws→(l.any fun p=>decide (p.1=k))=ws.any fun p=>decide (p.1=k.map kz)
 | [],ws,k,h=>by rw[show ws=_ from h];rfl
 | (k',x)::l,ws,k,⟨v,t,e,q,r⟩=>by
  rw[e,List.any_cons,List.any_cons,Nd k r]
  congr 1
  by_cases h:k'=k
  ·simp[h]
  ·have h2:¬ k'.map kz=k.map kz:=fun z=>h (oy z)
   simp[h,h2]
theorem JB:∀ {l:List (K0×Val)} {ws:List (Key×V)} (k:K0) {x:Val} {v:V},dN C.cA Z loc l ws→bX C.cA Z loc x v→
  dN C.cA Z loc (l.map fun p=>if p.1=k then(p.1,x)else p) (ws.map fun p=>if p.1=kz k then(p.1,v)else p)
 | [],ws,k,x,v,h,q=>by rw[show ws=_ from h];exact rfl
 | (k',y)::l,ws,k,x,v,⟨w,t,e,q1,r⟩,q=>by
  rw[e,List.map_cons,List.map_cons]
  by_cases h:k'=k
  ·rw[if_pos h,if_pos (by rw[h])];exact⟨v,_,rfl,q,JB k r q⟩
  ·rw[if_neg h,if_neg (fun z=>h (yn z))];exact⟨w,_,rfl,q1,JB k r q⟩
theorem Jv:∀ {l:List (List K0×Val)} {ws:List (List Key×V)} (k:List K0) {x:Val} {v:V},d7 C.cA Z loc l ws→bX C.cA Z loc x v→
  d7 C.cA Z loc (l.map fun p=>if p.1=k then(p.1,x)else p) (ws.map fun p=>if p.1=k.map kz then(p.1,v)else p)
 | [],ws,k,x,v,h,q=>by rw[show ws=_ from h];exact rfl
 | (k',y)::l,ws,k,x,v,⟨w,t,e,q1,r⟩,q=>by
  rw[e,List.map_cons,List.map_cons]
  by_cases h:k'=k
  ·rw[if_pos h,if_pos (by rw[h])];exact⟨v,_,rfl,q,Jv k r q⟩
  ·rw[if_neg h,if_neg (fun z=>h (oy z))];exact⟨w,_,rfl,q1,Jv k r q⟩
theorem OW:∀ {l m:List (K0×Val)} {ws us:List (Key×V)},dN C.cA Z loc l ws→dN C.cA Z loc m us→dN C.cA Z loc (l++m) (ws++us)
 | [],m,ws,us,h,q=>by rw[show ws=_ from h];exact q
 | (k,y)::l,m,ws,us,⟨w,t,e,q1,r⟩,q=>by rw[e];exact⟨w,t++us,rfl,q1,OW r q⟩
theorem OH:∀ {l m:List (List K0×Val)} {ws us:List (List Key×V)},d7 C.cA Z loc l ws→d7 C.cA Z loc m us→d7 C.cA Z loc (l++m) (ws++us)
 | [],m,ws,us,h,q=>by rw[show ws=_ from h];exact q
 | (k,y)::l,m,ws,us,⟨w,t,e,q1,r⟩,q=>by rw[e];exact⟨w,t++us,rfl,q1,OH r q⟩
theorem Qo{l:List (K0×Val)}{ws:List (Key×V)}(k:K0){x:Val}{v:V}(h:dN C.cA Z loc l ws)(q:bX C.cA Z loc x v):dN C.cA Z loc (kI l k x) (putK ws (kz k) v):=by
 unfold kI putK
 rw[M8 k h]
 split
 ·exact JB k h q
 ·exact OW h ⟨v,[],rfl,q,rfl⟩
theorem Qx{l:List (List K0×Val)}{ws:List (List Key×V)}(k:List K0){x:Val}{v:V}(h:d7 C.cA Z loc l ws)(q:bX C.cA Z loc x v):d7 C.cA Z loc (kI l k x) (putK ws (k.map kz) v):=by
 unfold kI putK
 rw[Nd k h]
 split
 ·exact Jv k h q
 ·exact OH h ⟨v,[],rfl,q,rfl⟩
theorem NK:∀ {l:List (K0×Val)} {ws:List (Key×V)},dN C.cA Z loc l ws→l.length=ws.length
 | [],ws,h=>by rw[show ws=_ from h];rfl
 | (k,y)::l,ws,⟨w,t,e,q1,r⟩=>by rw[e,List.length_cons,List.length_cons,NK r]
theorem Oe:∀ {l:List (List K0×Val)} {ws:List (List Key×V)},d7 C.cA Z loc l ws→l.length=ws.length
 | [],ws,h=>by rw[show ws=_ from h];rfl
 | (k,y)::l,ws,⟨w,t,e,q1,r⟩=>by rw[e,List.length_cons,List.length_cons,Oe r]
def Qh:TSet:=fun o i v H Q=>rSetL o i v H Q∨∃ a H',o=.ref a∧DPut H a i v H'∧Q H'
theorem L9(r:SR C Z loc s sv H){o i:RV}{x:Val}{u k v:V}(ho:bM C Z loc s sv H o u)(hi:bM C Z loc s sv H i k)(hx:bX C.cA Z loc x v)(e:ve o i x s=some s'){Q:Hp→Prop}(q:∀ H',SR C Z loc s' sv H'→Q H'):Qh u k v H Q:=by
 unfold ve at e
 split at e
 ·rename_i l n e1 e2
  split at e
  ·rename_i j e3
   cases e
   obtain⟨a,h1,_,xs,h2,h3⟩:=r.ob ho e1
   refine .inl ⟨a,xs,n,j,h1,r.dv hi e2,h2,by rw[←b7 h3];exact e3,q _ ?_⟩
   exact r.write ho e1 h1 (by simp) (fun _ _ z=>by rw[h2]at z;cases z) ⟨_,upd_same,AY j h3 hx⟩
  ·cases e
 ·rename_i l d e1 e2
  split at e
  ·rename_i k' e3
   split at e
   ·rename_i hl
    cases e
    obtain⟨a,h1,_,xs,h2,h3⟩:=r.ob ho e1
    have h2:H a=some (.dK xs):=h2
    refine .inr ⟨a,_,h1,.inl ⟨xs,kz k',h2,GN e3 (r.dv hi e2),by rw[←NK h3];exact hl,rfl⟩,q _ ?_⟩
    exact r.write ho e1 h1 (by simp) (fun _ _ z=>by rw[h2]at z;cases z) ⟨_,upd_same,Qo k' h3 hx⟩
   ·cases e
  ·cases e
 ·rename_i l d e1 e2
  split at e
  ·rename_i k' e3
   split at e
   ·rename_i hl
    cases e
    obtain⟨a,h1,_,xs,h2,h3⟩:=r.ob ho e1
    have h2:H a=some (.dT xs):=h2
    obtain⟨b,vs,h4,h5,h6⟩:=r.dv hi e2
    have hb:H b=some (.tup ((k'.map kz).map kV)):=by
     rw[←Cu e3 h6]
     exact(r.zh b _ h5).at rfl
    refine .inr ⟨a,_,h1,.inr ⟨xs,k'.map kz,b,h2,h4,hb,by rw[←Oe h3];exact hl,rfl⟩,q _ ?_⟩
    exact r.write ho e1 h1 (by simp) (fun _ _ z=>by rw[h2]at z;cases z) ⟨_,upd_same,Qx k' h3 hx⟩
   ·cases e
  ·cases e
 ·cases e
theorem My{o i:Expr}{p:Pos}{env:Env}(h:p0 i=true):∀ v,assign (.Subscript o i p) env v=(do
   let ov ←holding [v] (eval o env)
   let iv ←holding [v,ov] (eval i env)
   standAt p
   holding [v,ov,iv] (setItem ov iv v)
   release [v,ov,iv] []):=by
 intro v
 cases i<;> first | rfl | cases h
theorem Mx{t e:Expr}{n:Nat}{env:Env}(h:j6 e=true):swapsWithSole [t] e n env=pure false:=by
 cases e<;> first | rfl | cases h
theorem LC{o i v:Expr}{p:Pos}(hu:X.A.units+64<cLine)(ho:PE X o (au C fo))(hi:PE X i (au C fi))(hv:PE X v (au C fv))(hs:p0 i=true)(hc:j6 v=true):
  PS X (.Assign [.Subscript o i p] v pos) (dj C (yY fo fi fv)):=by
 refine gb (ps_asg hv (pg_sub ho hi (LX set_list (O2 hu)) (My hs)) (Mx hc) (by cases v<;> rfl)) fun D sv H ⟨Z,loc,s,r,q⟩=>?_
 refine(au.AH r q).imp fun x H1 ⟨Z1,l1,s1,y,g1,r1,st1,q1,h1⟩=>?_
 show au C fo sv H1 _
 refine(au.AH r1 h1).imp fun u H2 ⟨Z2,l2,s2,y2,g2,r2,st2,q2,h2⟩=>?_
 refine(au.AH r2 h2).imp fun k H3 ⟨Z3,l3,s3,y3,g3,r3,st3,q3,h3⟩=>?_
 have q1':=q1.mono (s':=s3) (H':=H3) (g2.trans g3) st1
 have q2':=q2.mono (s':=s3) (H':=H3) g3 st2
 cases e1:cf y s3 with
 | stuck=>rw[e1]at h3;exact h3.elim
 | exc x s4=>rw[e1]at h3;exact h3.elim
 | ok z s4=>
  rw[e1]at h3
  dsimp only at h3
  obtain⟨Z4,g4,r4,q4⟩:=r3.cf q1' e1
  unfold uY at h3
  split at h3
  ·rename_i s5 e5
   exact L9 r4 (q2'.mono (s':=s4) (H':=H3) g4 st2) (q3.mono (s':=s4) (H':=H3) g4 st3) q4 e5 fun H' r'=>bS.nx (bS.ext h3 g4) r'
  ·exact h3.elim
theorem DI{n:Nat}{b:List Stmt}{sb:State→Res Fl}(hp:PassesOwn (model X.prog X.w) X.A X.env X.xe)(ht:PT X c (dM C ft))(hb:PSs X b (dj C sb)):PS X (.While c b [] pos) (dj C (lZ n ft sb)):=by
 refine gb (ps_while hp ht hb) fun D sv H ⟨Z0,loc0,s0,r0,q0⟩=>?_
 refine⟨fun m sv H=>∃ Z loc s,SR C Z loc s sv H∧bS C Z loc (lZ m ft sb s) D,⟨n,Z0,loc0,s0,r0,q0⟩,?_⟩
 rintro m sv H ⟨Z,loc,s,r,q⟩
 cases m with
 | zero=>exact q.elim
 | succ m=>
  unfold lZ at q
  refine(dM.sN r q).imp fun k H1 ⟨Z1,l1,s1,g1,r1,h1⟩=>?_
  cases k with
  | false=>
   rw[if_neg Bool.false_ne_true]at h1 ⊢
   exact h1.nx r1
  | true=>
   rw[if_pos rfl]at h1 ⊢
   refine⟨fun sv' H'=>∃ Z loc s,SR C Z loc s sv' H'∧bS C Z loc (lZ m ft sb s) D,fun sv' H' h=>⟨m,Nat.lt_succ_self m,h⟩,⟨Z1,l1,s1,r1,?_⟩⟩
   cases e:sb s1 with
   | stuck=>rw[e]at h1;exact h1
   | exc x s2=>rw[e]at h1;exact h1
   | ok k s2=>
    rw[e]at h1
    cases k with
    | nx=>exact fun Z2 l2 sv2 H2 g2 r2=>⟨Z2,l2,s2,r2,bS.ext h1 g2⟩
    | cnt=>exact fun Z2 l2 sv2 H2 g2 r2=>⟨Z2,l2,s2,r2,bS.ext h1 g2⟩
    | brk=>exact fun Z2 l2 sv2 H2 g2 r2=>bS.nx (bS.ext h1 g2) r2
    | ret rv=>exact h1
structure CLe (C C':Cst):Prop where
 ca:C'.cA=C.cA
 fr:C'.Fr=C.Fr
 w:C'.W=C.W
 h0:∀ (a:Addr) (o:Obj) (u:HO),C.H0 a=some (.frz o u)→C'.H0 a=some (.frz o u)
theorem CLe.refl(C:Cst):CLe C C:=⟨rfl,rfl,rfl,fun _ _ _ h=>h⟩
theorem SR.le{C':Cst}(c:CLe C C')(r:SR C' Z loc s sv H):SR C Z loc s sv H:=by
 obtain⟨a,f,h,w⟩:=C
 obtain⟨a',f',h',w'⟩:=C'
 obtain⟨c1,c2,c3,c4⟩:=c
 dsimp only at c1 c2 c3 c4
 subst c1 c2 c3
 exact⟨r.fr,r.zh,r.zf,fun b o u e=>r.lk b o u (c4 b o u e),r.ln,r.nd,r.lh,r.cl,r.vl,r.ow,r.oi,r.ls⟩
def rA(H Z H' Z':Hp):Prop:=Same H H'∧∀ a,H a≠none→Z' a=Z a
theorem rA.refl(H Z:Hp):rA H Z H Z:=⟨Same.refl _,fun _ _=>rfl⟩
structure WalkS (C:Cst) (Z:Hp) (loc:List Addr) (l:List Val) (J:It) (G:Hp→Prop) (Y:Nat→Hp→V→Hp→Prop):Prop where
 w:Walk J l.length G Y
 g:∀ Z' loc' s sv H,Ext Z loc Z' loc'→SR C Z' loc' s sv H→G H
 y:∀ Z' loc' s sv H (i:Nat) x v H',Ext Z loc Z' loc'→SR C Z' loc' s sv H→l[i]? =some x→Y i H v H'→∃ Z'',Ext Z' loc' Z'' loc'∧rA H Z' H' Z''∧SR C Z'' loc' s sv H'∧bX C.cA Z'' loc' x v
def lD(C:Cst)(f:State→Res (List Val)):TI:=fun sv H R=>∃ Z loc s,SR C Z loc s sv H∧match f s with
 | .ok l s'=>∀ Z' loc' H' C' J G Y,CLe C C'→Ext Z loc Z' loc'→SR C' Z' loc' s' sv H'→WalkS C' Z' loc' l J G Y→R J H'
 | .exc x s'=>∀ Z' loc' H' c d,Ext Z loc Z' loc'→SR C Z' loc' s' sv H'→ke C Z' H' x c d→C.W c d sv H'
 | .stuck=>False
def gD(t:Tg)(src:State→Res (List Val))(b:State→Res Fl)(s:State):Res Fl:=(src s).bind fun l s=>jB t b l s
theorem QB{t:Tg}{tg it:Expr}{b:List Stmt}{sb:State→Res Fl}{src:State→Res (List Val)}(hp:PassesOwn (model X.prog X.w) X.A X.env X.xe)(hc:X.calm=true)(hi:PI X tg it (lD C src))
  (hg:∀ C',CLe C C'→PG X tg (qC C' t)) (hb:∀ C',CLe C C'→PSs X b (dj C' sb)) (hs:cw it=true):PS X (.For tg it b [] pos) (dj C (gD t src sb)):=by
 refine⟨fun pins t0 sv H D I ⟨Z,loc,s,r,q⟩=>?_⟩
 -- the ends by any of the body's constants
 refine(ps_for (g:=fun v sv H Q=>∃ C',CLe C C'∧qC C' t v sv H Q) (tb:=fun D sv H=>∃ C',CLe C C'∧dj C' sb D sv H) hp hc hi
  ⟨fun pins s sv H v u Q I r ⟨C',c,q⟩=>(hg C' c).run pins s sv H v u Q I r q⟩ ⟨fun pins s sv H D I ⟨C',c,q⟩=>(hb C' c).run pins s sv H D I q⟩ (fold_ok hs)).run pins t0 sv H D I ?_
 refine⟨Z,loc,s,r,?_⟩
 unfold gD at q
 cases e:src s with
 | stuck=>rw[e]at q;exact q
 | exc x s1=>rw[e]at q;exact fun Z' loc' H' c d=>q Z' loc' sv H' c d
 | ok l s1=>
  rw[e]at q
  intro Z1 l1 H1 C' J G Y cle g1 r1 wk
  have q:bS C Z loc (jB t sb l s1) D:=q
  refine for_it (g:=fun v sv H Q=>∃ C',CLe C C'∧qC C' t v sv H Q) (tb:=fun D sv H=>∃ C',CLe C C'∧dj C' sb D sv H) (D:=D) wk.w (fun i sv H=>∃ Z2 l2 s2,Ext Z1 l1 Z2 l2∧SR C' Z2 l2 s2 sv H∧bS C Z2 l2 (jB t sb (l.drop i) s2) D)
   ⟨Z1,l1,s1,Ext.refl _ _,r1,q.ext g1⟩ (fun i sv H _ ⟨Z2,l2,s2,g2,r2,_⟩=>wk.g Z2 l2 s2 sv H g2 r2) ?_ ?_
  ·rintro i v sv2 H2 H3 hi ⟨Z2,l2,s2,g2,r2,q2⟩ hy
   rw[List.drop_eq_getElem_cons hi]at q2
   obtain⟨Z3,g3,_,r3,q3⟩:=wk.y Z2 l2 s2 sv2 H2 i l[i] v H3 g2 r2 (by simp[hi]) hy
   refine⟨C',cle,Z3,l2,s2,l[i],r3,q3,?_⟩
   unfold jB at q2
   cases e1:gE t l[i] s2 with
   | none=>rw[e1]at q2;exact q2
   | some s3=>
    rw[e1]at q2
    intro sv4 _ r4
    refine⟨C',cle,Z3,l2,s3,r4,?_⟩
    dsimp only at q2
    have q2':=bS.ext q2 g3
    cases e2:sb s3 with
    | stuck=>rw[e2]at q2';exact q2'
    | exc x s5=>
     rw[e2]at q2'
     have q2':bS C Z3 l2 (.exc x s5) D:=q2'
     intro Z5 l5 sv5 H5 c d g5 r5 x5
     have:=q2' Z5 l5 sv5 H5 c d g5 (SR.le cle r5)
     unfold ke at this x5
     rw[cle.ca]at x5
     rw[cle.w]
     exact this x5
    | ok k s5=>
     rw[e2]at q2'
     cases k with
     | nx=>exact fun Z5 l5 sv5 H5 g5 r5=>⟨Z5,l5,s5,g2.trans (g3.trans g5),r5,bS.ext q2' g5⟩
     | cnt=>exact fun Z5 l5 sv5 H5 g5 r5=>⟨Z5,l5,s5,g2.trans (g3.trans g5),r5,bS.ext q2' g5⟩
     | brk=>exact fun Z5 l5 sv5 H5 g5 r5=>bS.nx (bS.ext q2' g5) (SR.le cle r5)
     | ret rv=>
      intro Z5 l5 sv5 H5 v5 g5 r5 q5
      refine q2' Z5 l5 sv5 H5 v5 g5 (SR.le cle r5) ?_
      cases rv with
      | val x=>have q5:bX C'.cA Z5 l5 x v5:=q5;rw[cle.ca]at q5;exact q5
      | own j=>exact q5
      | new o=>
       obtain⟨a,h1,h2,h3,h4⟩:=q5
       rw[cle.ca]at h3
       exact⟨a,h1,h2,h3,h4.z,by rw[←cle.fr];exact h4.f,h4.l,h4.o⟩
  ·rintro sv2 H2 ⟨Z2,l2,s2,g2,r2,q2⟩
   rw[List.drop_length]at q2
   exact bS.nx q2 (SR.le cle r2)
end
end Vw
namespace Vw
open PySem L2 PyProof.Rows
def nG(r:RV)(s:State):Res D:=
 match cf r s with
 | .ok (.d x) s=>.ok x s
 | _=>.stuck
def KJ:K0→D
 | .i n=>.int n
 | .s t=>.str t
def itemsOf:D→State→Res (List Val)
 | .lst l,s=>.ok (l.map .d) s
 | .tup l,s=>.ok (l.map .d) s
 | .str t,s=>.ok (t.map fun c=>.d (.str [c])) s
 | .dic l,s=>.ok (l.map fun p=>.d (KJ p.1)) s
 | _,s=>.stuck
def p9:D→State→Res (List Val)
 | .lst l,s=>.ok (l.mapIdx fun i x=>.d (.tup [.int i,x])) s
 | .str t,s=>.ok (t.mapIdx fun i c=>.d (.tup [.int i,.str [c]])) s
 | _,s=>.stuck
def sD(f:State→Res RV)(k:D→State→Res (List Val))(s:State):Res (List Val):=(ev f s).bind fun r s=>(nG r s).bind k
def mQ(lo hi:Int)(s:State):Res (List Val):=
 if-(2^62)≤lo∧lo<2^62∧ -(2^62)≤hi∧hi<2^62 then .ok ((List.range (hi-lo).toNat).map fun i=>.d (.int (lo+(i:Nat)))) s else .stuck
section
variable{C:Cst}{Z Z':Hp}{loc loc':List Addr}{s s':State}{sv sv':L2.St}{H H':Hp}
variable{X:Cx}{e a b c tg:Expr}{es:List Expr}{pos:Pos}{f fa fb fc fo fi fv:State→Res RV}
theorem au.Se{rv:RV}(r:SR C Z loc s sv H)(e:ev f s=.ok rv s'):au C f sv H (fun v H'=>∃ Z' loc',Ext Z loc Z' loc'∧SR C Z' loc' s' sv H'∧yy rv∧bM C Z' loc' s' sv H' rv v):=by
 refine⟨Z,loc,s,r,?_⟩
 unfold ev at e
 cases e1:f s with
 | stuck=>rw[e1]at e;cases e
 | exc x s1=>rw[e1]at e;cases e
 | ok r0 s1=>
  rw[e1]at e
  intro Z1 l1 H1 v g r1 q
  obtain⟨rfl,st,Z2,g2,r2,q2⟩:=r1.settle q e
  exact⟨Z2,l1,g.trans g2,r2,st,q2⟩
theorem au.Sz{x:Exn}{Q:VK}(r:SR C Z loc s sv H)(e:ev f s=.exc x s')(h:∀ Z' loc' H' c d,Ext Z loc Z' loc'→SR C Z' loc' s' sv H'→ke C Z' H' x c d→C.W c d sv H'):au C f sv H Q:=by
 refine⟨Z,loc,s,r,?_⟩
 unfold ev at e
 cases e1:f s with
 | stuck=>rw[e1]at e;cases e
 | exc x s1=>rw[e1]at e;cases e;exact h
 | ok r0 s1=>rw[e1]at e;exact absurd e AN
theorem SR.nG(r:SR C Z loc s sv H){rv:RV}{v:V}{x:D}(h:bM C Z loc s sv H rv v)(e:nG rv s=.ok x s'):∃ Z',Ext Z loc Z' loc∧SR C Z' loc s' sv H∧bK C.cA Z' x v:=by
 unfold Vw.nG at e
 split at e
 ·rename_i y s1 e1
  cases e
  exact r.cf h e1
 ·cases e
theorem MI{rv:RV}{x:Exn}{s s':State}:nG rv s≠ .exc x s':=by
 unfold nG
 split<;> simp
theorem Cc{w w':TI}(h:PI X tg e w)(h':PI X tg e w'):PI X tg e (fun sv H R=>w sv H R∨w' sv H R):=
 ⟨fun pins s sv H R I q=>q.elim (h.run pins s sv H R I) (h'.run pins s sv H R I)⟩
theorem zl{w w':TI}(h:PI X tg e w)(m:∀ sv H R,w' sv H R→w sv H R):PI X tg e w':=⟨fun pins s sv H R I q=>h.run pins s sv H R I (m sv H R q)⟩
def Uu(t:TE):TE:=fun sv H Q=>t sv H fun x H1=>(∃ d u,x=.ref d∧H1 d=some u∧qv u=true∧∀ od,Q x (upd H1 d (.frz od u)))∨Q x H1
theorem Q0{t:TE}(h:PE X e t):PE X e (Uu t):=by
 refine⟨fun pins s sv H Q I q=>thn (h.run pins s sv H _ I q) fun v s1 ⟨x,H1,I1,rx,q1⟩=>?_⟩
 rcases q1 with⟨d,u,e1,h1,h2,q1⟩ | q1
 ·obtain⟨od,I2⟩:=I1.lock h1 (by cases u<;> first | trivial | cases h2)
  exact⟨x,_,I2,rx,q1 od⟩
 ·exact⟨x,H1,I1,rx,q1⟩
theorem SR.K2(r:SR C Z loc s sv H){d:Addr}{u:HO}(hz:Z d=some u)(hu:qv u=true)(hd:H d=some u)(od:Obj):
  CLe C { C with H0:=upd C.H0 d (.frz od u) }∧SR { C with H0:=upd C.H0 d (.frz od u) } Z loc s sv (upd H d (.frz od u)):=by
 have nf:∀ o w,C.H0 d≠some (.frz o w):=fun o w e=>by
  have:=r.lk d o w e
  rw[hd]at this
  cases this
  cases hu
 have fd:C.Fr d=none:=r.zf d u hz
 have cellAt:∀ {b:Addr} {ob:Ob},b≠d→Cell C.cA Z loc H b ob→Cell C.cA Z loc (upd H d (.frz od u)) b ob:=fun {b ob} hb x=>x.at (upd_ne hb)
 refine⟨⟨rfl,rfl,rfl,fun b o w e=>?_⟩,?_⟩
 ·have hb:b≠d:=fun z=>nf o w (z▸e)
  show upd C.H0 d _ b=_
  rw[upd_ne hb];exact e
 ·refine⟨fun b x hx=>?_,fun b x hx=>?_,r.zf,fun b o w e=>?_,r.ln,r.nd,fun b hb=>?_,fun n b ob h1 h2 h3=>?_,r.vl,fun i ob h=>?_,r.oi,r.ls⟩
  ·have hx:C.Fr b=some x:=hx
   have hb:b≠d:=fun z=>by rw[z,fd]at hx;cases hx
   rw[upd_ne hb];exact r.fr b x hx
  ·by_cases hb:b=d
   ·subst hb
    rw[hz]at hx
    cases hx
    exact .inr ⟨hu,od,upd_same⟩
   ·unfold Rz
    rw[upd_ne hb];exact r.zh b x hx
  ·have e:upd C.H0 d (.frz od u) b=some (.frz o w):=e
   by_cases hb:b=d
   ·subst hb
    rw[upd_same]at e
    cases e
    exact upd_same
   ·rw[upd_ne hb]at e ⊢
    exact r.lk b o w e
  ·refine⟨?_,(r.lh b hb).2⟩
   by_cases hbd:b=d
   ·rw[hbd,upd_same];simp
   ·rw[upd_ne hbd];exact(r.lh b hb).1
  ·obtain⟨q1,q2⟩:=r.cl n b ob h1 h2 h3
   have hb:b≠d:=fun z=>by rw[z,hz]at q2;cases q2
   exact⟨cellAt hb q1,q2⟩
  ·obtain⟨b,h1,h2,h3,h4,h5⟩:=r.ow i ob h
   have hb:b≠d:=fun z=>by rw[z,hz]at h4;cases h4
   exact⟨b,h1,h2,cellAt hb h3,h4,h5⟩
theorem KG{K:PySem.W.Frag}{ds:List D}{a:Addr}{vs:List V}(hz:Z a=some (.lst vs)∨∃ o,Z a=some (.frz o (.lst vs)))(q:dQ C.cA Z ds vs):
  WalkS C Z loc (ds.map .d) (Itl K a) (fun H=>SqL K H a vs) (YAt vs):=by
 have hl:(ds.map Val.d).length=vs.length:=b7 (loc:=loc) (gc.mpr q)
 refine⟨by rw[hl];exact walk_list,fun Z' loc' s sv H g r=>?_,fun Z' loc' s sv H i x v H' g r hx y=>?_⟩
 ·rcases hz with z | ⟨o,z⟩
  ·exact .inl (.inl ((r.zh a _ (g.1 _ _ z)).at rfl))
  ·exact .inl (.inr ⟨o,(r.zh a _ (g.1 _ _ z)).at rfl⟩)
 ·obtain⟨rfl,y⟩:=y
  obtain⟨v',h1,h2⟩:=jL (gc.mpr q) hx
  rw[y]at h1
  cases h1
  exact⟨Z',Ext.refl _ _,rA.refl _ _,r,h2.mono g⟩
theorem Rw{K:PySem.W.Frag}{ds:List D}{a:Addr}{vs:List V}(hz:Z a=some (.tup vs))(q:dQ C.cA Z ds vs):
  WalkS C Z loc (ds.map .d) (Itt K a) (fun H=>SqT K H a vs) (YAt vs):=by
 have hl:(ds.map Val.d).length=vs.length:=b7 (loc:=loc) (gc.mpr q)
 refine⟨by rw[hl];exact walk_tup,fun Z' loc' s sv H g r=>?_,fun Z' loc' s sv H i x v H' g r hx y=>?_⟩
 ·exact .inl (.inl ((r.zh a _ (g.1 _ _ hz)).at rfl))
 ·obtain⟨rfl,y⟩:=y
  obtain⟨v',h1,h2⟩:=jL (gc.mpr q) hx
  rw[y]at h1
  cases h1
  exact⟨Z',Ext.refl _ _,rA.refl _ _,r,h2.mono g⟩
theorem Qi{t:List Nat}:∃ G Y,WalkS C Z loc (t.map fun c=>.d (.str [c])) (Its ⟨t.toArray⟩) G Y:=by
 refine⟨_,_,by simpa using walk_str (z:=⟨t.toArray⟩),fun _ _ _ _ _ _ _=>trivial,fun Z' loc' s sv H i x v H' g r hx y=>?_⟩
 obtain⟨rfl,c,y1,y2⟩:=y
 rw[List.getElem?_map]at hx
 have y1:t[i]? =some c:=by simpa using y1
 rw[y1]at hx
 cases hx
 exact⟨Z',Ext.refl _ _,rA.refl _ _,r,y2⟩
theorem Qp{lo:Int}{n:Nat}:∃ G Y,WalkS C Z loc ((List.range n).map fun i=>.d (.int (lo+(i:Nat)))) (Itr lo n) G Y:=by
 refine⟨_,_,by simpa using walk_range (lo:=lo) (n:=n),fun _ _ _ _ _ _ _=>trivial,fun Z' loc' s sv H i x v H' g r hx y=>?_⟩
 obtain⟨rfl,y⟩:=y
 rw[List.getElem?_map]at hx
 obtain⟨j,h1,h2⟩:=Option.map_eq_some_iff.mp hx
 have h3:=List.getElem?_eq_some_iff.mp h1
 obtain⟨h4,h5⟩:=h3
 rw[List.getElem_range]at h5
 subst h5 h2
 exact⟨Z',Ext.refl _ _,rA.refl _ _,r,y⟩
theorem KQ{xs ys:Nat→Option V}{Z:Hp}{loc:List Addr}(r:SR C Z loc s sv H){i:Nat}{v:V}{d1 d2:D}(y:YPair xs ys i H v H')(h1:∀ u,xs i=some u→bK C.cA Z d1 u)(h2:∀ u,ys i=some u→bK C.cA Z d2 u):
  ∃ Z'',Ext Z loc Z'' loc∧rA H Z H' Z''∧SR C Z'' loc s sv H'∧bX C.cA Z'' loc (.d (.tup [d1,d2])) v:=by
 obtain⟨T,x,y,rfl,hT,rfl,e1,e2⟩:=y
 have f:=r.free hT
 have g:=bI (o:=.tup [x,y]) f.z
 exact⟨_,Ext.z g,⟨bI hT,fun b hb=>upd_ne fun z=>hb (z▸hT)⟩,(r.grow (bI hT)).vB upd_same f,T,[x,y],rfl,upd_same,x,[y],rfl,bK.mono g d1 (h1 x e1),y,[],rfl,bK.mono g d2 (h2 y e2),rfl⟩
theorem IH{ds:List D}{vs:List V}{i:Nat}{u:V}(q:dQ C.cA Z ds vs)(h:vs[i]? =some u):∃ d,ds[i]? =some d∧bK C.cA Z d u:=by
 have hl:(ds.map Val.d).length=vs.length:=b7 (loc:=[]) (gc.mpr q)
 have hi:i<ds.length:=by
  have:=(List.getElem?_eq_some_iff.mp h).1
  simpa [←hl]using this
 obtain⟨v',h1,h2⟩:=jL (loc:=[]) (gc.mpr q) (i:=i) (x:=.d ds[i]) (by simp[hi])
 rw[h]at h1
 cases h1
 exact⟨ds[i],by simp[hi],h2⟩
theorem QK{K:PySem.W.Frag}{ds:List D}{a:Addr}{vs:List V}(hz:Z a=some (.lst vs)∨∃ o,Z a=some (.frz o (.lst vs)))(q:dQ C.cA Z ds vs):
  ∃ G Y,WalkS C Z loc (ds.mapIdx fun i x=>.d (.tup [.int i,x])) (Ite K a) G Y:=by
 have hl:(ds.map Val.d).length=vs.length:=b7 (loc:=loc) (gc.mpr q)
 refine⟨_,_,by rw[List.length_mapIdx,←List.length_map (f:=Val.d),hl];exact walk_enum (xs:=vs) (K:=K),fun Z' loc' s sv H g r=>?_,fun Z' loc' s sv H i x v H' g r hx y=>?_⟩
 ·rcases hz with z | ⟨o,z⟩
  ·exact .inl (.inl ((r.zh a _ (g.1 _ _ z)).at rfl))
  ·exact .inl (.inr ⟨o,(r.zh a _ (g.1 _ _ z)).at rfl⟩)
 ·rw[List.getElem?_mapIdx]at hx
  obtain⟨d,h1,rfl⟩:=Option.map_eq_some_iff.mp hx
  refine KQ r y (fun u e=>by cases e;rfl) fun u e=>?_
  obtain⟨d',h2,h3⟩:=IH q e
  rw[h1]at h2
  cases h2
  exact bK.mono g.1 d h3
theorem AI:∀ {l:List (K0×D)} {ws:List (Key×V)} {i:Nat} {p:K0×D},j7 C.cA Z l ws→l[i]? =some p→∃ v,ws[i]? =some (kz p.1,v)∧bK C.cA Z p.2 v
 | [],ws,i,p,h,e=>by simp at e
 | (k,x)::l,ws,0,p,⟨v,t,e1,q,r⟩,e=>by
  rw[e1]
  simp at e
  subst e
  exact⟨v,rfl,q⟩
 | (k,x)::l,ws,i+1,p,⟨v,t,e1,q,r⟩,e=>by
  rw[e1]
  exact AI (i:=i) r (by simpa using e)
theorem A2:∀ {l:List (K0×D)} {ws:List (Key×V)},j7 C.cA Z l ws→l.length=ws.length
 | [],ws,h=>by rw[show ws=_ from h];rfl
 | (k,y)::l,ws,⟨w,t,e,q1,r⟩=>by rw[e,List.length_cons,List.length_cons,A2 r]
theorem Mn(k:K0):bK C.cA Z (KJ k) (kV (kz k)):=by cases k<;> rfl
theorem Ql{d:Addr}{u:HO}{od:Obj}{Z':Hp}{loc':List Addr}(h0:C.H0 d=some (.frz od u))(r:SR C Z' loc' s sv H):H d=some (.frz od u):=r.lk d od u h0
theorem QX{l:List (K0×D)}{d:Addr}{od:Obj}{ws:List (Key×V)}(h0:C.H0 d=some (.frz od (.dK ws)))(q:j7 C.cA Z l ws):∃ G Y,WalkS C Z loc (l.map fun p=>.d (KJ p.1)) (Itk d od ws) G Y:=by
 refine⟨_,_,by rw[List.length_map,A2 q];exact walk_keys (d:=d) (o:=od) (kvs:=ws),fun Z' loc' s sv H g r=>Ql h0 r,fun Z' loc' s sv H i x v H' g r hx y=>?_⟩
 obtain⟨rfl,k,w,h1,rfl⟩:=y
 rw[List.getElem?_map]at hx
 obtain⟨p,h2,rfl⟩:=Option.map_eq_some_iff.mp hx
 obtain⟨v',h3,h4⟩:=AI q h2
 rw[h1]at h3
 cases h3
 exact⟨Z',Ext.refl _ _,rA.refl _ _,r,Mn p.1⟩
end
end Vw
namespace Vw
open PySem L2 PyProof.Rows
def GK(x:Str):It:=⟨fun i _=>i<x.cps.size,fun i H v H'=>∃ T c,v=.ref T∧H T=none∧H'=upd H T (.tup [.int (i:Nat),.str ⟨#[c]⟩])∧x.cps[i]? =some c,fun i _=>x.cps.size≤i⟩
theorem GR{P:Program}{w:World}{K:PySem.W.Frag}{elts:List Expr}{kk:Nat}{tpos:Pos}(x:Str)(t:Tok)(e it:Addr):
  Turn P w K (.Tuple elts kk tpos) (GK x) [e,it] e (fun i h=>((∃ old,IsEnum h e it ((i:Nat):Int) old)∧h.IsStrIter it (strIterType x) x t i)∧e≠it∧i≤x.cps.size) where
 mem:=by simp
 obj:=fun i h st b hb=>by
  obtain⟨⟨⟨old,he⟩,⟨o,ho,hc,hd⟩⟩,_⟩:=st
  have e':b=e∨b=it:=by simpa using hb
  rcases e' with z | z
  ·rw[z];exact⟨_,he,fun v q=>nomatch q⟩
  ·rw[z];exact⟨o,ho,fun v q=>by rw[hd]at q;cases q⟩
 keep:=fun i h h' st k=>by
  obtain⟨⟨⟨old,he⟩,⟨o,ho,hc,hd⟩⟩,hne⟩:=st
  exact⟨⟨⟨old,k e (by simp) _ he⟩,⟨o,k it (by simp) _ ho,hc,hd⟩⟩,hne⟩
 item:=by
  intro X hP hw hK hc i pins s sv H E I hf st hg
  subst hP hw hK
  obtain⟨⟨⟨old,he⟩,hit⟩,hne,hle⟩:=st
  have hi:i<x.cps.size:=hg
  have hh:X.A.in1.handled=none:=by have:=I.ok.hd hc;exact this
  have D:Draws X.prog X.w X.A.in1 it [it] x.cps.size (fun i v=>∃ c u,x.cps[i]? =some c∧v=.str ⟨#[c]⟩ u) (fun i h=>h.IsStrIter it (strIterType x) x t i):=by
   unfold strIterType
   split
   ·exact Draws.strAscii hh it x t
   ·exact Draws.strWide hh it x t
  have hel:e<s.heap.objs.size:=Heap.lt_size he
  have hil:it<s.heap.objs.size:=by obtain⟨_,q,_⟩:=hit;exact Heap.lt_size q
  refine wpAny_pyNext_enum_itemD D he hit hi hne (by simpa using hne) fun y h' tk hy ho hit' hT hsz hk=>?_
  obtain⟨c,u,hcx,rfl⟩:=hy
  refine⟨_,rfl,wpAny_letOwnedTupleGo_enum (s:={ s with heap:=h',toks:=tk+1 }) ho fun h'' he' sb=>?_⟩
  have hT2:h''.get? s.heap.objs.size=some { cls:=.type "tuple",data:=.seq #[.int i tk,.str ⟨#[c]⟩ u] }:=(sb.2 _ (Nat.ne_of_gt hel)).trans hT
  have new:ObjOk X.prog X.w (upd H s.heap.objs.size (.tup [.int (i:Nat),.str ⟨#[c]⟩])) h'' s.heap.objs.size (.tup [.int (i:Nat),.str ⟨#[c]⟩]):=
   ⟨by show 2≤sizeLine;decide,[.int i tk,.str ⟨#[c]⟩ u],.cons ⟨_,rfl⟩ (.cons ⟨_,rfl⟩ .nil),⟨_,hT2,rfl,_,rfl⟩⟩
  have I1:Inv X pins sv (upd H s.heap.objs.size (.tup [.int (i:Nat),.str ⟨#[c]⟩])) { s with heap:=h'',toks:=tk+1 }:=
   I.turnedNew (ch:=[e,it]) (fun b ob hb q=>(sb.2 b (fun z=>hb (by simp[z]))).trans (hk b ob (fun z=>hb (by simp[z])) (fun z=>hb (by simp[z])) q)) hf (Nat.le_refl _) new
  refine⟨.ref s.heap.objs.size,_,I1,rfl,⟨_,c,rfl,I.hok.fresh (Nat.le_refl _),rfl,hcx⟩,⟨⟨⟨.str ⟨#[c]⟩ u,?_⟩,?_⟩,hne,hi⟩,fun b hb=>?_⟩
  ·have e1:((i+1:Nat):Int)=(i:Int)+1:=by omega
   rw[e1];exact he'
  ·obtain⟨o,q1,q2⟩:=hit'
   exact⟨o,(sb.2 it (Ne.symm hne)).trans q1,q2⟩
  ·have hb':b<s.heap.objs.size:=by
    have e':b=e∨b=it:=by simpa using hb
    rcases e' with z | z
    ·rw[z];exact hel
    ·rw[z];exact hil
   rw[upd_ne (Nat.ne_of_lt hb')]
   exact(hf b hb).1
 done:=by
  intro X hP hw hK hc i pins s sv H E I hf st hg
  subst hP hw hK
  obtain⟨⟨⟨old,he⟩,hit⟩,hne,hle⟩:=st
  have hh:X.A.in1.handled=none:=by have:=I.ok.hd hc;exact this
  have D:Draws X.prog X.w X.A.in1 it [it] x.cps.size (fun i v=>∃ c u,x.cps[i]? =some c∧v=.str ⟨#[c]⟩ u) (fun i h=>h.IsStrIter it (strIterType x) x t i):=by
   unfold strIterType
   split
   ·exact Draws.strAscii hh it x t
   ·exact Draws.strWide hh it x t
  have hi:i=x.cps.size:=Nat.le_antisymm hle hg
  obtain⟨f0,f1,f2,f3,f4,f5⟩:=hf it (by simp)
  exact wpAny_pyNext_enum_endD D he (hi▸hit) fun h' eb=>⟨rfl,I.turned (t':=s.toks) (fun b o hb q=>eb b o hb q) f0 f1 f3 f4 f5⟩
 self:=fun A i s Q E st h=>let ⟨⟨⟨_,he⟩,_⟩,_⟩:=st;wpAny_pyIter_enum he h
def Nb(ta:TA):TI:=fun sv H R=>ta sv H fun vs H1=>∃ x,vs=[.str x]∧R (GK x) H1
theorem Jq{X:Cx}{e:Expr}{ta:TA}{p pos tpos:Pos}{elts:List Expr}{kk:Nat}(hg:Gl X "enumerate")(hm:X.mg "enumerate"=none)(ha:PA X [e] ta)(hs:starEach [e] X.env=[(false,eval e X.env)]):
  PI X (.Tuple elts kk tpos) (.Call (.Name "enumerate" p) [e] [] pos) (Nb ta):=by
 refine⟨fun pins s sv H R I h=>?_⟩
 refine Call_ (ld_blt I hg hm boot_enumerate (PyProof.Rows.callWith_type1 (thn (ha.run pos pins s sv H _ I h) fun us s1 ⟨vs,H1,I1,r1,q1⟩=>?_) hs rfl))
 obtain⟨x,ex,q⟩:=q1
 subst ex
 cases r1 with
 | cons r rr=>
  cases rr
  obtain⟨t,rfl⟩:=r
  refine call_enumerate_str fun h' he hit hsz hk=>wpAny_pyIter_enum he ?_
  have I2:Inv X pins sv H1 { s1 with heap:=h' }:=I1.kept (t':=s1.toks) hk
  refine⟨s1.heap.objs.size+1,[s1.heap.objs.size+1,s1.heap.objs.size],_,_,H1,rfl,I2,GR x t (s1.heap.objs.size+1) s1.heap.objs.size,⟨⟨⟨.none,he⟩,hit⟩,Nat.succ_ne_self _,Nat.zero_le _⟩,fun b hb=>?_,q⟩
  have e':b=s1.heap.objs.size+1∨b=s1.heap.objs.size:=by simpa using hb
  have hle:s1.heap.objs.size≤b:=by
   rcases e' with z | z
   ·rw[z];exact Nat.le_add_right _ _
   ·rw[z];exact Nat.le_refl _
  exact I1.fpOk hle (I1.hok.fresh hle)
section
variable{C:Cst}{Z Z':Hp}{loc loc':List Addr}{s s':State}{sv sv':L2.St}{H H':Hp}
variable{X:Cx}{e a b c tg:Expr}{es:List Expr}{pos:Pos}{f fa fb fc fo fi fv:State→Res RV}
theorem G4{x:Str}:Walk (GK x) x.cps.size (fun _=>True) (YPair (fun i=>some (.int (i:Nat))) (fun i=>x.cps[i]?.map fun c=>.str ⟨#[c]⟩)):=by
 refine⟨fun i _ hi q=>hi,fun _ q=>Nat.le_refl _,fun i H v H' _ q y=>?_⟩
 obtain⟨T,c,h1,h2,h3,h4⟩:=y
 exact⟨T,.int (i:Nat),.str ⟨#[c]⟩,h1,h2,h3,rfl,by simp[h4]⟩
theorem Pz{t:List Nat}:∃ G Y,WalkS C Z loc (t.mapIdx fun i c=>.d (.tup [.int i,.str [c]])) (GK ⟨t.toArray⟩) G Y:=by
 refine⟨_,_,by simpa using G4 (x:=⟨t.toArray⟩),fun _ _ _ _ _ _ _=>trivial,fun Z' loc' s sv H i x v H' g r hx y=>?_⟩
 rw[List.getElem?_mapIdx]at hx
 obtain⟨d,h1,rfl⟩:=Option.map_eq_some_iff.mp hx
 refine KQ r y (fun u e=>by cases e;rfl) fun u e=>?_
 simp[h1]at e
 subst e
 rfl
theorem SR.KN(r:SR C Z loc s sv H){d:Addr}{u:HO}{od:Obj}(hd:H d=some (.frz od u)):
  CLe C { C with H0:=upd C.H0 d (.frz od u) }∧SR { C with H0:=upd C.H0 d (.frz od u) } Z loc s sv H:=by
 refine⟨⟨rfl,rfl,rfl,fun b o w e=>?_⟩,⟨r.fr,r.zh,r.zf,fun b o w e=>?_,r.ln,r.nd,r.lh,r.cl,r.vl,r.ow,r.oi,r.ls⟩⟩
 ·show upd C.H0 d _ b=_
  by_cases hb:b=d
  ·subst hb
   rw[r.lk b o w e]at hd
   cases hd
   exact upd_same
  ·rw[upd_ne hb];exact e
 ·have e:upd C.H0 d (.frz od u) b=some (.frz o w):=e
  by_cases hb:b=d
  ·subst hb
   rw[upd_same]at e
   cases e
   exact hd
  ·rw[upd_ne hb]at e
   exact r.lk b o w e
theorem Lu{k:D→State→Res (List Val)}{R:It→Hp→Prop}(h:lD C (sD f k) sv H R)(hk:∀ d s x s',k d s≠ .exc x s'):
  (∀ Q,au C f sv H Q)∨∃ d l s1 s2,k d s1=.ok l s2∧∀ Q:VK,(∀ v H1 Z1 l1,SR C Z1 l1 s1 sv H1→bK C.cA Z1 d v→
   (∀ C' J G Y H',CLe C C'→SR C' Z1 l1 s2 sv H'→WalkS C' Z1 l1 l J G Y→R J H')→Q v H1)→au C f sv H Q:=by
 obtain⟨Z,loc,s,r,q⟩:=h
 unfold sD at q
 cases e:ev f s with
 | stuck=>rw[e]at q;exact q.elim
 | exc x s1=>rw[e]at q;exact .inl fun Q=>au.Sz r e q
 | ok rv s1=>
  rw[e]at q
  simp only[Res.bind]at q
  cases e1:nG rv s1 with
  | stuck=>rw[e1]at q;exact q.elim
  | exc x s2=>exact absurd e1 MI
  | ok d s2=>
   rw[e1]at q
   simp only[Res.bind]at q
   cases e2:k d s2 with
   | stuck=>rw[e2]at q;exact q.elim
   | exc x s3=>exact absurd e2 (hk _ _ _ _)
   | ok l s3=>
    rw[e2]at q
    refine .inr ⟨d,l,s2,s3,e2,fun Q h=>(au.Se r e).imp fun v H1 ⟨Z',l',g,r1,st,rv⟩=>?_⟩
    obtain⟨Z2,g2,r2,q2⟩:=r1.nG rv e1
    exact h v H1 Z2 l' r2 q2 fun C' J G Y H' cl r' wk=>q Z2 l' H' C' J G Y cl (g.trans g2) r' wk
theorem Gg{d:D}{x:Exn}:itemsOf d s≠ .exc x s':=by unfold itemsOf;split<;> simp
theorem HR{d:D}{x:Exn}:p9 d s≠ .exc x s':=by unfold p9;split<;> simp
theorem SW{l:List (K0×D)}{v:V}(r:SR C Z loc s sv H)(q:bK C.cA Z (.dic l) v)(Q:VK)
  (h:∀ d od ws C' H',v=.ref d→CLe C C'→SR C' Z loc s sv H'→C'.H0 d=some (.frz od (.dK ws))→H' d=some (.frz od (.dK ws))→j7 C.cA Z l ws→Q v H'):
  (∃ d u,v=.ref d∧H d=some u∧qv u=true∧∀ od,Q v (upd H d (.frz od u)))∨Q v H:=by
 obtain⟨d,ws,rfl,hz,q⟩:=q
 rcases r.zh d _ hz with h1 | ⟨_,od,h1⟩
 ·exact .inl ⟨d,.dK ws,rfl,h1,rfl,fun od=>h d od ws _ _ rfl (r.K2 hz rfl h1 od).1 (r.K2 hz rfl h1 od).2 upd_same upd_same q⟩
 ·exact .inr (h d od ws _ _ rfl (r.KN h1).1 (r.KN h1).2 upd_same h1 q)
theorem n4(he:PE X e (au C f)):PI X tg e (lD C (sD f itemsOf)):=by
 refine zl (Cc (pi_list he) (Cc (pi_tup he) (Cc (pi_str he) (pi_keys (Q0 he))))) fun sv H R h=>?_
 rcases Lu h fun _ _ _ _=>Gg with h | ⟨d,l,s1,s2,e1,h⟩
 ·exact .inl (h _)
 ·cases d<;> simp only[itemsOf]at e1<;> cases e1
  ·refine .inr (.inr (.inl (h _ fun v H1 Z1 l1 r q k=>?_)))
   cases q
   obtain⟨G,Y,wk⟩:=Qi (C:=C) (Z:=Z1) (loc:=l1)
   exact⟨_,rfl,k C _ _ _ _ (CLe.refl C) r wk⟩
  ·refine .inr (.inl (h _ fun v H1 Z1 l1 r q k=>?_))
   obtain⟨a,vs,rfl,hz,q⟩:=q
   have wk:=Rw (C:=C) (loc:=l1) (K:=X.K) hz q
   exact⟨a,rfl,⟨vs,wk.g Z1 l1 _ sv H1 (Ext.refl _ _) r⟩,k C _ _ _ _ (CLe.refl C) r wk⟩
  ·refine .inl (h _ fun v H1 Z1 l1 r q k=>?_)
   obtain⟨a,vs,rfl,hz,q⟩:=q
   have wk:=KG (C:=C) (loc:=l1) (K:=X.K) hz q
   exact⟨a,rfl,⟨vs,wk.g Z1 l1 _ sv H1 (Ext.refl _ _) r⟩,k C _ _ _ _ (CLe.refl C) r wk⟩
  ·refine .inr (.inr (.inr (h _ fun v H1 Z1 l1 r q k=>SW r q (fun x H1=>∃ d o,x=.ref d∧((∃ kvs,H1 d=some (.frz o (.dK kvs))∧R (Itk d o kvs) H1)∨∃ kvs,H1 d=some (.frz o (.dT kvs))∧R (Itkt d o kvs) H1)) fun d od ws C' H' ev c r' h0 hd q'=>?_)))
   obtain⟨G,Y,wk⟩:=QX (C:=C') (Z:=Z1) (loc:=l1) h0 (c.ca▸q')
   exact⟨d,od,ev,.inl ⟨ws,hd,k C' _ _ _ _ c r' wk⟩⟩
theorem NH{p tpos:Pos}{elts:List Expr}{kk:Nat}(he:PE X e (au C f))(hg:Gl X "enumerate")(hm:X.mg "enumerate"=none)(hs:notStar e=true):
  PI X (.Tuple elts kk tpos) (.Call (.Name "enumerate" p) [e] [] pos) (lD C (sD f p9)):=by
 have ha:PA X [e] (tCons (au C f) tNil):=pa_cons he pa_nil (bx hs)
 refine zl (Cc (pi_enum hg hm ha (bx hs)) (Jq hg hm ha (bx hs))) fun sv H R h=>?_
 rcases Lu h fun _ _ _ _=>HR with h | ⟨d,l,s1,s2,e1,h⟩
 ·exact .inl (h _)
 ·cases d<;> simp only[p9]at e1<;> cases e1
  ·refine .inr (h _ fun v H1 Z1 l1 r q k=>?_)
   cases q
   obtain⟨G,Y,wk⟩:=Pz (C:=C) (Z:=Z1) (loc:=l1)
   exact⟨_,rfl,k C _ _ _ _ (CLe.refl C) r wk⟩
  ·refine .inl (h _ fun v H1 Z1 l1 r q k=>?_)
   obtain⟨a,vs,rfl,hz,q⟩:=q
   obtain⟨G,Y,wk⟩:=QK (C:=C) (loc:=l1) (K:=X.K) hz q
   exact⟨a,vs,rfl,(KG (C:=C) (loc:=l1) (K:=X.K) hz q).g Z1 l1 _ sv H1 (Ext.refl _ _) r,k C _ _ _ _ (CLe.refl C) r wk⟩
def EE(C:Cst)(Z:Hp)(loc:List Addr)(sv:L2.St)(r:Res (List Val))(R:It→Hp→Prop):Prop:=
 match r with
 | .ok l s'=>∀ Z' loc' H' C' J G Y,CLe C C'→Ext Z loc Z' loc'→SR C' Z' loc' s' sv H'→WalkS C' Z' loc' l J G Y→R J H'
 | .exc x s'=>∀ Z' loc' H' c d,Ext Z loc Z' loc'→SR C Z' loc' s' sv H'→ke C Z' H' x c d→C.W c d sv H'
 | .stuck=>False
theorem EE.ext{r:Res (List Val)}{R:It→Hp→Prop}(h:EE C Z loc sv r R)(g:Ext Z loc Z' loc'):EE C Z' loc' sv r R:=by
 cases r with
 | stuck=>exact h
 | ok l s=>exact fun Z2 l2 H2 C' J G Y c g2=>h Z2 l2 H2 C' J G Y c (g.trans g2)
 | exc x s=>exact fun Z2 l2 H2 c d g2=>h Z2 l2 H2 c d (g.trans g2)
def gV(fs:State→Res (List RV))(k:List RV→State→Res (List Val))(s:State):Res (List Val):=(fs s).bind k
theorem S7{fs:State→Res (List RV)}{k:List RV→State→Res (List Val)}{R:It→Hp→Prop}(h:lD C (gV fs k) sv H R):
  cV C fs sv H fun vs H1=>∃ Z loc s xs,SR C Z loc s sv H1∧iX C Z loc s sv H1 xs vs∧EE C Z loc sv (k xs s) R:=by
 obtain⟨Z,loc,s,r,q⟩:=h
 refine⟨Z,loc,s,r,?_⟩
 unfold gV at q
 cases e:fs s with
 | stuck=>rw[e]at q;exact q.elim
 | exc x s1=>rw[e]at q;exact q
 | ok xs s1=>
  rw[e]at q
  exact fun Z' l' H' vs g r' q'=>⟨Z',l',s1,xs,r',q',EE.ext (r:=k xs s1) q g⟩
def dvs(s:State):List RV→Option (List D)
 | []=>some []
 | r::rs=>match Vw.dv s r,dvs s rs with
  | some d,some ds=>some (d::ds)
  | _,_=>none
theorem SR.dvs(r:SR C Z loc s sv H):∀ {rs:List RV} {vs:List V} {ds:List D},iX C Z loc s sv H rs vs→dvs s rs=some ds→dQ C.cA Z ds vs
 | [],vs,ds,h,e=>by cases e;exact h
 | x::l,vs,ds,⟨v,t,e1,st,q,h⟩,e=>by
  unfold Vw.dvs at e
  split at e
  ·rename_i d ds' e2 e3
   cases e
   exact⟨v,t,e1,r.dv q e2,SR.dvs r h e3⟩
  ·cases e
def fL(xs:List RV)(s:State):Res (List Val):=
 match dvs s xs with
 | some [.int j]=>mQ 0 j s
 | _=>.stuck
def QJ(xs:List RV)(s:State):Res (List Val):=
 match dvs s xs with
 | some [.int i,.int j]=>mQ i j s
 | _=>.stuck
theorem pq{p:Pos}{fs:State→Res (List RV)}(ha:PA X [a] (cV C fs))(hg:Gl X "range")(hm:X.mg "range"=none)(hs:notStar a=true):
  PI X tg (.Call (.Name "range" p) [a] [] pos) (lD C (gV fs fL)):=by
 refine zl (pi_range1 hg hm ha (bx hs)) fun sv H R h=>(S7 h).imp fun vs H1 ⟨Z,loc,s,xs,r,q,h⟩=>?_
 unfold fL at h
 split at h
 ·rename_i j e
  obtain⟨v,t,rfl,hv,ht⟩:=r.dvs q e
  cases ht;cases hv
  unfold mQ at h
  split at h
  ·rename_i b
   obtain⟨G,Y,wk⟩:=Qp (C:=C) (Z:=Z) (loc:=loc) (lo:=0) (n:=j.toNat)
   exact⟨j,rfl,b.2.2.1,b.2.2.2,h Z loc H1 C _ _ _ (CLe.refl C) (Ext.refl _ _) r (by simpa using wk)⟩
  ·exact h.elim
 ·exact h.elim
end
end Vw
namespace Vw
open PySem L2 PyProof.Rows
def nJ(s:State):RV→Option RV
 | .own i=>match s.sg[i]? with
  | some (some (.own o))=>some (.new o)
  | some (some (.v x))=>some (.val x)
  | _=>none
 | r=>some r
abbrev Fn:=List Val→List Ob→Res RV
def cW(n:Nat)(b:State→Res Fl):Fn:=fun args st=>
 match b ⟨args.map (fun x=>some (.v x))++List.replicate (n-args.length) none,st⟩with
 | .ok .nx s=>.ok (.val (.d .non)) ⟨[],s.st⟩
 | .ok (.ret r) s=>match nJ s r with
  | some r'=>.ok r' ⟨[],s.st⟩
  | none=>.stuck
 | .ok _ _=>.stuck
 | .exc x s=>.exc x ⟨[],s.st⟩
 | .stuck=>.stuck
section
variable{C:Cst}{Z Z':Hp}{loc loc':List Addr}{s s':State}{sv sv':L2.St}{H H':Hp}
theorem SR.leave(r:SR C Z loc s sv H):SR C Z loc ⟨[],s.st⟩ [] H:=
 ⟨r.fr,r.zh,r.zf,r.lk,r.ln,r.nd,r.lh,r.cl,fun i x h=>by simp at h,fun i o h=>by simp at h,fun i j o o' a h=>by simp at h,rfl⟩
theorem SR.nJ(r:SR C Z loc s sv H){rv rv':RV}{v:V}(h:bM C Z loc s sv H rv v)(e:nJ s rv=some rv'):bM C Z loc ⟨[],s.st⟩ [] H rv' v:=by
 cases rv with
 | val x=>cases e;exact h
 | new o=>
  cases e
  obtain⟨a,h1,h2,h3,h4⟩:=h
  exact⟨a,h1,h2,h3,h4.z,h4.f,h4.l,fun i o h=>by simp at h⟩
 | own i=>
  dsimp only[Vw.nJ]at e
  split at e
  ·rename_i o h1
   cases e
   obtain⟨a,q1,q2,q3,q4,q5,q6⟩:=r.ow i o h1
   have h:sv[i]? =some (some v):=h
   rw[q1]at h
   cases h
   exact⟨a,rfl,q2,q3,q4,q5,q6,fun i o h=>by simp at h⟩
  ·rename_i x h1
   cases e
   obtain⟨w,q1,q2⟩:=r.vl i x h1
   have h:sv[i]? =some (some v):=h
   rw[q1]at h
   cases h
   exact q2
  ·cases e
def Ko(C:Cst)(Z:Hp)(loc:List Addr)(r:Res RV)(Q:VK):Prop:=
 match r with
 | .ok rv s'=>∀ Z' loc' H' v,Ext Z loc Z' loc'→SR C Z' loc' ⟨[],s'.st⟩ [] H'→bM C Z' loc' ⟨[],s'.st⟩ [] H' rv v→Q v H'
 | .exc x s'=>∀ Z' loc' H' c d,Ext Z loc Z' loc'→SR C Z' loc' ⟨[],s'.st⟩ [] H'→ke C Z' H' x c d→C.W c d [] H'
 | .stuck=>False
def fX(cA:String→Addr)(Fr H0:Hp)(E:XK):Cst:=⟨cA,Fr,H0,fun c d _ H=>E c d H⟩
def bP(cA:String→Addr)(n:Nat)(g:Fn):Sp:=fun vs H Q E=>∃ Fr H0 Z loc args st,SR (fX cA Fr H0 E) Z loc ⟨[],st⟩ [] H∧aY cA Z loc args vs∧args.length=n∧Ko (fX cA Fr H0 E) Z loc (g args st) Q
theorem Kb{cA:String→Addr}{l:List Val}{vs:List V}(h:aY cA Z loc l vs):l.length=vs.length:=b7 (C:=fX cA (fun _=>none) (fun _=>none) fun _ _ _=>True) h
theorem sj{cA:String→Addr}{n:Nat}{g:Fn}(vs:List V)(H:Hp)(Q:VK)(E:XK)(h:bP cA n g vs H Q E):vs.length=n:=by
 obtain⟨Fr,H0,Z,loc,args,st,r,q,e,_⟩:=h
 rw[←e,Kb q]
theorem SR.enter{cA:String→Addr}{Fr H0:Hp}{E:XK}{st:List Ob}{args:List Val}{vs:List V}(r:SR (fX cA Fr H0 E) Z loc ⟨[],st⟩ [] H)(q:aY cA Z loc args vs)(m:Nat):
  SR (fX cA Fr H0 E) Z loc ⟨args.map (fun x=>some (.v x))++List.replicate m none,st⟩ (vs.map some++List.replicate m none) H:=by
 have hl:=Kb q
 have noOwn:∀ (i:Nat) (o:Ob),(args.map (fun x=>some (Sl.v x))++List.replicate m none)[i]? ≠some (some (.own o)):=fun i o h=>by
  by_cases hi:i<args.length
  ·rw[List.getElem?_append_left (by simpa using hi)]at h
   simp[hi]at h
  ·rw[List.getElem?_append_right (by simpa using hi)]at h
   have:=List.getElem?_eq_some_iff.mp h
   simp at this
 refine⟨r.fr,r.zh,r.zf,r.lk,r.ln,r.nd,r.lh,r.cl,fun i x h=>?_,fun i o h=>absurd h (noOwn i o),fun i j o o' a h=>absurd h (noOwn i o),by simp[hl]⟩
 by_cases hi:i<args.length
 ·have h:(args.map (fun x=>some (Sl.v x))++List.replicate m none)[i]? =some (some (.v x)):=h
  rw[List.getElem?_append_left (by simpa using hi)]at h
  simp[hi]at h
  subst h
  obtain⟨v,q1,q2⟩:=jL (C:=fX cA Fr H0 E) q (i:=i) (x:=args[i]) (by simp[hi])
  refine⟨v,?_,q2⟩
  rw[List.getElem?_append_left (by simp;omega)]
  simp[q1]
 ·have h:(args.map (fun x=>some (Sl.v x))++List.replicate m none)[i]? =some (some (.v x)):=h
  rw[List.getElem?_append_right (by simpa using hi)]at h
  have:=List.getElem?_eq_some_iff.mp h
  simp at this
end
section
variable{P:Program}{w:World}{K:PySem.W.Frag}{mg:Str→Option Value}{base:Heap}{x qual:Str}{params:Arguments}{body:List Stmt}{scope:Scope}{f:Addr}{fd:FuncData}{N ps:List Str}{cA:String→Addr}{b:State→Res Fl}
theorem qN{Fr H0 Z:Hp}{loc:List Addr}{args:List Val}{st:List Ob}{vs:List V}{H:Hp}{Q:VK}{E:XK}(r:SR (fX cA Fr H0 E) Z loc ⟨[],st⟩ [] H)(q:aY cA Z loc args vs)(hl:args.length=ps.length)
  (h:Ko (fX cA Fr H0 E) Z loc (cW N.length b args st) Q) (hW:∀ c d H',E c d H'→(fX cA Fr H0 E).W c d [] H'):dj (fX cA Fr H0 E) b { nx:=fun _ H'=>Q .non H',rt:=Q } (L2.start N vs) H:=by
 have hv:=Kb q
 have es:L2.start N vs=vs.map some++List.replicate (N.length-args.length) none:=by unfold L2.start;rw[hv]
 rw[es]
 refine⟨Z,loc,_,SR.enter r q (N.length-args.length),?_⟩
 unfold cW at h
 cases e:b ⟨args.map (fun x=>some (.v x))++List.replicate (N.length-args.length) none,st⟩with
 | stuck=>rw[e]at h;exact h
 | exc y s1=>rw[e]at h;exact fun Z' l' sv' H' c d g r' x'=>h Z' l' H' c d g r'.leave x'
 | ok k s1=>
  rw[e]at h
  cases k with
  | nx=>exact fun Z' l' sv' H' g r'=>h Z' l' H' .non g r'.leave rfl
  | brk=>exact False.elim h
  | cnt=>exact False.elim h
  | ret rv=>
   dsimp only at h
   split at h
   ·rename_i rv' e2
    exact fun Z' l' sv' H' v g r' q'=>h Z' l' H' v g r'.leave (r'.nJ q' e2)
   ·exact h.elim
theorem fn_ok{k:Nat}(F:FunD K x qual params body scope [] [] f fd)(S:FnScope N ps scope)
  (hb:∀ (cdv:Value) (A:Around) (outer:List Env) (s:Shared) (H:Hp) (E:XK) (C:Cst),Room k (A.deeper (envOfC qual scope s.heap.objs.size f cdv))→C.cA=cA→PSs (cxOf CX0 P w K mg base N qual scope f cdv A outer s H E).nox body (dj C b)):
  FnOk P w K mg base CX0 (k+1) f fd ps (bP cA ps.length (cW N.length b)):=by
 refine F.ok S sj fun cdv A outer s H vs Q E hr h=>?_
 obtain⟨Fr,H0,Z,loc,args,st,r,q,hl,h⟩:=h
 exact⟨_,PSs.nox (hb cdv A outer s H E (fX cA Fr H0 E) hr rfl),qN (ps:=ps) r q hl h fun _ _ _ z=>z⟩
end
open Classical in
noncomputable def gy(H Z:Hp)(loc:List Addr):Hp:=fun a=>if Z a=none∧a∉loc then H a else none
theorem oU{H Z:Hp}{loc:List Addr}{a:Addr}(h:Z a=none)(h':a∉loc):gy H Z loc a=H a:=by unfold gy;rw[if_pos ⟨h,h'⟩]
theorem m9{H Z:Hp}{loc:List Addr}{a:Addr}{o:HO}(h:gy H Z loc a=some o):H a=some o∧Z a=none∧a∉loc:=by
 unfold gy at h
 split at h
 ·rename_i q;exact⟨h,q.1,q.2⟩
 ·cases h
section
variable{C:Cst}{Z Z':Hp}{loc loc':List Addr}{s s':State}{sv sv':L2.St}{H H':Hp}
variable{X:Cx}{e a b c o:Expr}{es:List Expr}{p pos apos:Pos}{f fa fb fc fo fi fv:State→Res RV}
theorem SR.entry(r:SR C Z loc s sv H)(E:XK):SR (fX C.cA (gy H Z loc) C.H0 E) Z loc ⟨[],s.st⟩ [] H:=by
 refine⟨fun a o h=>(m9 h).1,r.zh,fun a o h=>?_,r.lk,r.ln,r.nd,fun a h=>⟨(r.lh a h).1,?_⟩,r.cl,fun i x h=>by simp at h,fun i o h=>by simp at h,fun i j o o' a h=>by simp at h,rfl⟩
 ·cases e:gy H Z loc a with
  | none=>exact e
  | some u=>rw[(m9 e).2.1]at h;cases h
 ·cases e:gy H Z loc a with
  | none=>exact e
  | some u=>exact absurd h (m9 e).2.2
theorem SR.mC(r:SR C Z loc s sv H){a:Addr}{o:HO}(h:C.Fr a=some o):Z a=none∧a∉loc:=by
 refine⟨?_,fun z=>?_⟩
 ·cases e:Z a with
  | none=>rfl
  | some u=>rw[r.zf a u e]at h;cases h
 ·rw[(r.lh a z).2]at h;cases h
theorem SR.back(r:SR C Z loc s sv H){E:XK}{st:List Ob}(g:Ext Z loc Z' loc')(r':SR (fX C.cA (gy H Z loc) C.H0 E) Z' loc' ⟨[],st⟩ [] H'):SR C Z' loc' ⟨s.sg,st⟩ sv H':=by
 have z0:∀ {a:Addr},Z a=none→a∉loc→H a≠none→Z' a=none∧a∉loc'∧H' a=H a:=fun {a} h1 h2 h3=>by
  cases e:H a with
  | none=>exact absurd e h3
  | some u=>
   have f:=(oU (H:=H) h1 h2).trans e
   obtain⟨q1,q2⟩:=r'.mC (a:=a) f
   exact⟨q1,q2,r'.fr a u f⟩
 have fz:∀ {a:Addr} {o:HO},C.Fr a=some o→Z' a=none∧a∉loc'∧H' a=some o:=fun {a o} h=>by
  obtain⟨q1,q2⟩:=r.mC h
  have e:=r.fr a o h
  obtain⟨q3,q4,q5⟩:=z0 q1 q2 (by rw[e];simp)
  exact⟨q3,q4,q5.trans e⟩
 refine⟨fun a o h=>(fz h).2.2,r'.zh,fun a o h=>?_,r'.lk,r'.ln,r'.nd,fun a h=>⟨(r'.lh a h).1,?_⟩,r'.cl,fun i x h=>?_,fun i o h=>?_,r.oi,r.ls⟩
 ·cases e:C.Fr a with
  | none=>rfl
  | some u=>rw[(fz e).1]at h;cases h
 ·cases e:C.Fr a with
  | none=>rfl
  | some u=>exact absurd h (fz e).2.1
 ·obtain⟨v,q1,q2⟩:=r.vl i x h
  exact⟨v,q1,bX.mono g x q2⟩
 ·obtain⟨a,q1,q2,q3,q4,q5,q6⟩:=r.ow i o h
  obtain⟨w1,w2,w3⟩:=z0 q4 q6 (j4 q2 q3)
  exact⟨a,q1,q2,(q3.at w3).mono g (Same.refl _),w1,q5,w2⟩
theorem bM.back(r:SR C Z loc s sv H){E:XK}{st:List Ob}{rv:RV}{v:V}(r':SR (fX C.cA (gy H Z loc) C.H0 E) Z' loc' ⟨[],st⟩ [] H')(q:bM (fX C.cA (gy H Z loc) C.H0 E) Z' loc' ⟨[],st⟩ [] H' rv v):bM C Z' loc' ⟨s.sg,st⟩ sv H' rv v:=by
 cases rv with
 | val x=>exact q
 | own i=>exact absurd (show([]:L2.St)[i]? =some (some v)from q) (by simp)
 | new o=>
  obtain⟨a,h1,h2,h3,h4⟩:=q
  refine⟨a,h1,h2,h3,h4.z,?_,h4.l,fun i o h e=>?_⟩
  ·cases e:C.Fr a with
   | none=>rfl
   | some u=>
    obtain⟨q1,q2⟩:=r.mC e
    have:=(oU (H:=H) q1 q2).trans (r.fr a u e)
    have f:=h4.f
    rw[show(fX C.cA (gy H Z loc) C.H0 E).Fr a=_ from this]at f
    cases f
  ·obtain⟨b,q1,q2,q3,q4,q5,q6⟩:=r.ow i o h
   rw[e]at q1
   cases q1
   have f:=h4.f
   rw[show(fX C.cA (gy H Z loc) C.H0 E).Fr a=_ from oU q4 q6]at f
   exact j4 q2 q3 f
def fm(g:Fn)(args:List Val)(s:State):Res RV:=
 match g args s.st with
 | .ok r s2=>.ok r ⟨s.sg,s2.st⟩
 | _=>.stuck
def bh(n:Nat)(fs:State→Res (List RV))(g:Fn)(s:State):Res RV:=(fs s).bind fun rs s=>(bc rs s).bind fun args s=>if args.length=n then fm g args s else .stuck
theorem cV.at{fs:State→Res (List RV)}{k:List RV→State→Res RV}{Q:VK}(h:au C (fun s=>(fs s).bind k) sv H Q):
  cV C fs sv H fun vs H1=>∃ Z loc s xs,SR C Z loc s sv H1∧iX C Z loc s sv H1 xs vs∧EPost C Z loc sv (k xs s) Q:=by
 obtain⟨Z,loc,s,r,q⟩:=h
 refine⟨Z,loc,s,r,?_⟩
 cases e:fs s with
 | stuck=>simp only[e,Res.bind]at q;exact q
 | exc x s1=>simp only[e,Res.bind]at q;exact q
 | ok xs s1=>
  simp only[e,Res.bind]at q
  exact fun Z' l' H' vs g r' q'=>⟨Z',l',s1,xs,r',q',EPost.ext q g⟩
theorem KC{g:Fn}{n:Nat}{args:List Val}{vs:List V}{Q:VK}(r:SR C Z loc s sv H)(q:aY C.cA Z loc args vs)(hn:args.length=n)(h:EPost C Z loc sv (fm g args s) Q):bP C.cA n g vs H Q E0:=by
 refine⟨gy H Z loc,C.H0,Z,loc,args,s.st,r.entry _,q,hn,?_⟩
 unfold fm at h
 cases e:g args s.st with
 | stuck=>rw[e]at h;exact h
 | exc x s1=>rw[e]at h;exact h.elim
 | ok rv s1=>
  rw[e]at h
  exact fun Z' l' H' v g r' q'=>h Z' l' H' v g (r.back g r') (bM.back r r' q')
theorem OA{CX:CXT}{k:Nat}{fA:Addr}{fd:FuncData}{ps:List Str}{x:Str}{g:Fn}{fs:State→Res (List RV)}(F:FnOk X.prog X.w X.K X.mg X.base CX k fA fd ps (bP C.cA ps.length g))(hr:Room k X.A)(hg:Gl X x)(hm:X.mg x=some (.ref fA))(hk:PySem.W.keepIn X.K (.ref fA)=true)
  (hb:Binds X.K fd ps []) (hx:Passes CX X E0) (ha:PA X (e::es) (cV C fs)) (hdb:(x==("__debug__":Str))=false) (hs:(e::es).all notStar=true):
  PE X (.Call (.Name x p) (e::es) [] pos) (au C (bh ps.length fs g)):=by
 have hs':=hs
 simp only[List.all_cons,Bool.and_eq_true]at hs
 refine bq (pe_call F hr hg hm hk hb .nil hx ha hdb (bx hs.1) (eW hs.2)) fun sv H Q h=>(cV.at h).imp fun vs H1 ⟨Z,loc,s,xs,r,q,h⟩=>?_
 rw[List.append_nil]
 cases e1:bc xs s with
 | stuck=>rw[e1]at h;exact h.elim
 | exc x s1=>exact absurd e1 ie
 | ok args s1=>
  rw[e1]at h
  simp only[Res.bind]at h
  obtain⟨Z1,g1,r1,q1⟩:=r.bc q e1
  split at h
  ·rename_i hn
   exact KC r1 q1 hn (EPost.ext h g1)
  ·exact h.elim
end
end Vw
namespace Vw
open PySem L2 PyProof.Rows
def F2:Ob→Bool
 | .lst _=>true
 | .ins _ _=>true
 | _=>false
def Cp(s:State)(r:RV):Option D:=
 match dv s r with
 | some d=>some d
 | none=>match ob s r with
  | some o=>if F2 o then o.toD else none
  | none=>none
def rD(s:State):List RV→Option (List D)
 | []=>some []
 | r::rs=>match Cp s r,rD s rs with
  | some d,some ds=>some (d::ds)
  | _,_=>none
def scal:D→Bool
 | .non=>true
 | .bl _=>true
 | .int _=>true
 | .str _=>true
 | _=>false
def qG(n:Nat)(fs:State→Res (List RV))(g:Fn)(s:State):Res RV:=(fs s).bind fun rs s=>match rD s rs with
 | some ds=>if ds.length=n then(match g (ds.map .d) []with
  | .ok (.val (.d x)) _=>if scal x then .ok (.val (.d x)) s else .stuck
  | _=>.stuck)else .stuck
 | none=>.stuck
section
variable{C:Cst}{Z Z' Zc:Hp}{loc loc':List Addr}{s s':State}{sv sv':L2.St}{H H':Hp}
variable{X:Cx}{e a b c o:Expr}{es:List Expr}{p pos apos:Pos}{f fa fb fc fo fi fv:State→Res RV}
theorem SR.UY(r:SR C Z loc s sv H){rv:RV}{v:V}{o:Ob}(h:bM C Z loc s sv H rv v)(e:Vw.ob s rv=some o):∃ a,v=.ref a∧o≠ .gone∧Cell C.cA Z loc H a o∧Z a=none:=by
 have q:=r.kj h
 unfold Vw.ob at e
 split at e
 ·rename_i i e1
  rw[e1]at q
  split at e
  ·rename_i o' e2
   cases e
   obtain⟨a,h1,h2,h3,h4,_⟩:=r.ow i _ e2
   rw[show sv[i]? =some (some v)from q]at h1
   cases h1
   exact⟨a,rfl,h2,h3,h4⟩
  ·cases e
 ·rename_i n e1
  rw[e1]at q
  obtain⟨a,h1,h2⟩:=q
  split at e
  ·cases e
  ·rename_i o' ne e2
   cases e
   exact⟨a,h2,ne,r.cl n a _ h1 e2 ne⟩
  ·cases e
 ·cases e
structure GoodZ (Z H Zc:Hp):Prop where
 up:Same Z Zc
 at_:∀ (a:Addr) (o:HO),Zc a=some o→Z a=some o∨(H a=some o∧qv o=false)
theorem GoodZ.refl:GoodZ Z H Z:=⟨Same.refl _,fun a o h=>.inl h⟩
theorem GoodZ.rz(g:GoodZ Z H Zc)(r:SR C Z loc s sv H){a:Addr}{o:HO}(h:Zc a=some o):Rz H a o:=(g.at_ a o h).elim (r.zh a o) fun q=>.inl q.1
theorem GZ{cA:String→Addr}{o:Ob}(p:F2 o=true){a:Addr}(h:Cell cA Z loc H a o):∃ u,H a=some u∧qv u=false:=by
 cases o with
 | lst l=>obtain⟨xs,e,_⟩:=h;exact⟨_,e,rfl⟩
 | ins c l=>obtain⟨dx,xs,e,_⟩:=h;exact⟨_,e,rfl⟩
 | dic k l=>cases p
 | dit k l=>cases p
 | gone=>cases p
theorem SR.Cp(r:SR C Z loc s sv H)(g:GoodZ Z H Zc){rv:RV}{v:V}{d:D}(h:bM C Z loc s sv H rv v)(e:Vw.Cp s rv=some d):∃ Zd,Same Zc Zd∧GoodZ Z H Zd∧bK C.cA Zd d v:=by
 unfold Vw.Cp at e
 split at e
 ·rename_i d' e1
  cases e
  exact⟨Zc,Same.refl _,g,bK.mono g.up _ (r.dv h e1)⟩
 ·split at e
  ·rename_i o e1
   split at e
   ·rename_i p
    obtain⟨a,rfl,ne,cell,z⟩:=r.UY h e1
    obtain⟨u,h1,h2⟩:=DH cell e z
    obtain⟨u',h3,h4⟩:=GZ p cell
    rw[h1]at h3
    cases h3
    cases ez:Zc a with
    | none=>
     refine⟨upd Zc a u,bI ez,⟨g.up.trans (bI ez),fun b w hb=>?_⟩,bK.mono (fun b w hb=>?_) d h2⟩
     ·by_cases hba:b=a
      ·subst hba
       rw[upd_same]at hb
       cases hb
       exact .inr ⟨h1,h4⟩
      ·rw[upd_ne hba]at hb
       exact g.at_ b w hb
     ·by_cases hba:b=a
      ·subst hba
       rw[upd_same]at hb ⊢
       exact hb
      ·rw[upd_ne hba]at hb ⊢
       exact g.up b w hb
    | some w=>
     have hw:w=u:=by
      rcases g.at_ a w ez with q | ⟨q,_⟩
      ·rw[z]at q;cases q
      ·rw[h1]at q;cases q;rfl
     subst hw
     refine⟨Zc,Same.refl _,g,bK.mono (fun b w' hb=>?_) d h2⟩
     by_cases hba:b=a
     ·subst hba
      rw[upd_same]at hb
      rw[ez];exact hb
     ·rw[upd_ne hba]at hb
      exact g.up b w' hb
   ·cases e
  ·cases e
theorem SR.rD(r:SR C Z loc s sv H):∀ {Zc:Hp} {rs:List RV} {vs:List V} {ds:List D},GoodZ Z H Zc→iX C Z loc s sv H rs vs→Vw.rD s rs=some ds→∃ Zd,Same Zc Zd∧GoodZ Z H Zd∧dQ C.cA Zd ds vs
 | Zc,[],vs,ds,g,h,e=>by cases e;exact⟨Zc,Same.refl _,g,h⟩
 | Zc,x::l,vs,ds,g,⟨v,t,e1,st,q,h⟩,e=>by
  unfold Vw.rD at e
  split at e
  ·rename_i d ds' e2 e3
   cases e
   obtain⟨Z1,s1,g1,r1⟩:=r.Cp g q e2
   obtain⟨Z2,s2,g2,r2⟩:=SR.rD r g1 h e3
   exact⟨Z2,s1.trans s2,g2,v,t,e1,bK.mono s2 d r1,r2⟩
  ·cases e
theorem u3{cA:String→Addr}:∀ {ds:List D} {vs:List V},dQ cA Z ds vs→aY cA Z [] (ds.map .d) vs
 | [],vs,h=>h
 | d::ds,vs,⟨v,t,e,q,h⟩=>⟨v,t,e,q,u3 h⟩
theorem SR.look(r:SR C Z loc s sv H)(g:GoodZ Z H Zc)(E:XK):SR (fX C.cA (gy H Zc []) C.H0 E) Zc [] ⟨[],[]⟩ [] H:=by
 refine⟨fun a o h=>(m9 h).1,fun a o h=>g.rz r h,fun a o h=>?_,r.lk,rfl,List.nodup_nil,fun a h=>by simp at h,fun n a o h=>by simp at h,fun i x h=>by simp at h,fun i o h=>by simp at h,fun i j o o' a h=>by simp at h,rfl⟩
 cases e:gy H Zc [] a with
 | none=>exact e
 | some u=>rw[(m9 e).2.1]at h;cases h
theorem SR.looked(r:SR C Z loc s sv H)(g:GoodZ Z H Zc){E:XK}{st:List Ob}{Zd:Hp}{ld:List Addr}(x:Ext Zc [] Zd ld)(r':SR (fX C.cA (gy H Zc []) C.H0 E) Zd ld ⟨[],st⟩ [] H'):SR C Z loc s sv H':=by
 have st:∀ {a:Addr} {u:HO},H a=some u→Z a=none→H' a=H a:=fun {a u} h hz=>by
  cases ez:Zc a with
  | none=>rw[h];exact r'.fr a u ((oU ez (by simp)).trans h)
  | some w=>
   rcases g.at_ a w ez with q | ⟨q1,q2⟩
   ·rw[hz]at q;cases q
   ·rw[q1];exact(r'.zh a w (x.1 a w ez)).at q2
 have ne:∀ {a:Addr},H a≠none→H' a≠none:=fun {a} h=>by
  cases eh:H a with
  | none=>exact absurd eh h
  | some u=>
   cases ez:Z a with
   | none=>rw[st eh ez];exact h
   | some w=>exact Ah (r'.zh a w (x.1 a w (g.up a w ez)))
 refine⟨fun a o h=>?_,fun a o h=>r'.zh a o (x.1 a o (g.up a o h)),r.zf,r'.lk,r.ln,r.nd,fun a h=>⟨ne (r.lh a h).1,(r.lh a h).2⟩,fun n a o h1 h2 h3=>?_,r.vl,fun i o h=>?_,r.oi,r.ls⟩
 ·have q:=r.fr a o h
  rw[st q (r.mC h).1];exact q
 ·obtain⟨q1,q2⟩:=r.cl n a o h1 h2 h3
  cases eh:H a with
  | none=>exact absurd eh (j4 h3 q1)
  | some u=>exact⟨q1.at (st eh q2),q2⟩
 ·obtain⟨a,q1,q2,q3,q4,q5⟩:=r.ow i o h
  cases eh:H a with
  | none=>exact absurd eh (j4 q2 q3)
  | some u=>exact⟨a,q1,q2,q3.at (st eh q4),q4,q5⟩
theorem CT{cA:String→Addr}{d:D}{v:V}(p:scal d=true)(h:bK cA Z' d v):bK cA Z d v:=by
 cases d<;> first | exact h | cases p
theorem MS{g:Fn}{n:Nat}{rs:List RV}{ds:List D}{vs:List V}{Q:VK}(r:SR C Z loc s sv H)(q:iX C Z loc s sv H rs vs)(e:rD s rs=some ds)(hn:ds.length=n)
  (h:EPost C Z loc sv (match g (ds.map .d) []with | .ok (.val (.d x)) _=>if scal x then .ok (.val (.d x)) s else .stuck | _=>.stuck) Q):bP C.cA n g vs H Q E0:=by
 obtain⟨Zc,_,gz,q1⟩:=r.rD (GoodZ.refl) q e
 refine⟨gy H Zc [],C.H0,Zc,[],ds.map .d,[],r.look gz _,u3 q1,by simpa using hn,?_⟩
 split at h
 ·rename_i x s1 e1
  rw[e1]
  split at h
  ·rename_i p
   exact fun Z' l' H' v g r' q'=>h Z loc H' v (Ext.refl _ _) (r.looked gz g r') (CT (Z:=Z) p q')
  ·exact h.elim
 ·exact h.elim
theorem N8{CX:CXT}{k:Nat}{fA:Addr}{fd:FuncData}{ps:List Str}{x:Str}{g:Fn}{fs:State→Res (List RV)}(F:FnOk X.prog X.w X.K X.mg X.base CX k fA fd ps (bP C.cA ps.length g))(hr:Room k X.A)(hg:Gl X x)(hm:X.mg x=some (.ref fA))(hk:PySem.W.keepIn X.K (.ref fA)=true)
  (hb:Binds X.K fd ps []) (hx:Passes CX X E0) (ha:PA X (e::es) (cV C fs)) (hdb:(x==("__debug__":Str))=false) (hs:(e::es).all notStar=true):
  PE X (.Call (.Name x p) (e::es) [] pos) (au C (qG ps.length fs g)):=by
 have hs':=hs
 simp only[List.all_cons,Bool.and_eq_true]at hs
 refine bq (pe_call F hr hg hm hk hb .nil hx ha hdb (bx hs.1) (eW hs.2)) fun sv H Q h=>(cV.at h).imp fun vs H1 ⟨Z,loc,s,xs,r,q,h⟩=>?_
 rw[List.append_nil]
 split at h
 ·rename_i ds e1
  split at h
  ·rename_i hn
   exact MS r q e1 hn h
  ·exact h.elim
 ·exact h.elim
end
end Vw
namespace Vw
open PySem L2 PyProof.Rows
def fQ(g:Slots):List Nat→Slots
 | []=>g
 | v::vs=>(fQ g vs).set v none
def bG(vs:List Nat)(s:State):State:={ s with sg:=fQ s.sg vs }
def tW(vs:List Nat)(t:Tg)(ft:State→Res Bool)(fe:State→Res RV):List Val→List Val→State→Res (List Val)
 | [],acc,s=>.ok acc s
 | x::l,acc,s=>match gE t x (bG vs s)with
  | none=>.stuck
  | some s=>match ft s with
   | .ok true s=>match fe s with
    | .ok rv s=>match cf rv s with
     | .ok y s=>if acc.length<sizeLine then tW vs t ft fe l (acc++[y]) (bG vs s)else .stuck
     | _=>.stuck
    | _=>.stuck
   | .ok false s=>tW vs t ft fe l acc (bG vs s)
   | _=>.stuck
def A0(acc:List Val)(s:State):Res RV:=.ok (.new (.lst acc)) s
def jZ(vs:List Nat)(t:Tg)(src:State→Res (List Val))(ft:State→Res Bool)(fe:State→Res RV)(s:State):Res RV:=(src s).bind fun l s=>(tW vs t ft fe l [] (bG vs s)).bind A0
section
variable{C:Cst}{Z Z' Zc:Hp}{loc loc':List Addr}{s s':State}{sv sv':L2.St}{H H':Hp}
variable{X:Cx}{elt tg iter:Expr}{ifs:List Expr}{scope:Scope}{own:List (Str×Nat)}{p pos:Pos}{f fa fb fc fo fi fv fe:State→Res RV}{ft:State→Res Bool}
theorem SR.wipe(r:SR C Z loc s sv H):∀ vs:List Nat,SR C Z loc (bG vs s) (L2.wipe sv vs) H
 | []=>r
 | v::vs=>(SR.wipe r vs).unset v none
theorem yQ{g:Slots}{i:Nat}{x:Sl}:∀ {vs:List Nat},(fQ g vs)[i]? =some (some x)→g[i]? =some (some x)
 | [],h=>h
 | v::vs,h=>by
  unfold fQ at h
  rcases da h with⟨_,q⟩ | ⟨_,q⟩
  ·cases q
  ·exact yQ q
theorem SR.DO{vs:List Nat}(r:SR C Z loc s (L2.wipe sv vs) H):SR C Z loc s sv H:=by
 refine⟨r.fr,r.zh,r.zf,r.lk,r.ln,r.nd,r.lh,r.cl,fun i x h=>?_,fun i o h=>?_,fun i j o o' a h h' h1 h2=>?_,by rw[r.ls,wipe_length]⟩
 ·obtain⟨v,q1,q2⟩:=r.vl i x h
  exact⟨v,(wipe_some q1).1,q2⟩
 ·obtain⟨a,q1,q2⟩:=r.ow i o h
  exact⟨a,(wipe_some q1).1,q2⟩
 ·obtain⟨b,q1,_⟩:=r.ow i o h
  obtain⟨c,q2,_⟩:=r.ow j o' h'
  have e1:=(wipe_some q1).1
  have e2:=(wipe_some q2).1
  rw[h1]at e1
  rw[h2]at e2
  cases e1;cases e2
  exact r.oi i j o o' _ h h' q1 q2
theorem Free.wipe{D:Addr}(f:Free C Z loc s sv D)(vs:List Nat):Free C Z loc (bG vs s) (L2.wipe sv vs) D:=
 ⟨f.z,f.f,f.l,fun i o h e=>f.o i o (yQ h) (wipe_some e).1⟩
theorem Ar{i:Nat}:∀ {vs:List Nat},i∈vs→i<sv.length→(L2.wipe sv vs)[i]? =some none
 | [],h,_=>by simp at h
 | v::vs,h,hl=>by
  unfold L2.wipe
  by_cases hv:v=i
  ·subst hv
   exact List.getElem?_set_self (by rw[wipe_length];exact hl)
  ·rw[List.getElem?_set_ne hv]
   exact Ar (by simpa [Ne.symm hv]using h) hl
theorem xl{vs l:List Nat}(h:Off l (L2.wipe sv vs) sv')(hl:∀ i∈l,i∈vs):L2.wipe sv' vs=L2.wipe sv vs:=by
 have len:sv'.length=sv.length:=by rw[h.1,wipe_length]
 refine List.ext_getElem? fun i=>?_
 by_cases hi:i<sv.length
 ·by_cases hv:i∈vs
  ·rw[Ar hv hi,Ar hv (by rw[len];exact hi)]
  ·rw[wipe_out hv,h.2 i fun z=>hv (hl i z)]
 ·rw[List.getElem?_eq_none (by rw[wipe_length,len];omega),List.getElem?_eq_none (by rw[wipe_length];omega)]
theorem qP(vs:List Nat):L2.wipe (L2.wipe sv vs) vs=L2.wipe sv vs:=xl (l:=vs) ⟨rfl,fun _ _=>rfl⟩ fun _ h=>h
def oq(C:Cst)(D:Addr)(o:HO):Cst:=⟨C.cA,upd C.Fr D o,C.H0,fun _ _ _ _=>False⟩
theorem SR.hold(r:SR C Z loc s sv H){D:Addr}{o:HO}(h:H D=some o)(f:Free C Z loc s sv D):SR (oq C D o) Z loc s sv H:=by
 have ne:∀ {a:Addr},a≠D→(oq C D o).Fr a=C.Fr a:=fun {a} h=>upd_ne h
 refine⟨fun a u q=>?_,r.zh,fun a u q=>?_,r.lk,r.ln,r.nd,fun a q=>⟨(r.lh a q).1,?_⟩,r.cl,r.vl,fun i ob q=>?_,r.oi,r.ls⟩
 ·by_cases ha:a=D
  ·subst ha
   have q:upd C.Fr a o a=some u:=q
   rw[upd_same]at q
   cases q
   exact h
  ·rw[ne ha]at q;exact r.fr a u q
 ·have ha:a≠D:=fun z=>by rw[z,f.z]at q;cases q
  rw[ne ha];exact r.zf a u q
 ·have ha:a≠D:=fun z=>f.l (z▸q)
  rw[ne ha];exact(r.lh a q).2
 ·obtain⟨a,q1,q2,q3,q4,q5,q6⟩:=r.ow i ob q
  have ha:a≠D:=fun z=>f.o i ob q (z▸q1)
  exact⟨a,q1,q2,q3,q4,(ne ha).trans q5,q6⟩
theorem SR.held{D:Addr}{o:HO}(f:C.Fr D=none)(r:SR (oq C D o) Z loc s sv H):SR C Z loc s sv H∧H D=some o∧Free C Z loc s sv D:=by
 have ne:∀ {a:Addr},(oq C D o).Fr a=none→a≠D∧C.Fr a=none:=fun {a} h=>by
  have ha:a≠D:=fun z=>by
   subst z
   have h:upd C.Fr a o a=none:=h
   rw[upd_same]at h
   cases h
  exact⟨ha,(upd_ne ha).symm.trans h⟩
 have hD:(oq C D o).Fr D=some o:=upd_same
 refine⟨⟨fun a u q=>?_,r.zh,fun a u q=>(ne (r.zf a u q)).2,r.lk,r.ln,r.nd,fun a q=>⟨(r.lh a q).1,(ne (r.lh a q).2).2⟩,r.cl,r.vl,fun i ob q=>?_,r.oi,r.ls⟩,r.fr D o hD,⟨?_,f,fun z=>?_,fun i ob q e=>?_⟩⟩
 ·have ha:a≠D:=fun z=>by rw[z,f]at q;cases q
  exact r.fr a u ((upd_ne ha).trans q)
 ·obtain⟨a,q1,q2,q3,q4,q5,q6⟩:=r.ow i ob q
  exact⟨a,q1,q2,q3,q4,(ne q5).2,q6⟩
 ·cases e:Z D with
  | none=>rfl
  | some u=>rw[r.zf D u e]at hD;cases hD
 ·rw[(r.lh D z).2]at hD;cases hD
 ·obtain⟨a,q1,q2,q3,q4,q5,q6⟩:=r.ow i ob q
  rw[e]at q1
  cases q1
  exact(ne q5).1 rfl
theorem SR.Lb(r:SR C Z loc s sv H){D:Addr}{o u:HO}(h:H D=some o)(nf:∀ x w,o≠ .frz x w)(f:Free C Z loc s sv D):SR C Z loc s sv (upd H D u):=by
 refine⟨fun a w q=>?_,fun a w q=>?_,r.zf,fun a w v q=>?_,r.ln,r.nd,fun a q=>⟨?_,(r.lh a q).2⟩,fun n a ob h1 h2 h3=>?_,r.vl,fun i ob q=>?_,r.oi,r.ls⟩
 ·have ha:a≠D:=fun z=>by rw[z,f.f]at q;cases q
  rw[upd_ne ha];exact r.fr a w q
 ·have ha:a≠D:=fun z=>by rw[z,f.z]at q;cases q
  unfold Rz
  rw[upd_ne ha];exact r.zh a w q
 ·have q':=r.lk a w v q
  have ha:a≠D:=fun z=>by
   rw[z,h]at q'
   cases q'
   exact nf _ _ rfl
  rw[upd_ne ha];exact q'
 ·have ha:a≠D:=fun z=>f.l (z▸q)
  rw[upd_ne ha];exact(r.lh a q).1
 ·have ha:a≠D:=fun z=>f.l (z▸List.mem_of_getElem? h1)
  obtain⟨q1,q2⟩:=r.cl n a ob h1 h2 h3
  exact⟨q1.at (upd_ne ha),q2⟩
 ·obtain⟨a,q1,q2,q3,q4,q5,q6⟩:=r.ow i ob q
  have ha:a≠D:=fun z=>f.o i ob q (z▸q1)
  exact⟨a,q1,q2,q3.at (upd_ne ha),q4,q5,q6⟩
theorem Free.O6{D:Addr}{o:HO}(f:Free C Z loc s sv D)(h:H D=some o)(g:rA H Z H' Z'):Free C Z' loc s sv D:=⟨(g.2 D (by rw[h];simp)).trans f.z,f.f,f.l,f.o⟩
def eD(s:State):Res Bool:=.ok true s
theorem pQ:PTs X [] (dM C eD):=⟨fun pins s sv H Q I ⟨Z,loc,s0,r,q⟩=>pts_nil.run pins s sv H Q I (q Z loc H (Ext.refl _ _) r)⟩
theorem OG{c:Expr}(h:PT X c (dM C ft)):PTs X [c] (dM C ft):=pts_one h
abbrev AR(C:Cst)(t:Tg):TG:=fun v sv H Q=>∃ C',C'.cA=C.cA∧qC C' t v sv H Q
abbrev KH(C:Cst)(ft:State→Res Bool):TT:=fun sv H Q=>∃ C',C'.cA=C.cA∧dM C' ft sv H Q
abbrev Le(C:Cst)(fe:State→Res RV):TE:=fun sv H Q=>∃ C',C'.cA=C.cA∧au C' fe sv H Q
theorem Hr{t:Tg}{src:State→Res (List Val)}{vs:List Nat}{Q:VK}(hv:∀ i∈wD t,i∈vs)(h:au C (jZ vs t src ft fe) sv H Q):tLc (lD C src) (AR C t) (KH C ft) (Le C fe) vs sv H Q:=by
 obtain⟨Z,loc,s,r,q⟩:=h
 refine⟨Z,loc,s,r,?_⟩
 unfold jZ at q
 cases e:src s with
 | stuck=>rw[e]at q;exact q
 | exc x s1=>rw[e]at q;exact q
 | ok l s1=>
  rw[e]at q
  simp only[Res.aa]at q
  intro Z1 l1 H1 C' J G Y cle g1 r1 wk D hD
  have hf:=((r1.wipe vs).free hD)
  have cF:C'.Fr D=none:=hf.f
  refine lc_it (g:=AR C t) (tt:=KH C ft) (te:=Le C fe) (vs:=vs) (σ:=sv) wk.w (fun i H=>∃ Z2 l2 s2 acc xs,Ext Z1 l1 Z2 l2∧SR C' Z2 l2 s2 (L2.wipe sv vs) H∧H D=some (.lst xs)∧Free C' Z2 l2 s2 (L2.wipe sv vs) D∧aY C'.cA Z2 l2 acc xs∧EPost C Z2 l2 sv ((tW vs t ft fe (l.drop i) acc s2).bind A0) Q)
   ⟨Z1,l1,bG vs s1,[],[],Ext.refl _ _,(r1.wipe vs).grow (bI hD),upd_same,hf,rfl,EPost.ext q g1⟩ (fun i H _ ⟨Z2,l2,s2,acc,xs,g2,r2,_⟩=>wk.g Z2 l2 s2 _ H g2 r2) ?_ ?_
  ·rintro i v H2 H3 hi ⟨Z2,l2,s2,acc,xs,g2,r2,hx,f2,ra,q2⟩ hy
   rw[List.drop_eq_getElem_cons hi]at q2
   obtain⟨Z3,g3,gr,r3,q3⟩:=wk.y Z2 l2 s2 _ H2 i l[i] v H3 g2 r2 (by simp[hi]) hy
   have f3:=(f2.O6 hx gr).wipe vs
   rw[qP]at f3
   have r3':=r3.wipe vs
   rw[qP]at r3'
   have hx3:=gr.1 D _ hx
   refine⟨oq C' D (.lst xs),cle.ca,Z3,l2,bG vs s2,l[i],r3'.hold hx3 f3,q3,?_⟩
   unfold tW at q2
   cases e1:gE t l[i] (bG vs s2)with
   | none=>rw[e1]at q2;exact q2
   | some s3=>
    rw[e1]at q2
    intro sv4 off r4
    have we:=xl off hv
    refine⟨we,oq C' D (.lst xs),cle.ca,Z3,l2,s3,r4,?_⟩
    dsimp only at q2
    have q2':=EPost.ext q2 g3
    cases e2:ft s3 with
    | stuck=>rw[e2]at q2';exact q2'
    | exc x s4=>rw[e2]at q2';exact False.elim q2'
    | ok b s4=>
     rw[e2]at q2'
     intro Z5 l5 H5 g5 r5
     cases b with
     | false=>
      obtain⟨r5',hx5,f5⟩:=r5.held cF
      have r6:=r5'.wipe vs
      have f6:=f5.wipe vs
      rw[we]at r6 f6
      exact⟨Z5,l5,bG vs s4,acc,xs,g2.trans (g3.trans g5),r6,hx5,f6,aY.mono (g3.trans g5) _ ra,EPost.ext q2' g5⟩
     | true=>
      refine⟨oq C' D (.lst xs),cle.ca,Z5,l5,s4,r5,?_⟩
      dsimp only at q2'
      cases e3:fe s4 with
      | stuck=>rw[e3]at q2';exact q2'
      | exc x s5=>rw[e3]at q2';exact False.elim q2'
      | ok rv s5=>
       rw[e3]at q2'
       dsimp only at q2'
       intro Z6 l6 H6 v6 g6 r6 q6
       cases e4:cf rv s5 with
       | stuck=>rw[e4]at q2';exact False.elim q2'
       | exc x s6=>rw[e4]at q2';exact False.elim q2'
       | ok y s6=>
        rw[e4]at q2'
        dsimp only at q2'
        obtain⟨Z7,g7,r7,q7⟩:=r6.cf q6 e4
        obtain⟨r8,hx8,f8⟩:=r7.held cF
        have gg:=g3.trans (g5.trans (g6.trans g7))
        have ra':=aY.mono gg _ ra
        split at q2'
        ·rename_i hlt
         refine⟨xs,hx8,by rw[←b7 ra];exact hlt,?_⟩
         have r9:=(r8.Lb (u:=.lst (xs++[v6])) hx8 (fun _ _ z=>nomatch z) f8).wipe vs
         have f9:=f8.wipe vs
         rw[we]at r9 f9
         exact⟨Z7,l6,bG vs s6,acc++[y],xs++[v6],g2.trans gg,r9,upd_same,f9,m6 ra' ⟨v6,[],rfl,q7,rfl⟩,EPost.ext q2' (g5.trans (g6.trans g7))⟩
        ·exact False.elim q2'
  ·rintro H2 ⟨Z2,l2,s2,acc,xs,g2,r2,hx,f2,ra,q2⟩
   rw[List.drop_length]at q2
   refine q2 Z2 l2 H2 (.ref D) (Ext.refl _ _) (SR.le cle r2).DO ⟨D,rfl,by simp,⟨xs,hx,by rw[←cle.ca];exact ra⟩,f2.z,by rw[←cle.fr];exact f2.f,f2.l,fun i o h e=>?_⟩
   obtain⟨b,q1,_⟩:=r2.ow i o h
   have e1:=(wipe_some q1).1
   rw[e]at e1
   cases e1
   exact f2.o i o h q1
theorem C5{i:Nat}{D:Ends}(hi:i<sv.length)(h:dj C (aJ i f) D sv H):au C f sv H fun v H1=>D.nx (sv.set i (some v)) H1:=by
 obtain⟨Z,loc,s,r,q⟩:=h
 refine(au.sN r q).imp fun v H1 ⟨Z1,l1,s1,y,g1,r1,q1,h1⟩=>?_
 unfold uY at h1
 split at h1
 ·rename_i s2 e2
  obtain⟨Z2,g2,r2⟩:=r1.rE hi q1 e2
  exact(h1.ext g2).nx r2
 ·exact h1.elim
structure Blk (X:Cx) (C:Cst) (scope:Scope) (tg elt:Expr) (ifs:List Expr) (t:Tg) (ft:State→Res Bool) (fe:State→Res RV):Prop where
 go:∀ (s:Shared) (H:Hp) (D:Addr) (cl:List (Str×Addr)) (fp:List Addr) (C':Cst),C'.cA=C.cA→
  PG (X.blk s H scope (compEnvC scope cl D X.env) fp) tg (qC C' t)∧PTs (X.blk s H scope (compEnvC scope cl D X.env) fp) ifs (dM C' ft)∧PE (X.blk s H scope (compEnvC scope cl D X.env) fp) elt (au C' fe)
theorem SU{t:Tg}{src:State→Res (List Val)}(hc:X.calm=true)(hN:X.N.Nodup)(hi:PI X tg iter (lD C src))(ok:BlkOk X.N X.env.scope scope own)(hb:Blk X C scope tg elt ifs t ft fe)(hs:cw iter=true)(hv:∀ i∈wD t,i∈own.map (·.2)):
  PE X (.ListComp elt [⟨tg,iter,ifs,0⟩] scope pos) (au C (jZ (own.map (·.2)) t src ft fe)):=
 bq (pe_lc (g:=AR C t) (tt:=KH C ft) (te:=Le C fe) hc hN hi ok
  (fun s H D cl fp=>⟨fun pins s0 sv H0 v u Q I r ⟨C',c,q⟩=>(hb.go s H D cl fp C' c).1.run pins s0 sv H0 v u Q I r q⟩)
  (fun s H D cl fp=>⟨fun pins s0 sv H0 Q I ⟨C',c,q⟩=>(hb.go s H D cl fp C' c).2.1.run pins s0 sv H0 Q I q⟩)
  (fun s H D cl fp=>⟨fun pins s0 sv H0 Q I ⟨C',c,q⟩=>(hb.go s H D cl fp C' c).2.2.run pins s0 sv H0 Q I q⟩) (fold_ok hs)) fun sv H Q h=>Hr hv h
theorem MD{t:Tg}{src:State→Res (List Val)}{i:Nat}{y:Str}{py spos:Pos}(hc:X.calm=true)(hN:X.N.Nodup)(hy:X.N[i]? =some y)(hyl:X.env.scope.names.lookup y=some .local)(hk:X.env.scope.kind=.function)
  (hl:(py.line==pos.line)=true) (ha:(scope.names.any fun(n,k)=>n==y&&(k== .local||k== .cell))=false)
  (hi:PI X tg iter (lD C src)) (ok:BlkOk X.N X.env.scope scope own) (hb:Blk X C scope tg elt ifs t ft fe) (hs:cw iter=true) (hv:∀ i∈wD t,i∈own.map (·.2)):
  PS X (.Assign [.Name y py] (.ListComp elt [⟨tg,iter,ifs,0⟩] scope pos) spos) (dj C (aJ i (jZ (own.map (·.2)) t src ft fe))):=by
 refine sT (ps_setLc (i:=i) (g:=AR C t) (tt:=KH C ft) (te:=Le C fe) hc hN hy hyl (sw_true hk hyl hl ha) hi ok
  (fun s H D cl fp=>⟨fun pins s0 sv H0 v u Q I r ⟨C',c,q⟩=>(hb.go s H D cl fp C' c).1.run pins s0 sv H0 v u Q I r q⟩)
  (fun s H D cl fp=>⟨fun pins s0 sv H0 Q I ⟨C',c,q⟩=>(hb.go s H D cl fp C' c).2.1.run pins s0 sv H0 Q I q⟩)
  (fun s H D cl fp=>⟨fun pins s0 sv H0 Q I ⟨C',c,q⟩=>(hb.go s H D cl fp C' c).2.2.run pins s0 sv H0 Q I q⟩) (fold_ok hs)) fun D sv H hl h=>?_
 exact Hr hv (C5 (by rw[hl];exact(List.getElem?_eq_some_iff.mp hy).1) h)
end
end Vw
namespace Vw
open PySem L2 PyProof.Rows
def bW(fs:State→Res (List RV))(b:List RV→State→Res RV)(s:State):Res RV:=(fs s).bind b
def fY(T:String)(fo:State→Res RV)(fs:State→Res (List RV))(b:RV→List RV→State→Res RV)(ty:State→RV→Bool)(s:State):Res RV:=
 (ev fo s).bind fun o s=>if ty s o then(fs s).bind fun rs s=>b o rs s else .stuck
def ky(s:State)(r:RV):Bool:=match dv s r with
 | some (.str _)=>true
 | _=>false
def dZ(s:State)(r:RV):Bool:=(lv s r).isSome
def intsOf:List Val→Option (List Int)
 | []=>some []
 | .d (.int i)::r=>(intsOf r).map (i:: ·)
 | _=>none
def qx:List Val→Option (List Bool)
 | []=>some []
 | .d (.bl i)::r=>(qx r).map (i:: ·)
 | _=>none
def strsOf:List Val→Option (List (List Nat))
 | []=>some []
 | .d (.str i)::r=>(strsOf r).map (i:: ·)
 | _=>none
def sq(s:State)(r:RV):Option (List Val):=
 match lv s r with
 | some l=>some l
 | none=>tv s r
def de(rs:List RV)(s:State):Res RV:=
 match rs with
 | [x]=>match dv s x with
  | some (.str t)=>if t.length≤sizeLine then aS (.int t.length) s else .stuck
  | _=>match sq s x with
   | some l=>aS (.int l.length) s
   | none=>.stuck
 | _=>.stuck
def Qa(rs:List RV)(s:State):Res RV:=
 match rs with
 | [x]=>match sq s x with
  | some l=>.ok (.new (.lst l)) s
  | none=>.stuck
 | _=>.stuck
def To(rs:List RV)(s:State):Res RV:=
 match rs with
 | [x]=>match dv s x with
  | some (.int i)=>aS (.int (if i<0 then-i else i)) s
  | _=>.stuck
 | _=>.stuck
def Qn(rs:List RV)(s:State):Res RV:=
 match rs with
 | [x,y]=>match dv s x,dv s y with
  | some (.int i),some (.int j)=>aS (.int (if j > i then j else i)) s
  | _,_=>.stuck
 | _=>.stuck
def Og:List Int→Int
 | []=>0
 | x::r=>r.foldl max x
def Qs(rs:List RV)(s:State):Res RV:=
 match rs with
 | [x]=>match (lv s x).bind intsOf with
  | some (n::ns)=>aS (.int (Og (n::ns))) s
  | _=>.stuck
 | _=>.stuck
def GC(rs:List RV)(s:State):Res RV:=
 match rs with
 | [x]=>match (lv s x).bind qx with
  | some ns=>aS (.bl (ns.all id)) s
  | _=>.stuck
 | _=>.stuck
def cO(i:Int):List Nat:=(Str.ofString (toString i)).cps.toList
def xP(rs:List RV)(s:State):Res RV:=
 match rs with
 | [x]=>match dv s x with
  | some (.int i)=>if i.natAbs.log2<1920 then aS (.str (cO i)) s else .stuck
  | _=>.stuck
 | _=>.stuck
def bAppend(o:RV)(rs:List RV)(s:State):Res RV:=
 match rs with
 | [x]=>(cf x s).bind fun y s=>match ob s o with
  | some (.lst l)=>if l.length<sizeLine then .ok (.val (.d .non)) (wr o (.lst (l++[y])) s)else .stuck
  | _=>.stuck
 | _=>.stuck
def zo(o:RV)(rs:List RV)(s:State):Res RV:=
 match rs with
 | []=>match ob s o with
  | some (.lst l)=>match l[l.length- 1]? with
   | some y=>.ok (.val y) (wr o (.lst l.dropLast) s)
   | none=>.stuck
  | _=>.stuck
 | _=>.stuck
section
variable{C:Cst}{Z Z' Zc:Hp}{loc loc':List Addr}{s s':State}{sv sv':L2.St}{H H':Hp}
variable{X:Cx}{e a b c o:Expr}{es:List Expr}{p pos apos:Pos}{f fa fb fc fo fi fv:State→Res RV}{fs:State→Res (List RV)}
def sJ(C:Cst)(b:List RV→State→Res RV)(r:List V→Hp→VK→Prop):Prop:=∀ (Z:Hp) (loc:List Addr) (s:State) (sv:L2.St) (H:Hp) (rs:List RV) (vs:List V) (Q:VK),SR C Z loc s sv H→iX C Z loc s sv H rs vs→EPost C Z loc sv (b rs s) Q→r vs H Q
def MtS(C:Cst)(b:RV→List RV→State→Res RV)(r:V→List V→Hp→VK→Prop):Prop:=∀ (Z:Hp) (loc:List Addr) (s:State) (sv:L2.St) (H:Hp) (o:RV) (v:V) (rs:List RV) (vs:List V) (Q:VK),SR C Z loc s sv H→bM C Z loc s sv H o v→iX C Z loc s sv H rs vs→EPost C Z loc sv (b o rs s) Q→r v vs H Q
def IQ(C:Cst)(T:String)(ty:State→RV→Bool):Prop:=∀ (K:PySem.W.Frag) (Z:Hp) (loc:List Addr) (s:State) (sv:L2.St) (H:Hp) (o:RV) (v:V),SR C Z loc s sv H→bM C Z loc s sv H o v→ty s o=true→tyV K T v H
theorem dX{id:String}{x:Str}{r:List V→Hp→VK→Prop}{bf:List RV→State→Res RV}(hc:CallR X (.builtin id) r)(hS:sJ C bf r)(hg:Gl X x)(hm:X.mg x=none)(hv:bootBuiltins x=some (.builtin id))(ha:PA X (e::es) (cV C fs))(hs:(e::es).all notStar=true)(hn:x≠"__name__")(hdb:(x==("__debug__":Str))=false):
  PE X (.Call (.Name x p) (e::es) [] pos) (au C (bW fs bf)):=by
 have hs':=hs
 simp only[List.all_cons,Bool.and_eq_true]at hs
 exact bq (pe_callB hc hg hm hv ha hn hdb (bx hs.1) (eW hs.2)) fun sv H Q h=>(cV.at h).imp fun vs H1 ⟨Z,loc,s,xs,r,q,h⟩=>hS Z loc s sv H1 xs vs Q r q h
theorem lq{T:String}{x:Str}{r:List V→Hp→VK→Prop}{bf:List RV→State→Res RV}(hc:CallR X (.type T) r)(hS:sJ C bf r)(hg:Gl X x)(hm:X.mg x=none)(hv:bootBuiltins x=some (.type T))(ha:PA X (e::es) (cV C fs))(hs:(e::es).all notStar=true)(hn:x≠"__name__")(hdb:(x==("__debug__":Str))=false):
  PE X (.Call (.Name x p) (e::es) [] pos) (au C (bW fs bf)):=by
 have hs':=hs
 simp only[List.all_cons,Bool.and_eq_true]at hs
 exact bq (pe_callTy hc hg hm hv ha hn hdb (bx hs.1) (eW hs.2)) fun sv H Q h=>(cV.at h).imp fun vs H1 ⟨Z,loc,s,xs,r,q,h⟩=>hS Z loc s sv H1 xs vs Q r q h
theorem LH{T:String}{r:V→List V→Hp→VK→Prop}{bf:RV→List RV→State→Res RV}{ty:State→RV→Bool}{Q:VK}(K:PySem.W.Frag)(hS:MtS C bf r)(hT:IQ C T ty)(h:au C (fY T fo fs bf ty) sv H Q):
  au C fo sv H fun x H1=>tyV K T x H1∧cV C fs sv H1 fun xs H2=>r x xs H2 Q:=by
 obtain⟨Z,loc,s,r,q⟩:=h
 refine(au.nq r q).imp fun v H1 ⟨Z1,l1,s1,y,g1,r1,st1,q1,h1⟩=>?_
 split at h1
 ·rename_i ht
  refine⟨hT K Z1 l1 s1 sv H1 y v r1 q1 ht,?_⟩
  refine⟨Z1,l1,s1,r1,?_⟩
  cases e:fs s1 with
  | stuck=>simp only[e,Res.bind]at h1;exact h1
  | exc x s2=>simp only[e,Res.bind]at h1;exact h1
  | ok xs s2=>
   simp only[e,Res.bind]at h1
   exact fun Z' l' H' vs g r' q'=>hS Z' l' s2 sv H' y v xs vs Q r' (bM.mono g st1 q1) q' (EPost.ext h1 g)
 ·exact h1.elim
theorem gk{T id:String}{name:Str}{r:V→List V→Hp→VK→Prop}{bf:RV→List RV→State→Res RV}{ty:State→RV→Bool}(pa:PlainAttrs T)(slot:Slot T name id)(hty:typeOf (.builtin id)=pure (.type "method_descriptor"))(hm:MtR X id r)(hS:MtS C bf r)(hT:IQ C T ty)
  (ho:PE X o (au C fo)) (ha:PA X (e::es) (cV C fs)) (hb:Hc o=true) (hs:(e::es).all notStar=true) (hl:(e::es).length<20) (hline:(apos.endLine==pos.line)=true):
  PE X (.Call (.Attribute o name apos) (e::es) [] pos) (au C (fY T fo fs bf ty)):=by
 have hs':=hs
 simp only[List.all_cons,Bool.and_eq_true]at hs'
 exact bq (pe_bm pa slot hty hm ho ha (Ku hb) (O0 hs hl) hline (bx hs'.1) (eW hs'.2)) fun sv H Q h=>LH X.K hS hT h
theorem Qw{T id:String}{name:Str}{r:V→List V→Hp→VK→Prop}{bf:RV→List RV→State→Res RV}{ty:State→RV→Bool}(pa:PlainAttrs T)(slot:Slot T name id)(hty:typeOf (.builtin id)=pure (.type "method_descriptor"))(hm:MtR X id r)(hS:MtS C bf r)(hT:IQ C T ty)
  (ho:PE X o (au C fo)) (hb:Hc o=true) (hline:(apos.endLine==pos.line)=true):
  PE X (.Call (.Attribute o name apos) [] [] pos) (au C (fY T fo (aw []) bf ty)):=by
 refine bq (pe_bm0 pa slot hty hm ho (Ku hb) hline) fun sv H Q h=>(LH X.K hS hT h).imp fun v H1 ⟨h1,Z,loc,s,r,q⟩=>⟨h1,q Z loc H1 [] (Ext.refl _ _) r rfl⟩
theorem SR.sq(r:SR C Z loc s sv H){K:PySem.W.Frag}{rv:RV}{v:V}{l:List Val}(h:bM C Z loc s sv H rv v)(e:Vw.sq s rv=some l):∃ a xs,v=.ref a∧(SqL K H a xs∨SqT K H a xs)∧aY C.cA Z loc l xs:=by
 unfold Vw.sq at e
 split at e
 ·rename_i l' e1
  cases e
  obtain⟨a,xs,h1,h2,h3⟩:=r.lv h e1
  exact⟨a,xs,h1,.inl (.inl h2),h3⟩
 ·obtain⟨a,xs,h1,h2,h3⟩:=r.tv h e
  exact⟨a,xs,h1,.inr (.inl (.inl h2)),h3⟩
theorem Ax:∀ {l:List Val} {ns:List Bool} {xs:List V},qx l=some ns→aY C.cA Z loc l xs→xs=ns.map V.bl
 | [],ns,xs,e,h=>by cases e;exact h
 | .d (.bl i)::r,ns,xs,e,⟨v,t,e1,q,h⟩=>by
  unfold qx at e
  obtain⟨m,e2,rfl⟩:=Option.map_eq_some_iff.mp e
  rw[e1,Ax e2 h,show v=_ from q]
  rfl
 | .d .non::r,ns,xs,e,h=>by cases e
 | .d (.int _)::r,ns,xs,e,h=>by cases e
 | .d (.str _)::r,ns,xs,e,h=>by cases e
 | .d (.tup _)::r,ns,xs,e,h=>by cases e
 | .d (.lst _)::r,ns,xs,e,h=>by cases e
 | .d (.dic _)::r,ns,xs,e,h=>by cases e
 | .d (.dit _)::r,ns,xs,e,h=>by cases e
 | .d (.ins _ _)::r,ns,xs,e,h=>by cases e
 | .r _::r,ns,xs,e,h=>by cases e
 | .tp _::r,ns,xs,e,h=>by cases e
theorem SR.bls(r:SR C Z loc s sv H)(K:PySem.W.Frag){rv:RV}{v:V}{ns:List Bool}(h:bM C Z loc s sv H rv v)(e:(Vw.lv s rv).bind qx=some ns):∃ a,v=.ref a∧SqL K H a (ns.map V.bl):=by
 obtain⟨l,e1,e2⟩:=Option.bind_eq_some_iff.mp e
 obtain⟨a,xs,h1,h2,h3⟩:=r.lv h e1
 rw[Ax e2 h3]at h2
 exact⟨a,h1,.inl h2⟩
theorem cC(K:PySem.W.Frag):sJ C de (fun xs H Q=>∃ x n,xs=[x]∧LenV K x H n∧Q (.int n) H):=by
 intro Z loc s sv H rs vs Q r q h
 unfold de at h
 split at h
 ·rename_i x
  obtain⟨v,t,rfl,st,q1,q2⟩:=q
  cases q2
  split at h
  ·rename_i t e
   have q3:v=.str ⟨t.toArray⟩:=r.dv q1 e
   subst q3
   split at h
   ·rename_i hl
    exact⟨_,t.length,rfl,⟨by simpa [Str.length]using hl,by simp[Str.length]⟩,h.aS r rfl⟩
   ·exact h.elim
  ·split at h
   ·rename_i l e
    obtain⟨a,xs,rfl,h1,h2⟩:=r.sq (K:=K) q1 e
    refine⟨_,l.length,rfl,?_,h.aS r rfl⟩
    have el:=b7 h2
    exact h1.elim (fun z=>.inl ⟨xs,z,el⟩) fun z=>.inr ⟨xs,z,el⟩
   ·exact h.elim
 ·exact h.elim
theorem E5(r:SR C Z loc s sv H){x:RV}{vs:List V}{d:D}(q:iX C Z loc s sv H [x] vs)(e:dv s x=some d):∃ v,vs=[v]∧bK C.cA Z d v:=by
 obtain⟨v,t,rfl,st,q1,q2⟩:=q
 cases q2
 exact⟨v,rfl,r.dv q1 e⟩
theorem Me(K:PySem.W.Frag):sJ C GC (rAll K):=by
 intro Z loc s sv H rs vs Q r q h
 unfold GC at h
 split at h
 ·obtain⟨v,t,rfl,st,q1,q2⟩:=q
  cases q2
  split at h
  ·rename_i ns e
   obtain⟨a,rfl,h1⟩:=r.bls K q1 e
   exact⟨a,ns,rfl,h1,h.aS r rfl⟩
  ·exact h.elim
 ·exact h.elim
theorem Ew:sJ C xP (fun xs H Q=>∃ i,xs=[.int i]∧i.natAbs.log2<1920∧Q (.str (toString i)) H):=by
 intro Z loc s sv H rs vs Q r q h
 unfold xP at h
 split at h
 ·split at h
  ·rename_i i e
   obtain⟨v,rfl,rfl⟩:=E5 r q e
   split at h
   ·rename_i hl
    exact⟨_,rfl,hl,h.aS r (by show _=V.str _;unfold cO;simp)⟩
   ·exact h.elim
  ·exact h.elim
 ·exact h.elim
theorem fZ:IQ C "list" dZ:=by
 intro K Z loc s sv H o v r q h
 unfold dZ at h
 obtain⟨l,e⟩:=Option.isSome_iff_exists.mp h
 obtain⟨a,xs,rfl,h1,h2⟩:=r.lv q e
 exact .inl ⟨rfl,xs,.inl h1⟩
theorem k7:IQ C "str" ky:=by
 intro K Z loc s sv H o v r q h
 unfold ky at h
 split at h
 ·rename_i t e
  have q3:v=.str ⟨t.toArray⟩:=r.dv q e
  subst q3
  exact rfl
 ·cases h
theorem SR.Nt(r:SR C Z loc s sv H){rv:RV}{v:V}{l l':List Val}(h:bM C Z loc s sv H rv v)(e:Vw.ob s rv=some (.lst l)):∃ a xs,v=.ref a∧H a=some (.lst xs)∧aY C.cA Z loc l xs∧∀ ys,aY C.cA Z loc l' ys→SR C Z loc (wr rv (.lst l') s) sv (upd H a (.lst ys)):=by
 obtain⟨a,h1,_,xs,h3,h4⟩:=r.ob h e
 exact⟨a,xs,h1,h3,h4,fun ys q=>r.write h e h1 (by simp) (fun x w z=>by rw[h3]at z;cases z) ⟨ys,upd_same,q⟩⟩
theorem cH:MtS C bAppend rAppend:=by
 intro Z loc s sv H o v rs vs Q r q qs h
 unfold bAppend at h
 split at h
 ·rename_i x
  obtain⟨w,t,rfl,st,q1,q2⟩:=qs
  cases q2
  cases e:cf x s with
  | stuck=>rw[e]at h;exact h.elim
  | exc x s1=>exact absurd e CU
  | ok y s1=>
   rw[e]at h
   simp only[Res.bind]at h
   obtain⟨Z1,g1,r1,q1'⟩:=r.cf q1 e
   split at h
   ·rename_i l e2
    split at h
    ·rename_i hl
     have h:=h
     have qo:bM C Z1 loc s1 sv H o v:=by
      cases o with
      | val x=>exact bX.mono g1 x q
      | own i=>exact q
      | new o=>unfold ob at e2;simp[kj]at e2
     obtain⟨a,xs,rfl,h1,h2,h3⟩:=r1.Nt (l':=l++[y]) qo e2
     exact⟨a,xs,w,rfl,rfl,h1,by rw[←b7 h2];exact hl,h Z1 loc _ .non g1 (h3 _ (m6 h2 ⟨w,[],rfl,q1',rfl⟩)) rfl⟩
    ·exact h.elim
   ·exact h.elim
 ·exact h.elim
theorem sh:∀ {l:List Val} {xs:List V},aY C.cA Z loc l xs→aY C.cA Z loc l.dropLast xs.dropLast
 | [],xs,h=>by rw[show xs=_ from h];rfl
 | [x],xs,⟨v,t,e,q,h⟩=>by rw[e,show t=_ from h];rfl
 | x::y::l,xs,⟨v,t,e,q,h⟩=>by
  have h':=h
  obtain⟨w,t',e',_⟩:=h'
  rw[e,e']
  rw[e']at h
  exact⟨v,_,rfl,q,sh h⟩
theorem L3:MtS C zo rPop:=by
 intro Z loc s sv H o v rs vs Q r q qs h
 unfold zo at h
 split at h
 ·cases qs
  split at h
  ·rename_i l e2
   split at h
   ·rename_i y e3
    obtain⟨a,xs,rfl,h1,h2,h3⟩:=r.Nt (l':=l.dropLast) q e2
    obtain⟨w,h4,h5⟩:=jL h2 e3
    exact⟨a,xs,w,rfl,rfl,h1,by rw[←b7 h2];exact h4,h.val (h3 _ (sh h2)) h5⟩
   ·exact h.elim
  ·exact h.elim
 ·exact h.elim
end
end Vw
namespace Vw
open PySem L2 PyProof.Rows
def sS(x:String):List Nat:=(Str.ofString x).cps.toList
def iG(fs:List (State→Res RV))(s:State):Res RV:=(aw fs s).bind D2
def bU(fs:List (State→Res RV))(s:State):Res RV:=(aw fs s).bind CY
def Du(f:State→Res RV)(s:State):Res RV:=(ev f s).bind Dm
def ef:Nat:=1000000
section
variable{C:Cst}{X:Cx}{e:Expr}{es:List Expr}{pos:Pos}{f:State→Res RV}
theorem av{x:String}{j:Nat}:PE X (.Constant (.str (Str.ofString x)) j pos) (au C (fD (.str (sS x)))):=su pe_str fun _=>by
 show V.str _=V.str _
 simp[sS]
theorem fR{k:Nat}{fs:List (State→Res RV)}(h:PA X es (cV C (aw fs))):PE X (.Tuple es k pos) (au C (iG fs)):=Qq h
theorem bu{fs:List (State→Res RV)}(h:PA X es (cV C (aw fs))):PE X (.List es pos) (au C (bU fs)):=Rv h
theorem O7(h:PE X e (au C f)):PE X (.UnaryOp .USub e pos) (au C (Du f)):=QP h
section
variable{C:Cst}{X:Cx}{e a b c:Expr}{es:List Expr}{p pos:Pos}{f fa fb fc:State→Res RV}
theorem aW(ha:PE X a (au C fa))(hb:PE X b (au C fb)):PE X (.BinOp a .Add b pos) (au C (ao fa fb (binop .add))):=vH .add ha hb
theorem QF(ha:PE X a (au C fa))(hb:PE X b (au C fb)):PE X (.BinOp a .Sub b pos) (au C (ao fa fb (binop .sub))):=vH .sub ha hb
theorem mK(ha:PE X a (au C fa))(hb:PE X b (au C fb)):PE X (.BinOp a .Mult b pos) (au C (ao fa fb (binop .mul))):=vH .mul ha hb
theorem kh(ha:PE X a (au C fa))(hb:PE X b (au C fb)):PE X (.BinOp a .FloorDiv b pos) (au C (ao fa fb (binop .fdiv))):=vH .fdiv ha hb
theorem dP(ha:PE X a (au C fa))(hb:PE X b (au C fb)):PE X (.BinOp a .Mod b pos) (au C (ao fa fb (binop .mod))):=vH .mod ha hb
theorem Kz(ha:PE X a (au C fa))(hb:PE X b (au C fb)):PE X (.BinOp a .Pow b pos) (au C (ao fa fb (binop .pow))):=vH .pow ha hb
theorem rH(hu:X.A.units+64<cLine)(ha:PE X a (au C fa))(hb:PE X b (au C fb))(hm:cw b=true):PE X (.Compare a [.Eq] [b] pos) (au C (ao fa fb (aD .eq))):=Gx hu .eq ha hb hm
theorem dR(hu:X.A.units+64<cLine)(ha:PE X a (au C fa))(hb:PE X b (au C fb))(hm:cw b=true):PT X (.Compare a [.Eq] [b] pos) (dM C (aM (ao fa fb (aD .eq)))):=ko hu .eq ha hb hm
theorem Je(hu:X.A.units+64<cLine)(ha:PE X a (au C fa))(hb:PE X b (au C fb))(hm:cw b=true):PE X (.Compare a [.NotEq] [b] pos) (au C (ao fa fb (aD .ne))):=Gx hu .ne ha hb hm
theorem mN(hu:X.A.units+64<cLine)(ha:PE X a (au C fa))(hb:PE X b (au C fb))(hm:cw b=true):PT X (.Compare a [.NotEq] [b] pos) (dM C (aM (ao fa fb (aD .ne)))):=ko hu .ne ha hb hm
theorem vS(hu:X.A.units+64<cLine)(ha:PE X a (au C fa))(hb:PE X b (au C fb))(hm:cw b=true):PT X (.Compare a [.Lt] [b] pos) (dM C (aM (ao fa fb (aD .lt)))):=ko hu .lt ha hb hm
theorem KW(hu:X.A.units+64<cLine)(ha:PE X a (au C fa))(hb:PE X b (au C fb))(hm:cw b=true):PT X (.Compare a [.LtE] [b] pos) (dM C (aM (ao fa fb (aD .le)))):=ko hu .le ha hb hm
theorem Ly(hu:X.A.units+64<cLine)(ha:PE X a (au C fa))(hb:PE X b (au C fb))(hm:cw b=true):PT X (.Compare a [.Gt] [b] pos) (dM C (aM (ao fa fb (aD .gt)))):=ko hu .gt ha hb hm
theorem Rg(hu:X.A.units+64<cLine)(ha:PE X a (au C fa))(hb:PE X b (au C fb))(hm:cw b=true):PT X (.Compare a [.GtE] [b] pos) (dM C (aM (ao fa fb (aD .ge)))):=ko hu .ge ha hb hm
theorem LG(hu:X.A.units+64<cLine)(ha:PE X a (au C fa))(hb:PE X b (au C fb))(hm:cw b=true):PT X (.Compare a [.Is] [b] pos) (dM C (aM (ao fa fb (aD .is)))):=ko hu .is ha hb hm
theorem Oh(hu:X.A.units+64<cLine)(ha:PE X a (au C fa))(hb:PE X b (au C fb))(hm:cw b=true):PT X (.Compare a [.IsNot] [b] pos) (dM C (aM (ao fa fb (aD .isn)))):=ko hu .isn ha hb hm
theorem DE(hu:X.A.units+64<cLine)(ha:PE X a (au C fa))(hb:PE X b (au C fb))(hm:cw b=true):PE X (.Compare a [.In] [b] pos) (au C (ao fa fb (aD .isin))):=Gx hu .isin ha hb hm
theorem oR(hu:X.A.units+64<cLine)(ha:PE X a (au C fa))(hb:PE X b (au C fb))(hm:cw b=true):PT X (.Compare a [.In] [b] pos) (dM C (aM (ao fa fb (aD .isin)))):=ko hu .isin ha hb hm
theorem Ei(hu:X.A.units+64<cLine)(ha:PE X a (au C fa))(hb:PE X b (au C fb))(hm:cw b=true):PT X (.Compare a [.NotIn] [b] pos) (dM C (aM (ao fa fb (aD .notin)))):=ko hu .notin ha hb hm
theorem DL(hu:X.A.units+64<cLine)(ha:PE X a (au C fa))(hb:PE X b (au C fb))(hc:PE X c (au C fc))(hm:cw c=true):PE X (.Compare a [.Lt,.LtE] [b,c] pos) (au C (wI fa fb fc (aD .lt) (aD .le))):=L1 hu .lt .le ha hb hc hm
theorem Ie(hu:X.A.units+64<cLine)(ha:PE X a (au C fa))(hb:PE X b (au C fb))(hc:PE X c (au C fc))(hm:cw c=true):PT X (.Compare a [.LtE,.LtE] [b,c] pos) (dM C (aM (wI fa fb fc (aD .le) (aD .le)))):=JI hu .le .le ha hb hc hm
theorem x_call{CX:CXT}{k n:Nat}{fA:Addr}{fd:FuncData}{ps:List Str}{x:Str}{g:Fn}{fs:State→Res (List RV)}{cA:String→Addr}(hC:C.cA=cA)(F:FnOk X.prog X.w X.K X.mg X.base CX k fA fd ps (bP cA n g))(hr:Room k X.A)(hg:Gl X x)(hm:X.mg x=some (.ref fA))(hk:PySem.W.keepIn X.K (.ref fA)=true)
  (hb:Binds X.K fd ps []) (hx:Passes CX X E0) (hn:ps.length=n) (ha:PA X (e::es) (cV C fs)) (hdb:(x==("__debug__":Str))=false) (hs:(e::es).all notStar=true):
  PE X (.Call (.Name x p) (e::es) [] pos) (au C (bh n fs g)):=by
 subst hn hC
 exact OA F hr hg hm hk hb hx ha hdb hs
theorem P4{CX:CXT}{k n:Nat}{fA:Addr}{fd:FuncData}{ps:List Str}{x:Str}{g:Fn}{fs:State→Res (List RV)}{cA:String→Addr}(hC:C.cA=cA)(F:FnOk X.prog X.w X.K X.mg X.base CX k fA fd ps (bP cA n g))(hr:Room k X.A)(hg:Gl X x)(hm:X.mg x=some (.ref fA))(hk:PySem.W.keepIn X.K (.ref fA)=true)
  (hb:Binds X.K fd ps []) (hx:Passes CX X E0) (hn:ps.length=n) (ha:PA X (e::es) (cV C fs)) (hdb:(x==("__debug__":Str))=false) (hs:(e::es).all notStar=true):
  PE X (.Call (.Name x p) (e::es) [] pos) (au C (qG n fs g)):=by
 subst hn hC
 exact N8 F hr hg hm hk hb hx ha hdb hs
section
variable{elt tg iter:Expr}{ifs:List Expr}{scope:Scope}{cA:String→Addr}{fe:State→Res RV}{ft:State→Res Bool}
theorem Ad{t:Tg}{src:State→Res (List Val)}(hC:C.cA=cA)(own:List (Str×Nat)){vs:List Nat}(hvs:own.map (·.2)=vs)(hc:X.calm=true)(hN:X.N.Nodup)(hi:PI X tg iter (lD C src))(ok:blkC X.N X.env.scope scope own=true)
  (hb:∀ (s:Shared) (H:Hp) (D:Addr) (cl:List (Str×Addr)) (fp:List Addr) (C':Cst),C'.cA=cA→PG (X.blk s H scope (compEnvC scope cl D X.env) fp) tg (qC C' t)∧PTs (X.blk s H scope (compEnvC scope cl D X.env) fp) ifs (dM C' ft)∧PE (X.blk s H scope (compEnvC scope cl D X.env) fp) elt (au C' fe))
  (hs:cw iter=true) (hv:∀ i∈wD t,i∈vs):PE X (.ListComp elt [⟨tg,iter,ifs,0⟩] scope pos) (au C (jZ vs t src ft fe)):=by
 subst hvs
 exact SU hc hN hi (blkOk_by ok) ⟨fun s H D cl fp C' h=>hb s H D cl fp C' (h.trans hC)⟩ hs hv
theorem ML{t:Tg}{src:State→Res (List Val)}{i:Nat}{y:Str}{py spos:Pos}(hC:C.cA=cA)(own:List (Str×Nat)){vs:List Nat}(hvs:own.map (·.2)=vs)(hc:X.calm=true)(hN:X.N.Nodup)(hy:X.N[i]? =some y)(hyl:X.env.scope.names.lookup y=some .local)(hk:X.env.scope.kind=.function)
  (hl:(py.line==pos.line)=true) (ha:(scope.names.any fun(n,k)=>n==y&&(k== .local||k== .cell))=false) (hi:PI X tg iter (lD C src)) (ok:blkC X.N X.env.scope scope own=true)
  (hb:∀ (s:Shared) (H:Hp) (D:Addr) (cl:List (Str×Addr)) (fp:List Addr) (C':Cst),C'.cA=cA→PG (X.blk s H scope (compEnvC scope cl D X.env) fp) tg (qC C' t)∧PTs (X.blk s H scope (compEnvC scope cl D X.env) fp) ifs (dM C' ft)∧PE (X.blk s H scope (compEnvC scope cl D X.env) fp) elt (au C' fe))
  (hs:cw iter=true) (hv:∀ i∈wD t,i∈vs):PS X (.Assign [.Name y py] (.ListComp elt [⟨tg,iter,ifs,0⟩] scope pos) spos) (dj C (aJ i (jZ vs t src ft fe))):=by
 subst hvs
 exact MD hc hN hy hyl hk hl ha hi (blkOk_by ok) ⟨fun s H D cl fp C' h=>hb s H D cl fp C' (h.trans hC)⟩ hs hv
end
theorem gZ{P:Program}{w:World}{K:PySem.W.Frag}{mg:Str→Option Value}{base:Heap}{x qual:Str}{params:Arguments}{body:List Stmt}{scope:Scope}{f:Addr}{fd:FuncData}{N ps:List Str}{cA:String→Addr}{b:State→Res Fl}{k n m:Nat}
  (F:FunD K x qual params body scope [] [] f fd) (S:FnScope N ps scope) (hn:ps.length=n) (hm:N.length=m)
  (hb:∀ (cdv:Value) (A:Around) (outer:List Env) (s:Shared) (H:Hp) (E:XK) (C:Cst),Room k (A.deeper (envOfC qual scope s.heap.objs.size f cdv))→C.cA=cA→PSs (cxOf CX0 P w K mg base N qual scope f cdv A outer s H E).nox body (dj C b)):
  FnOk P w K mg base CX0 (k+1) f fd ps (bP cA n (cW m b)):=by
 subst hn hm
 exact fn_ok F S hb
end
end
theorem dh:bootBuiltins "len"=some (.builtin "len"):=by decide+kernel
theorem zQ:bootBuiltins "list"=some (.type "list"):=by decide+kernel
theorem Oi:bootBuiltins "all"=some (.builtin "all"):=by decide+kernel
theorem xM:bootBuiltins "str"=some (.type "str"):=by decide+kernel
theorem ll:bootBuiltins "int"=some (.type "int"):=by decide+kernel
theorem HC:bootBuiltins "sorted"=some (.builtin "sorted"):=by decide+kernel
theorem Dz:bootBuiltins "tuple"=some (.type "tuple"):=by decide+kernel
theorem tR:bootBuiltins "isinstance"=some (.builtin "isinstance"):=by decide+kernel
theorem Fq:bootBuiltins "bool"=some (.type "bool"):=by decide+kernel
end Vw
namespace Vw
open PySem L2 PyProof.Rows
def vX(K:PySem.W.Frag):Bool:=K.all fun p=>match p.2.cls with
 | .type c=> !(decide (c="list"))
 | _=>true
theorem Kk{K:PySem.W.Frag}(h:vX K=true){a:Addr}{o:Obj}(e:K.lookup a=some o):o.cls≠ .type "list":=fun z=>by
 have hm:∃ p∈K,p.2=o:=by
  clear h
  induction K with
  | nil=>cases e
  | cons p r ih=>
   obtain⟨b,x⟩:=p
   rw[List.lookup_cons]at e
   split at e
   ·cases e
    exact⟨_,List.mem_cons_self,rfl⟩
   ·obtain⟨p,hp,q⟩:=ih e
    exact⟨p,List.mem_cons_of_mem _ hp,q⟩
 obtain⟨p,hp,rfl⟩:=hm
 have:=List.all_eq_true.mp h p hp
 rw[z]at this
 simp at this
def Kh(ns:List Int):Val:=.d (.lst (ns.map .int))
theorem IG{cA:String→Addr}{K:PySem.W.Frag}{g:Fn}{H:Hp}{a:Addr}{ns:List Int}(nl:vX K=true)(hS:SqL K H a (ns.map V.int))(hg:∃ s,g [Kh ns] []=.ok (.val (.d (.bl true))) s):
  bP cA 1 g [.ref a] H (fun v _=>v=.bl true) E0:=by
 obtain⟨s',hg⟩:=hg
 have hr:∃ u,H a=some u∧(u=.lst (ns.map V.int)∨∃ o,u=.frz o (.lst (ns.map V.int))):=by
  rcases hS with h | ⟨o,its,n,h1,h2,_⟩
  ·rcases h with h | ⟨o,h⟩
   ·exact⟨_,h,.inl rfl⟩
   ·exact⟨_,h,.inr ⟨o,rfl⟩⟩
  ·exact absurd h2 (Kk nl h1)
 obtain⟨u,hu,hu2⟩:=hr
 have rep:∀ (ns:List Int) (Z:Hp),dQ cA Z (ns.map .int) (ns.map V.int):=fun ns Z=>by
  induction ns with
  | nil=>rfl
  | cons n r ih=>exact⟨_,_,rfl,rfl,ih⟩
 refine⟨fun _=>none,fun _=>none,upd (fun _=>none) a u,[],[Kh ns],[],⟨fun b o h=>(by cases h),fun b o h=>?_,fun b o h=>rfl,fun b o w h=>(by cases h),rfl,List.nodup_nil,fun b h=>by simp at h,fun n b o h=>by simp at h,fun i x h=>by simp at h,fun i o h=>by simp at h,fun i j o o' b h=>by simp at h,rfl⟩,⟨.ref a,[],rfl,⟨a,ns.map V.int,rfl,?_,rep ns _⟩,rfl⟩,rfl,?_⟩
 ·by_cases hb:b=a
  ·subst hb
   rw[upd_same]at h
   cases h
   exact .inl hu
  ·rw[upd_ne hb]at h
   cases h
 ·rcases hu2 with e | ⟨o,e⟩
  ·exact .inl (by rw[upd_same,e])
  ·exact .inr ⟨o,by rw[upd_same,e]⟩
 ·rw[hg]
  exact fun Z' l' H' v _ _ q=>q
end Vw
namespace Vw
open PySem L2 PyProof.Rows
def Kr(sg:Slots)(r:Res RV):Res RV:=
 match r with
 | .ok r s2=>.ok r ⟨sg,s2.st⟩
 | _=>.stuck
def n8(r:Res Fl)(k:State→Res Fl):Res Fl:=
 match r with
 | .ok .nx s=>k s
 | t=>t
def xI(r:Res Fl)(k:State→Res Fl):Res Fl:=
 match r with
 | .ok .nx s=>k s
 | .ok .cnt s=>k s
 | .ok .brk s=>.ok .nx s
 | r=>r
@[simp] theorem Co(sg:Slots)(r:RV)(s:State):Kr sg (.ok r s)=.ok r ⟨sg,s.st⟩:=id rfl
@[simp] theorem sx(s:State)(k:State→Res Fl):n8 (.ok .nx s) k=k s:=id rfl
@[simp] theorem xp(r:RV)(s:State)(k:State→Res Fl):n8 (.ok (.ret r) s) k=.ok (.ret r) s:=id rfl
@[simp] theorem SQ(s:State)(k:State→Res Fl):n8 (.ok .brk s) k=.ok .brk s:=id rfl
@[simp] theorem R8(s:State)(k:State→Res Fl):n8 (.ok .cnt s) k=.ok .cnt s:=id rfl
@[simp] theorem CG(x:Exn)(s:State)(k:State→Res Fl):n8 (.exc x s) k=.exc x s:=id rfl
@[simp] theorem TN(k:State→Res Fl):n8 .stuck k=.stuck:=id rfl
@[simp] theorem Ai(s:State)(k:State→Res Fl):xI (.ok .nx s) k=k s:=id rfl
@[simp] theorem DP(s:State)(k:State→Res Fl):xI (.ok .cnt s) k=k s:=id rfl
@[simp] theorem SS(s:State)(k:State→Res Fl):xI (.ok .brk s) k=.ok .nx s:=id rfl
@[simp] theorem SJ(r:RV)(s:State)(k:State→Res Fl):xI (.ok (.ret r) s) k=.ok (.ret r) s:=id rfl
@[simp] theorem Su(x:Exn)(s:State)(k:State→Res Fl):xI (.exc x s) k=.exc x s:=id rfl
@[simp] theorem TB(k:State→Res Fl):xI .stuck k=.stuck:=id rfl
def Kd(i j:Int):Bool:=decide (i.natAbs.log2+j.natAbs.log2<1000000)
def JD(j:Int):Bool:=decide (0<j∧j.natAbs.log2<9000)
section
variable(sg:Slots)(st:List Ob)(s s':State)(i n:Nat)(d d':D)(x y:Val)(o:Ob)(f g h fa fb fc:State→Res RV)(fs:List (State→Res RV))(ft:State→Res Bool)(sa sb:State→Res Fl)(ss:List (State→Res Fl))(r r':RV)(rs:List RV)
@[simp] theorem Uo:kj s (.val x)=.val x:=id rfl
@[simp] theorem UH:kj s (.new o)=.new o:=id rfl
@[simp] theorem D0:kj ⟨sg,st⟩ (.own i)=(match sg[i]? with | some (some (.v x))=>.val x | _=>.own i):=id rfl
@[simp] theorem rl:dv s (.val (.d d))=some d:=id rfl
@[simp] theorem QG:dv s (.val (.r n))=none:=id rfl
@[simp] theorem GJ:dv ⟨sg,st⟩ (.own i)=(match sg[i]? with | some (some (.v (.d x)))=>some x | _=>none):=by
 unfold dv
 rw[D0]
 cases e:sg[i]? with
 | none=>rfl
 | some a=>cases a with
  | none=>rfl
  | some b=>cases b<;> first | rfl | (rename_i v;cases v<;> rfl)
@[simp] theorem Cb:ob ⟨sg,st⟩ (.own i)=(match sg[i]? with | some (some (.own o))=>some o | some (some (.v (.r n)))=>(match st[n]? with | some .gone=>none | some o=>some o | none=>none) | _=>none):=by
 unfold ob
 rw[D0]
 cases e:sg[i]? with
 | none=>simp[e]
 | some a=>cases a with
  | none=>simp[e]
  | some b=>cases b with
   | own o=>simp[e]
   | v v=>cases v<;> simp[e]<;> rfl
@[simp] theorem Vm:ob s (.val (.d d))=none:=id rfl
@[simp] theorem Gj:ob s (.val (.r n))=(match s.st[n]? with | some .gone=>none | some o=>some o | none=>none):=id rfl
@[simp] theorem Vf:lv s (.val (.d d))=(match d with | .lst l=>some (l.map .d) | _=>none):=by cases d<;> rfl
@[simp] theorem QT:tv s (.val (.d d))=(match d with | .tup l=>some (l.map .d) | _=>none):=by cases d<;> rfl
theorem Di:lv s r=(match dv s r with | some (.lst l)=>some (l.map .d) | some _=>none | none=>match ob s r with | some (.lst l)=>some l | _=>none):=rfl
@[simp] theorem U5:lv ⟨sg,st⟩ (.own i)=(match dv ⟨sg,st⟩ (.own i)with | some (.lst l)=>some (l.map .d) | some _=>none | none=>match ob ⟨sg,st⟩ (.own i)with | some (.lst l)=>some l | _=>none):=id rfl
@[simp] theorem Va:lv s (.val (.r n))=(match ob s (.val (.r n))with | some (.lst l)=>some l | _=>none):=id rfl
@[simp] theorem mH:ae i ⟨sg,st⟩=(match sg[i]? with | some (some (.v x))=>.ok (.val x) ⟨sg,st⟩ | some (some (.own _))=>.ok (.own i) ⟨sg,st⟩ | _=>.stuck):=id rfl
@[simp] theorem Vx:fD d s=.ok (.val (.d d)) s:=id rfl
@[simp] theorem U7:aS d s=.ok (.val (.d d)) s:=id rfl
@[simp] theorem rp:ev f s=(f s).bind settle:=id rfl
@[simp] theorem Pd:settle (.val x) s=.ok (.val x) s:=id rfl
@[simp] theorem Sj:settle (.own i) s=.ok (.own i) s:=id rfl
@[simp] theorem Ss:settle (.new o) s=(match o.toD with | some d=>.ok (.val (.d d)) s | none=>.stuck):=id rfl
@[simp] theorem Vp(k:RV→RV→State→Res RV):ao fa fb k s=(ev fa s).bind fun x s=>(ev fb s).bind fun y s=>k x y s:=id rfl
@[simp] theorem Gi:aM f s=(ev f s).bind yT:=id rfl
@[simp] theorem Lj:yT r s=(match dv s r with | some (.bl b)=>.ok b s | _=>.stuck):=id rfl
@[simp] theorem D9:aw [] s=.ok [] s:=id rfl
@[simp] theorem yH:aw (f::fs) s=(ev f s).bind fun x s=>(aw fs s).bind fun xs s=>.ok (x::xs) s:=id rfl
@[simp] theorem sM:cf (.val x) s=.ok x s:=id rfl
@[simp] theorem Vv:cf (.new o) s=(match o.toD with | some d=>.ok (.d d) s | none=>.stuck):=id rfl
@[simp] theorem Nn:cf (.own i) ⟨sg,st⟩=(match sg[i]? with | some (some (.own o))=>(match o.toD with | some d=>.ok (.d d) ⟨sg.set i (some (.v (.d d))),st⟩ | none=>.stuck) | some (some (.v x))=>.ok x ⟨sg,st⟩ | _=>.stuck):=id rfl
@[simp] theorem U4:bc [] s=.ok [] s:=id rfl
@[simp] theorem JM:bc (r::rs) s=(cf r s).bind fun x s=>(bc rs s).bind fun xs s=>.ok (x::xs) s:=id rfl
@[simp] theorem Tx:toDs []=some []:=id rfl
@[simp] theorem Ua(v:List Val):toDs (.d d::v)=(toDs v).map (d:: ·):=id rfl
@[simp] theorem Vk(l:List Val):Ob.toD (.lst l)=(toDs l).map .lst:=id rfl
@[simp] theorem KR:iG fs s=(aw fs s).bind D2:=id rfl
@[simp] theorem KL:bU fs s=(aw fs s).bind CY:=id rfl
@[simp] theorem Vo:Du f s=(ev f s).bind Dm:=id rfl
@[simp] theorem Um:Dm r s=(match dv s r with | some (.int i)=>.ok (.val (.d (.int (-i)))) s | _=>.stuck):=id rfl
@[simp] theorem Nv:D2 rs s=(bc rs s).bind fun l s=>if l.length≤sizeLine then .ok (.val (iY l)) s else .stuck:=id rfl
@[simp] theorem NN:CY rs s=(bc rs s).bind fun l s=>if l.length≤sizeLine then .ok (.new (.lst l)) s else .stuck:=id rfl
@[simp] theorem L0(l:List Val):iY l=(match toDs l with | some ds=>.d (.tup ds) | none=>.tp l):=id rfl
@[simp] theorem U6(k:State→Res (List RV))(b:List RV→State→Res RV):bW k b s=(k s).bind b:=id rfl
@[simp] theorem UW(k:State→Res (List RV))(gg:Fn):bh n k gg s=(k s).bind fun rs s=>(bc rs s).bind fun args s=>if args.length=n then fm gg args s else .stuck:=id rfl
@[simp] theorem FJ(gg:Fn)(args:List Val):fm gg args ⟨sg,st⟩=Kr sg (gg args st):=id rfl
@[simp] theorem Pp(T:String)(k:State→Res (List RV))(b:RV→List RV→State→Res RV)(ty:State→RV→Bool):fY T f k b ty s=(ev f s).bind fun o s=>if ty s o then(k s).bind fun rs s=>b o rs s else .stuck:=id rfl
@[simp] theorem HA:ai [] s=.ok .nx s:=id rfl
@[simp] theorem j3:ai (sa::ss) s=n8 (sa s) (ai ss):=id rfl
@[simp] theorem Eg:bC ft sa sb s=(ft s).bind fun k s=>if k=true then sa s else sb s:=id rfl
@[simp] theorem U8:Uv ft fa fb s=(ft s).bind fun k s=>if k=true then fa s else fb s:=id rfl
@[simp] theorem mU:aN f s=(f s).bind fun r s=>.ok (.ret r) s:=id rfl
@[simp] theorem D1:bY f s=(f s).bind fun _ s=>.ok .nx s:=id rfl
@[simp] theorem Ci:aJ i f s=(f s).bind fun r s=>uY (rE i r s):=id rfl
@[simp] theorem Uy:uY (some s)=.ok .nx s:=id rfl
@[simp] theorem UZ:rE i (.val x) ⟨sg,st⟩=some ⟨sg.set i (some (.v x)),st⟩:=id rfl
@[simp] theorem U0:rE i (.new o) ⟨sg,st⟩=some ⟨sg.set i (some (.own o)),st⟩:=id rfl
@[simp] theorem UL(j:Nat):rE i (.own j) s=(match kd j s with | .ok x s=>some { s with sg:=s.sg.set i (some (.v x)) } | _=>none):=id rfl
@[simp] theorem Uh:kd i ⟨sg,st⟩=cf (.own i) ⟨sg,st⟩:=id rfl
@[simp] theorem GG(t:Tg)(src:State→Res (List Val)):gD t src sb s=(src s).bind fun l s=>jB t sb l s:=id rfl
@[simp] theorem NR(k:State→Res (List RV))(b:List RV→State→Res (List Val)):gV k b s=(k s).bind b:=id rfl
@[simp] theorem pV(k:D→State→Res (List Val)):sD f k s=(ev f s).bind fun r s=>(nG r s).bind k:=id rfl
@[simp] theorem Ja:nG r s=(match cf r s with | .ok (.d x) s=>.ok x s | _=>.stuck):=id rfl
@[simp] theorem UM:iL [ft] s=ft s:=id rfl
@[simp] theorem Ui(f2:State→Res Bool)(fr:List (State→Res Bool)):iL (ft::f2::fr) s=(ft s).bind fun b s=>if b=true then iL (f2::fr) s else .ok false s:=id rfl
@[simp] theorem Vc:lU [ft] s=ft s:=id rfl
@[simp] theorem Vh(f2:State→Res Bool)(fr:List (State→Res Bool)):lU (ft::f2::fr) s=(ft s).bind fun b s=>if b=true then .ok true s else lU (f2::fr) s:=id rfl
@[simp] theorem GS:jy ft s=(ft s).bind fun b s=>.ok (!b) s:=id rfl
@[simp] theorem T6:fN [f] s=ev f s:=id rfl
@[simp] theorem TY:fN (f::g::fs) s=(aM f s).bind fun b s=>if b=true then fN (g::fs) s else aS (.bl false) s:=id rfl
@[simp] theorem UU:mE [f] s=ev f s:=id rfl
@[simp] theorem UK:mE (f::g::fs) s=(aM f s).bind fun b s=>if b=true then aS (.bl true) s else mE (g::fs) s:=id rfl
@[simp] theorem qe(op:Cop):aD op r r' s=(match ij op s r r' with | some b=>aS (.bl b) s | none=>.stuck):=id rfl
@[simp] theorem Qt:de [r] s=(match dv s r with | some (.str t)=>if t.length≤sizeLine then aS (.int t.length) s else .stuck | _=>match sq s r with | some l=>aS (.int l.length) s | none=>.stuck):=id rfl
@[simp] theorem Sq:sq s r=(match lv s r with | some l=>some l | none=>tv s r):=id rfl
@[simp] theorem UO:Qa [r] s=(match sq s r with | some l=>.ok (.new (.lst l)) s | none=>.stuck):=id rfl
@[simp] theorem Vu:To [r] s=(match dv s r with | some (.int i)=>aS (.int (if i<0 then-i else i)) s | _=>.stuck):=id rfl
@[simp] theorem UQ:Qn [r,r'] s=(match dv s r,dv s r' with | some (.int i),some (.int j)=>aS (.int (if j > i then j else i)) s | _,_=>.stuck):=id rfl
@[simp] theorem SY:bAppend r [r'] s=(cf r' s).bind fun y s=>match ob s r with | some (.lst l)=>if l.length<sizeLine then .ok (.val (.d .non)) (wr r (.lst (l++[y])) s)else .stuck | _=>.stuck:=id rfl
@[simp] theorem Ve:zo r [] s=(match ob s r with | some (.lst l)=>(match l[l.length- 1]? with | some y=>.ok (.val y) (wr r (.lst l.dropLast) s) | none=>.stuck) | _=>.stuck):=id rfl
@[simp] theorem QM:wr (.own i) o ⟨sg,st⟩=(match kj ⟨sg,st⟩ (.own i)with | .own i=>⟨sg.set i (some (.own o)),st⟩ | .val (.r n)=>⟨sg,st.set n o⟩ | _=>⟨sg,st⟩):=id rfl
@[simp] theorem Q5:wr (.val (.r n)) o ⟨sg,st⟩=⟨sg,st.set n o⟩:=id rfl
@[simp] theorem QO:dZ s r=(lv s r).isSome:=id rfl
@[simp] theorem Ks:binop .add r r' s=sG r r' s:=id rfl
@[simp] theorem Ll:binop .mul r r' s=zT r r' s:=id rfl
@[simp] theorem TQ(i j:Int):sG (.val (.d (.int i))) (.val (.d (.int j))) s=aS (.int (i+j)) s:=id rfl
@[simp] theorem TM(i j:Int):binop .sub (.val (.d (.int i))) (.val (.d (.int j))) s=aS (.int (i-j)) s:=id rfl
@[simp] theorem Mc(i j:Int):zT (.val (.d (.int i))) (.val (.d (.int j))) s=if Kd i j=true then aS (.int (i*j)) s else .stuck:=by
 show(if i.natAbs.log2+j.natAbs.log2<1000000 then aS (.int (i*j)) s else .stuck)=_
 by_cases h:i.natAbs.log2+j.natAbs.log2<1000000
 ·rw[if_pos h];exact(if_pos (decide_eq_true h)).symm
 ·rw[if_neg h];exact(if_neg (fun z=>h (of_decide_eq_true z))).symm
@[simp] theorem Jo(i j:Int):binop .fdiv (.val (.d (.int i))) (.val (.d (.int j))) s=if JD j=true then aS (.int (i/j)) s else .stuck:=by
 show(if 0<j∧j.natAbs.log2<9000 then aS (.int (i/j)) s else .stuck)=_
 by_cases h:0<j∧j.natAbs.log2<9000
 ·rw[if_pos h];exact(if_pos (decide_eq_true h)).symm
 ·rw[if_neg h];exact(if_neg (fun z=>h (of_decide_eq_true z))).symm
@[simp] theorem FO(i j:Int):binop .mod (.val (.d (.int i))) (.val (.d (.int j))) s=if 0<j then aS (.int (i%j)) s else .stuck:=id rfl
@[simp] theorem LZ(i j:Int):binop .pow (.val (.d (.int i))) (.val (.d (.int j))) s=if 0≤j∧j≤1000000∧i.natAbs<2^64 then aS (.int (i^j.toNat)) s else .stuck:=id rfl
@[simp] theorem T7(i j:Int):ij .lt s (.val (.d (.int i))) (.val (.d (.int j)))=some (decide (i<j)):=id rfl
@[simp] theorem Ut(i j:Int):ij .le s (.val (.d (.int i))) (.val (.d (.int j)))=some (decide (i≤j)):=id rfl
@[simp] theorem UJ(i j:Int):ij .gt s (.val (.d (.int i))) (.val (.d (.int j)))=some (decide (i > j)):=id rfl
@[simp] theorem Ug(i j:Int):ij .ge s (.val (.d (.int i))) (.val (.d (.int j)))=some (decide (i≥j)):=id rfl
@[simp] theorem PY:ij .eq s r r'=yS s r r':=id rfl
@[simp] theorem Tc:ij .ne s r r'=(yS s r r').map not:=id rfl
@[simp] theorem Uj(i j:Int):yS s (.val (.d (.int i))) (.val (.d (.int j)))=some (decide (i=j)):=by
 show(if fK (.int i) (.int j)then some (fH (.int i) (.int j))else none)=_
 rw[if_pos (by rfl)]
 show some (i==j)=_
 by_cases h:i=j
 ·simp[h]
 ·have:(i==j)=false:=by simpa using h
  rw[this];simp[h]
@[simp] theorem N5(j:Int):fL [.val (.d (.int j))] s=mQ 0 j s:=id rfl
@[simp] theorem Uw(i j:Int):QJ [.val (.d (.int i)),.val (.d (.int j))] s=mQ i j s:=id rfl
@[simp] theorem Uk:nJ s (.val x)=some (.val x):=id rfl
@[simp] theorem UG:nJ s (.new o)=some (.new o):=id rfl
@[simp] theorem Np:nJ ⟨sg,st⟩ (.own i)=(match sg[i]? with | some (some (.own o))=>some (.new o) | some (some (.v x))=>some (.val x) | _=>none):=id rfl
@[simp] theorem OK:gE (.nm i) x ⟨sg,st⟩=some ⟨sg.set i (some (.v x)),st⟩:=id rfl
end
theorem small(n:Nat)(h:n≤16777216):n≤sizeLine:=by rw[sizeLine_eq];exact h
section
variable(sg:Slots)(st:List Ob)(s:State)(i:Int)(j:Nat)(l:List D)(t:List Nat)(m:List Val)
theorem Ao{α β:Type}(f:α→β)(l:List α)(i:Int):atI (l.map f) i=(atI l i).map f:=by
 unfold atI
 rw[List.length_map]
 cases ixN l.length i<;> simp
@[simp] theorem Rx:bJ (.val (.d (.lst l))) (.val (.d (.int i))) s=(match atI l i with | some d=>.ok (.val (.d d)) s | none=>.stuck):=by
 show(match atI (l.map Val.d) i with | some v=>Res.ok (RV.val v) s | none=>Res.stuck)=_
 rw[Ao]
 cases atI l i<;> rfl
@[simp] theorem Lr:bJ (.val (.d (.tup l))) (.val (.d (.int i))) s=(match atI l i with | some d=>.ok (.val (.d d)) s | none=>.stuck):=by
 show(match atI (l.map Val.d) i with | some v=>Res.ok (RV.val v) s | none=>Res.stuck)=_
 rw[Ao]
 cases atI l i<;> rfl
@[simp] theorem Rq:bJ (.val (.d (.str t))) (.val (.d (.int i))) s=(if t.length≤sizeLine then match atI t i with | some c=>.ok (.val (.d (.str [c]))) s | none=>.stuck else .stuck):=id rfl
def T8(x y:RV)(s:State):Res RV:=bJ x y s
@[simp] theorem Vg:bJ (.own j) (.val (.d (.int i))) ⟨sg,st⟩=(match sg[j]? with | some (some (.own (.lst l)))=>(match atI l i with | some v=>.ok (.val v) ⟨sg,st⟩ | none=>.stuck) | _=>T8 (.own j) (.val (.d (.int i))) ⟨sg,st⟩):=by
 split
 ·rename_i l e
  unfold bJ mq oj wV
  simp[e,lv]
  all_goals (cases atI l i<;> rfl)
 ·rfl
theorem so{α:Type}{l:List α}{i:Int}(h0:0≤i)(h1:i<l.length):atI l i=l[i.toNat]? :=by
 unfold atI ixN
 rw[if_pos h0,if_pos h1]
 rfl
@[simp] theorem RM{α:Type}(x:α)(l:List α):atI (x::l) 0=some x:=by
 rw[so (by omega) (by rw[List.length_cons];omega)]
 rfl
end
theorem QA{n:Nat}(h:n<18446744073709551616):n.log2<64:=by
 by_cases h0:n=0
 ·subst h0;decide
 ·exact(Nat.log2_lt h0).mpr h
theorem rG{j:Int}(h0:0<j)(h':j<18446744073709551616):JD j=true:=decide_eq_true ⟨h0,by have:=QA (n:=j.natAbs) (by omega);omega⟩
@[simp] theorem Ud(t:Tg)(b:State→Res Fl)(s:State):jB t b [] s=.ok .nx s:=id rfl
@[simp] theorem CL(t:Tg)(b:State→Res Fl)(x:Val)(l:List Val)(s:State):jB t b (x::l) s=(match gE t x s with | none=>.stuck | some s=>xI (b s) (jB t b l)):=id rfl
abbrev vI(i:Int):Val:=.d (.int i)
abbrev si(i:Int):Option Sl:=some (.v (.d (.int i)))
abbrev sd(d:D):Option Sl:=some (.v (.d d))
section
variable(sg:Slots)(st:List Ob)(s:State)
@[simp] theorem Ul:bG [] s=s:=id rfl
@[simp] theorem Vd(v:Nat)(vs:List Nat):bG (v::vs) ⟨sg,st⟩=⟨(fQ sg vs).set v none,st⟩:=id rfl
@[simp] theorem UP:fQ sg []=sg:=id rfl
@[simp] theorem U9(v:Nat)(vs:List Nat):fQ sg (v::vs)=(fQ sg vs).set v none:=id rfl
@[simp] theorem T2:eD s=.ok true s:=id rfl
@[simp] theorem Vs(acc:List Val):A0 acc s=.ok (.new (.lst acc)) s:=id rfl
@[simp] theorem VC(vs:List Nat)(t:Tg)(src:State→Res (List Val))(ft:State→Res Bool)(fe:State→Res RV):jZ vs t src ft fe s=(src s).bind fun l s=>(tW vs t ft fe l [] (bG vs s)).bind A0:=id rfl
end
@[simp] theorem toDs_mapF{α:Type}(l:List α)(F:α→D):toDs (l.map fun x=>.d (F x))=some (l.map F):=by
 have:(l.map fun x=>Val.d (F x))=(l.map F).map .d:=by simp
 rw[this,toDs_map]
@[simp] theorem toDs_comp{α:Type}(l:List α)(F:α→D):toDs (l.map (Val.d∘F))=some (l.map F):=toDs_mapF l F
@[simp] theorem toDs_vI(l:List Int):toDs (l.map vI)=some (l.map .int):=toDs_mapF l _
section
variable(sg:Slots)(st:List Ob)(s:State)(t:Tg)(ts:List Tg)(x:Val)(l:List Val)(r:RV)(f:State→Res RV)
@[simp] theorem LY:gE (.tp ts) x s=(match tv s (.val x)with | some l=>if l.length=ts.length then oK ts l s else none | none=>none):=id rfl
@[simp] theorem TH:oK [] [] s=some s:=id rfl
@[simp] theorem Mg:oK (t::ts) (x::l) s=(match gE t x s with | some s=>oK ts l s | none=>none):=id rfl
@[simp] theorem UT:Qs [r] s=(match (lv s r).bind intsOf with | some (n::ns)=>aS (.int (Og (n::ns))) s | _=>.stuck):=id rfl
@[simp] theorem T3(d:D):itemsOf d s=(match d with | .lst l=>.ok (l.map .d) s | .tup l=>.ok (l.map .d) s | .str t=>.ok (t.map fun c=>.d (.str [c])) s | .dic l=>.ok (l.map fun p=>.d (KJ p.1)) s | _=>.stuck):=by cases d<;> rfl
@[simp] theorem Pf(d:D):p9 d s=(match d with | .lst l=>.ok (l.mapIdx fun i x=>.d (.tup [.int i,x])) s | .str t=>.ok (t.mapIdx fun i c=>.d (.tup [.int i,.str [c]])) s | _=>.stuck):=by cases d<;> rfl
@[simp] theorem VA(lo hi:Par):iP f lo hi s=(ev f s).bind fun x s=>(nh lo s).bind fun l s=>(nh hi s).bind fun h s=>xQ x l h s:=id rfl
@[simp] theorem Vj:nh .no s=.ok none s:=id rfl
@[simp] theorem Lw:nh (.ex f) s=(ev f s).bind F0:=id rfl
@[simp] theorem U3(i:Int):F0 (.val (.d (.int i))) s=.ok (some i) s:=id rfl
@[simp] theorem Qg(lo hi:Option Int):xQ r lo hi s=(match dv s r with | some (.str t)=>if t.length≤sizeLine then aS (.str (cz t lo hi)) s else .stuck | _=>match lv s r with | some l=>.ok (.new (.lst (cz l lo hi))) s | none=>match tv s r with | some l=>if(cz l lo hi).length=l.length then .stuck else .ok (.val (iY (cz l lo hi))) s | none=>.stuck):=id rfl
end
theorem sU{α:Type}(l:List α)(a b:Nat):cz l (some (a:Int)) (some (b:Int))=(l.drop a).take (b-a):=by
 unfold cz
 rw[HT.sIx_nat,HT.sIx_nat]
 by_cases h:a≤l.length
 ·rw[Nat.min_eq_left h]
  by_cases h2:b≤l.length
  ·rw[Nat.min_eq_left h2]
  ·have e1:(l.drop a).take (l.length-a)=l.drop a:=List.take_of_length_le (by simp)
   have e2:(l.drop a).take (b-a)=l.drop a:=List.take_of_length_le (by simp;omega)
   rw[Nat.min_eq_right (show l.length≤b by omega),e1,e2]
 ·have e1:l.drop a=[]:=List.drop_eq_nil_of_le (by omega)
  have e2:l.drop l.length=[]:=List.drop_eq_nil_of_le (Nat.le_refl _)
  rw[Nat.min_eq_right (show l.length≤a by omega),e1,e2]
  simp
theorem Dy{α β:Type}(f:α→β)(l:List α)(lo hi:Option Int):cz (l.map f) lo hi=(cz l lo hi).map f:=by
 unfold cz
 rw[List.length_map,List.map_take,List.map_drop]
@[simp] theorem RW{α:Type}(x y:α)(l:List α):atI (x::y::l) 1=some y:=by
 rw[so (by omega) (by rw[List.length_cons,List.length_cons];omega)]
 rfl
@[simp] theorem RJ{α:Type}(x y z:α)(l:List α):atI (x::y::z::l) 2=some z:=by
 rw[so (by omega) (by rw[List.length_cons,List.length_cons,List.length_cons];omega)]
 rfl
@[simp] theorem RY{α:Type}(x y z w:α)(l:List α):atI (x::y::z::w::l) 3=some w:=by
 rw[so (by omega) (by rw[List.length_cons,List.length_cons,List.length_cons,List.length_cons];omega)]
 rfl
theorem Kn{i j:Int}(h0: -1000000000≤i)(h1:i≤1000000000)(h2: -1000000000≤j)(h3:j≤1000000000)(s:State):mQ i j s=.ok ((List.range (j-i).toNat).map fun(k:Nat)=>vI (i+k)) s:=by
 unfold mQ
 rw[if_pos (by omega)]
theorem Ip{n:Nat}(h:n≤1000000000)(s:State):mQ 0 n s=.ok ((List.range n).map fun(k:Nat)=>vI k) s:=by
 rw[Kn (by omega) (by omega) (by omega) (by omega)]
 simp
def Hs(r:Res Fl):Res RV:=
 match r with
 | .ok .nx s=>.ok (.val (.d .non)) ⟨[],s.st⟩
 | .ok (.ret r) s=>match nJ s r with
  | some r'=>.ok r' ⟨[],s.st⟩
  | none=>.stuck
 | .ok _ _=>.stuck
 | .exc x s=>.exc x ⟨[],s.st⟩
 | .stuck=>.stuck
theorem u7(n:Nat)(b:State→Res Fl)(args:List Val)(st:List Ob):cW n b args st=Hs (b ⟨args.map (fun x=>some (.v x))++List.replicate (n-args.length) none,st⟩):=by
 unfold cW
 generalize b _=r
 cases r with
 | ok k s=>cases k<;> rfl
 | exc x s=>rfl
 | stuck=>rfl
@[simp] theorem N1(s:State):Hs (.ok .nx s)=.ok (.val (.d .non)) ⟨[],s.st⟩:=id rfl
@[simp] theorem E8(r:RV)(s:State):Hs (.ok (.ret r) s)=(match nJ s r with | some r'=>.ok r' ⟨[],s.st⟩ | none=>.stuck):=id rfl
@[simp] theorem R5:Hs .stuck=.stuck:=id rfl
@[simp] theorem E2(x:Exn)(s:State):Hs (.exc x s)=.exc x ⟨[],s.st⟩:=id rfl
mutual
def fh:D→Bool
 | .non=>true
 | .bl _=>true
 | .int _=>true
 | .str _=>true
 | .tup l=>iE l
 | .lst l=>iE l
 | _=>false
def iE:List D→Bool
 | []=>true
 | x::r=>fh x&&iE r
end
mutual
def fG:Nat→D→Bool
 | 0,.tup _=>false
 | 0,.lst _=>false
 | n+1,.tup l=>fB n l
 | n+1,.lst l=>fB n l
 | _,_=>true
def fB:Nat→List D→Bool
 | _,[]=>true
 | n,x::r=>fG n x&&fB n r
end
mutual
theorem vY:∀ d:D,fh d=true→(pd d).plain=true
 | .non,_=>rfl
 | .bl _,_=>rfl
 | .int _,_=>rfl
 | .str _,_=>rfl
 | .tup l,h=>by
  have:=sy l (by simpa [fh]using h)
  simpa [pd,PyData.plain]using this
 | .lst l,h=>by
  have:=sy l (by simpa [fh]using h)
  simpa [pd,PyData.plain]using this
 | .dic _,h=>by simp[fh]at h
 | .dit _,h=>by simp[fh]at h
 | .ins _ _,h=>by simp[fh]at h
 | .exc _ _,h=>by simp[fh]at h
theorem sy:∀ l:List D,iE l=true→PyData.plainAll (dS l)=true
 | [],_=>rfl
 | x::r,h=>by
  have h:fh x=true∧iE r=true:=by simpa [iE]using h
  simp[dS,PyData.plainAll,vY x h.1,sy r h.2]
end
mutual
theorem eqv_refl:∀ d:D,fh d=true→PyData.eqv (pd d) (pd d)=true
 | .non,_=>rfl
 | .bl b,_=>by cases b<;> rfl
 | .int i,_=>by show(i==i)=true;simp
 | .str s,_=>by show(Vw.st s==Vw.st s)=true;exact beq_self_eq_true _
 | .tup l,h=>by
  have:=uL l (by simpa [fh]using h)
  simpa [pd,PyData.eqv]using this
 | .lst l,h=>by
  have:=uL l (by simpa [fh]using h)
  simpa [pd,PyData.eqv]using this
 | .dic _,h=>by simp[fh]at h
 | .dit _,h=>by simp[fh]at h
 | .ins _ _,h=>by simp[fh]at h
 | .exc _ _,h=>by simp[fh]at h
theorem uL:∀ l:List D,iE l=true→PyData.eqvAll (dS l) (dS l)=true
 | [],_=>rfl
 | x::r,h=>by
  have h:fh x=true∧iE r=true:=by simpa [iE]using h
  simp[dS,PyData.eqvAll,eqv_refl x h.1,uL r h.2]
end
mutual
theorem uB:∀ (n:Nat) (d:D),fh d=true→fG n d=true→(pd d).depth≤n
 | n,.non,_,_=>by simp[pd,PyData.depth]
 | n,.bl _,_,_=>by simp[pd,PyData.depth]
 | n,.int _,_,_=>by simp[pd,PyData.depth]
 | n,.str _,_,_=>by simp[pd,PyData.depth]
 | 0,.tup l,_,h=>by simp[fG]at h
 | 0,.lst l,_,h=>by simp[fG]at h
 | n+1,.tup l,p,h=>by
  have:=rQ n l (by simpa [fh]using p) (by simpa [fG]using h)
  simp[pd,PyData.depth,this]
 | n+1,.lst l,p,h=>by
  have:=rQ n l (by simpa [fh]using p) (by simpa [fG]using h)
  simp[pd,PyData.depth,this]
 | n,.dic _,p,_=>by simp[fh]at p
 | n,.dit _,p,_=>by simp[fh]at p
 | n,.ins _ _,p,_=>by simp[fh]at p
theorem rQ:∀ (n:Nat) (l:List D),iE l=true→fB n l=true→PyData.depthAll (dS l)≤n
 | n,[],_,_=>by simp[dS,PyData.depthAll]
 | n,x::r,p,h=>by
  have p:fh x=true∧iE r=true:=by simpa [iE]using p
  have h:fG n x=true∧fB n r=true:=by simpa [fB]using h
  have h1:=uB n x p.1 h.1
  have h2:=rQ n r p.2 h.2
  simp[dS,PyData.depthAll]
  omega
end
theorem o8{α:Type}(F:α→D):∀ l:List α,(∀ x∈l,fh (F x)=true)→iE (l.map F)=true
 | [],_=>rfl
 | x::r,h=>by simp[iE,h x (by simp),o8 F r fun y hy=>h y (by simp[hy])]
theorem pJ{α:Type}(n:Nat)(F:α→D):∀ l:List α,(∀ x∈l,fG n (F x)=true)→fB n (l.map F)=true
 | [],_=>by simp[fB]
 | x::r,h=>by simp[fB,h x (by simp),pJ n F r fun y hy=>h y (by simp[hy])]
theorem JW{d:D}(n:Nat)(hn:n≤60)(p:fh d=true)(h:fG n d=true):fK d d=true∧fH d d=true:=by
 refine⟨?_,eqv_refl d p⟩
 have:=uB n d p h
 unfold fK
 simp[vY d p]
 omega
section
variable(sg:Slots)(st:List Ob)(s:State)(r r':RV)(i:Int)(j:Nat)(x:Val)
@[simp] theorem PD:lV s r=(match dv s r with | some d=>some d | none=>match ob s r with | some (.lst l)=>(toDs l).map .lst | _=>none):=id rfl
theorem Cd:yS s r r'=(match lV s r,lV s r' with | some a,some b=>if fK a b then some (fH a b)else none | _,_=>none):=id rfl
def RC(o i:RV)(x:Val)(s:State):Option State:=ve o i x s
@[simp] theorem Pr:ve (.own j) (.val (.d (.int i))) x ⟨sg,st⟩=(match sg[j]? with | some (some (.own (.lst l)))=>(match ixN l.length i with | some m=>some ⟨sg.set j (some (.own (.lst (l.set m x)))),st⟩ | none=>none) | _=>RC (.own j) (.val (.d (.int i))) x ⟨sg,st⟩):=by
 split
 ·rename_i l e
  unfold ve
  simp[e]
  all_goals (cases ixN l.length i<;> rfl)
 ·exact id rfl
end
theorem jc{f:State→Res Fl}{r:List (State→Res Fl)}{s s':State}(h:f s=.ok .nx s'):ai (f::r) s=ai r s':=by rw[j3,h,sx]
theorem rP{f:State→Res Fl}{r:List (State→Res Fl)}{s s':State}{v:RV}(h:f s=.ok (.ret v) s'):ai (f::r) s=.ok (.ret v) s':=by rw[j3,h,xp]
theorem Gy{n:Nat}{b:State→Res Fl}{args:List Val}{st:List Ob}{s s':State}{v v':RV}(hs:s=⟨args.map (fun x=>some (.v x))++List.replicate (n-args.length) none,st⟩)(h:b s=.ok (.ret v) s')(h':nJ s' v=some v'):cW n b args st=.ok v' ⟨[],s'.st⟩:=by
 rw[u7,←hs,h,E8,h']
end Vw
namespace Vw
open PySem L2 PyProof.Rows
def tq(t T:String):Bool:=t==T||(t=="bool"&&T=="int")
def qO:List String:=["NoneType","bool","int","str","list","tuple","dict"]
def El(s:State)(r:RV):Option String:=
 match dv s r with
 | some .non=>some "NoneType"
 | some (.bl _)=>some "bool"
 | some (.int _)=>some "int"
 | some (.str _)=>some "str"
 | some (.lst _)=>some "list"
 | some (.tup _)=>some "tuple"
 | some (.dic _)=>some "dict"
 | some _=>none
 | none=>match ob s r with
  | some (.lst _)=>some "list"
  | some _=>none
  | none=>(tv s r).map fun _=>"tuple"
def gP(T:String)(f:State→Res RV)(s:State):Res RV:=(ev f s).bind fun r s=>
 match El s r with
 | some t=>aS (.bl (tq t T)) s
 | none=>.stuck
def bIndex(o:RV)(rs:List RV)(s:State):Res RV:=
 match rs with
 | [x]=>match dv s o,dv s x with
  | some (.str a),some (.str b)=>match Builtin.Str.occurrences (Vw.st a) (Vw.st b) 0 a.length 1 with
   | i::_=>aS (.int (i:Nat)) s
   | []=>.stuck
  | _,_=>.stuck
 | _=>.stuck
section
variable{C:Cst}{Z Z' Zc:Hp}{loc loc':List Addr}{s s':State}{sv sv':L2.St}{H H':Hp}
variable{X:Cx}{e a b c o:Expr}{es:List Expr}{p pos apos pt:Pos}{f fa fb fc fo fi fv:State→Res RV}{fs:State→Res (List RV)}
theorem Tr(K:PySem.W.Frag):∀ t∈qO,∀ T∈qO,PySem.W.kitOne K (.type t) (.type T)=some (tq t T):=by
 intro t ht T hT
 simp only[qO,List.mem_cons,List.not_mem_nil,or_false]at ht hT
 rcases ht with rfl | rfl | rfl | rfl | rfl | rfl | rfl<;> rcases hT with rfl | rfl | rfl | rfl | rfl | rfl | rfl<;> rfl
theorem M4(r:SR C Z loc s sv H)(K:PySem.W.Frag){rv:RV}{v:V}{t:String}(h:bM C Z loc s sv H rv v)(e:El s rv=some t):TyX K H v (.type t)∧t∈qO:=by
 unfold El at e
 split at e
 ·rename_i e1;cases e;have q:=r.dv h e1;rw[show v=.non from q];exact⟨.base .non,by simp[qO]⟩
 ·rename_i b e1;cases e;have q:=r.dv h e1;rw[show v=.bl b from q];exact⟨.base (.bl b),by simp[qO]⟩
 ·rename_i i e1;cases e;have q:=r.dv h e1;rw[show v=.int i from q];exact⟨.base (.int i),by simp[qO]⟩
 ·rename_i x e1;cases e;have q:=r.dv h e1;rw[show v=.str _ from q];exact⟨.base (.str _),by simp[qO]⟩
 ·rename_i l e1
  cases e
  obtain⟨a,vs,rfl,z,_⟩:=r.dv h e1
  refine⟨.base ?_,by simp[qO]⟩
  rcases z with z | ⟨o,z⟩
  ·exact .lst ((r.zh a _ z).at rfl)
  ·exact .frz ((r.zh a _ z).at rfl)
 ·rename_i l e1
  cases e
  obtain⟨a,vs,rfl,z,_⟩:=r.dv h e1
  exact⟨.base (.tup ((r.zh a _ z).at rfl)),by simp[qO]⟩
 ·rename_i l e1
  cases e
  obtain⟨a,vs,rfl,z,_⟩:=r.dv h e1
  refine⟨?_,by simp[qO]⟩
  rcases r.zh a _ z with z | ⟨_,o,z⟩
  ·exact .base (.dK z)
  ·exact .fDict z
 ·cases e
 ·split at e
  ·rename_i l e1
   cases e
   obtain⟨a,rfl,_,xs,h1,_⟩:=r.ob h e1
   exact⟨.base (.lst h1),by simp[qO]⟩
  ·cases e
  ·obtain⟨l,e1,rfl⟩:=Option.map_eq_some_iff.mp e
   obtain⟨a,xs,rfl,h1,_⟩:=r.tv h e1
   exact⟨.base (.tup h1),by simp[qO]⟩
theorem lJ{T:String}(he:PE X e (au C f))(hg:Gl X "isinstance")(hm:X.mg "isinstance"=none)(hg2:Gl X (Str.ofString T))(hm2:X.mg (Str.ofString T)=none)(hv:bootBuiltins (Str.ofString T)=some (.type T))(hT:T∈qO)(hs:notStar e=true)
  (hn:(Str.ofString T)≠"__name__") (hd:((Str.ofString T)==("__debug__":Str))=false):PE X (.Call (.Name "isinstance" p) [e,.Name (Str.ofString T) pt] [] pos) (au C (gP T f)):=by
 refine bq (pe_callB call_isi hg hm tR (pa_cons he (pa_cons (pe_bltn (v:=.ty T) hg2 hm2 hv rfl hn hd) pa_nil (by rfl)) (bx hs)) (by decide) (by decide) (bx hs) (by rfl)) fun sv H Q ⟨Z,loc,s,r,q⟩=>?_
 refine(au.nq r q).imp fun v H1 ⟨Z1,l1,s1,y,g1,r1,st1,q1,h1⟩=>?_
 cases et:El s1 y with
 | none=>rw[et]at h1;exact h1.elim
 | some t=>
  rw[et]at h1
  obtain⟨h2,h3⟩:=M4 r1 X.K q1 et
  exact⟨v,.ty T,.type t,.type T,_,rfl,.ty T,h2,Tr X.K t h3 T hT,h1.aS r1 rfl⟩
theorem Ec{x z:String}{t:Tok}(hg:Gl X (Str.ofString x))(hm:X.mg (Str.ofString x)=some (.str (Str.ofString z) t))(hd:((Str.ofString x)==("__debug__":Str))=false):PE X (.Name (Str.ofString x) pos) (au C (fD (.str (sS z)))):=
 su (pe_glob (v:=.str (Str.ofString z)) hg hm ⟨t,rfl⟩ hd) fun _=>by
  show V.str _=V.str _
  simp[sS]
end
section
variable{P:Program}{w:World}{K:PySem.W.Frag}{mg:Str→Option Value}{base:Heap}
theorem MB{CX:CXT}{k n:Nat}{f:Addr}{fd:FuncData}{ps:List Str}{cA:String→Addr}(hn:ps.length=n):FnOk P w K mg base CX k f fd ps (bP cA n fun _ _=>.stuck):=by
 subst hn
 refine⟨sj,fun A outer s H args us vs Q E hr e0 hb hv hs=>?_⟩
 obtain⟨Fr,H0,Z,loc,args,st,r,q,hl,h⟩:=hs
 exact h.elim
end
@[simp] theorem Vb(T:String)(f:State→Res RV)(s:State):gP T f s=(ev f s).bind fun r s=>match El s r with | some t=>aS (.bl (tq t T)) s | none=>.stuck:=id rfl
@[simp] theorem Vt(s:State)(r:RV):El s r=(match dv s r with | some .non=>some "NoneType" | some (.bl _)=>some "bool" | some (.int _)=>some "int" | some (.str _)=>some "str" | some (.lst _)=>some "list" | some (.tup _)=>some "tuple" | some (.dic _)=>some "dict" | some _=>none | none=>match ob s r with | some (.lst _)=>some "list" | some _=>none | none=>(tv s r).map fun _=>"tuple"):=id rfl
end Vw
namespace Vw
open PySem L2 PyProof.Rows
def KY(r:RV)(s:State):Res RV:=
 match r with
 | .new .gone=>.stuck
 | .new o=>.ok (.val (.r s.st.length)) ⟨s.sg,s.st++[o]⟩
 | _=>.stuck
def yB(f:State→Res RV)(s:State):Res RV:=(f s).bind KY
section
variable{C:Cst}{Z Z' Zc:Hp}{loc loc':List Addr}{s s':State}{sv sv':L2.St}{H H':Hp}
variable{X:Cx}{e:Expr}{f:State→Res RV}
theorem SR.alloc(r:SR C Z loc s sv H){a:Addr}{o:Ob}(ne:o≠ .gone)(c:Cell C.cA Z loc H a o)(fr:Free C Z loc s sv a):
  Ext Z loc Z (loc++[a])∧SR C Z (loc++[a]) ⟨s.sg,s.st++[o]⟩ sv H∧bX C.cA Z (loc++[a]) (.r s.st.length) (.ref a):=by
 have g:Ext Z loc Z (loc++[a]):=⟨Same.refl _,[a],rfl⟩
 refine⟨g,⟨r.fr,r.zh,r.zf,r.lk,by simp[r.ln],?_,fun b hb=>?_,fun n b ob h1 h2 h3=>?_,fun i x h=>?_,fun i ob h=>?_,r.oi,r.ls⟩,a,?_,rfl⟩
 ·rw[List.nodup_append]
  exact⟨r.nd,by simp,fun x hx y hy e=>by simp at hy;subst hy;subst e;exact fr.l hx⟩
 ·rcases List.mem_append.mp hb with hb | hb
  ·exact r.lh b hb
  ·simp at hb
   subst hb
   exact⟨j4 ne c,fr.f⟩
 ·by_cases hn:n<loc.length
  ·rw[List.getElem?_append_left hn]at h1
   have h2:(s.st++[o])[n]? =some ob:=h2
   rw[List.getElem?_append_left (by rw[←r.ln];exact hn)]at h2
   obtain⟨q1,q2⟩:=r.cl n b ob h1 h2 h3
   exact⟨q1.mono g (Same.refl _),q2⟩
  ·have h2:(s.st++[o])[n]? =some ob:=h2
   have hlen:n<(loc++[a]).length:=(List.getElem?_eq_some_iff.mp h1).1
   have hn':n=loc.length:=by simp at hlen;omega
   subst hn'
   rw[List.getElem?_append_right (Nat.le_refl _)]at h1
   rw[r.ln,List.getElem?_append_right (Nat.le_refl _)]at h2
   simp at h1 h2
   subst h1 h2
   exact⟨c.mono g (Same.refl _),fr.z⟩
 ·obtain⟨v,q1,q2⟩:=r.vl i x h
  exact⟨v,q1,bX.mono g x q2⟩
 ·obtain⟨b,q1,q2,q3,q4,q5,q6⟩:=r.ow i ob h
  refine⟨b,q1,q2,q3.mono g (Same.refl _),q4,q5,fun z=>?_⟩
  rcases List.mem_append.mp z with z | z
  ·exact q6 z
  ·simp at z
   subst z
   exact fr.o i ob h q1
 ·rw[←r.ln]
  simp
theorem Nm(he:PE X e (au C f)):PE X e (au C (yB f)):=by
 refine bq he fun sv H Q ⟨Z,loc,s,r,q⟩=>?_
 refine(au.B4 r q).imp fun v H1 ⟨Z1,l1,s1,y,g1,r1,q1,h1⟩=>?_
 cases y with
 | val x=>exact h1.elim
 | own i=>exact h1.elim
 | new o=>
  obtain⟨a,h2,h3,h4,h5⟩:=q1
  subst h2
  have key:EPost C Z1 l1 sv (.ok (.val (.r s1.st.length)) ⟨s1.sg,s1.st++[o]⟩) Q:=by
   cases o<;> first | exact h1 | exact absurd rfl h3
  obtain⟨g2,r2,q2⟩:=r1.alloc h3 h4 h5
  exact key Z1 _ H1 _ g2 r2 q2
end
@[simp] theorem Oa(f:State→Res RV)(s:State):yB f s=(f s).bind KY:=id rfl
@[simp] theorem Vr(l:List Val)(sg:Slots)(st:List Ob):KY (.new (.lst l)) ⟨sg,st⟩=.ok (.val (.r st.length)) ⟨sg,st++[.lst l]⟩:=id rfl
end Vw
namespace Vw
open PySem L2 PyProof.Rows
def tA(a:List Nat)(ys:List (List Nat)):List Nat:=(Txt.join (Vw.st a) (ys.map Vw.st)).cps.toList
def qA(o:RV)(rs:List RV)(s:State):Res RV:=
 match rs with
 | [x]=>match dv s o,(sq s x).bind strsOf with
  | some (.str a),some ys=>if(ys.map (·.length)).sum+ys.length*a.length≤16777216 then aS (.str (tA a ys)) s else .stuck
  | _,_=>.stuck
 | _=>.stuck
section
variable{C:Cst}{Z:Hp}{loc:List Addr}
theorem x7:∀ {l:List Val} {ns:List (List Nat)} {xs:List V},strsOf l=some ns→aY C.cA Z loc l xs→xs=(ns.map Vw.st).map V.str
 | [],ns,xs,e,h=>by cases e;exact h
 | .d (.str i)::r,ns,xs,e,⟨v,t,e1,q,h⟩=>by
  unfold strsOf at e
  obtain⟨m,e2,rfl⟩:=Option.map_eq_some_iff.mp e
  rw[e1,x7 e2 h,show v=_ from q]
  rfl
 | .d .non::r,ns,xs,e,h=>by cases e
 | .d (.bl _)::r,ns,xs,e,h=>by cases e
 | .d (.int _)::r,ns,xs,e,h=>by cases e
 | .d (.tup _)::r,ns,xs,e,h=>by cases e
 | .d (.lst _)::r,ns,xs,e,h=>by cases e
 | .d (.dic _)::r,ns,xs,e,h=>by cases e
 | .d (.dit _)::r,ns,xs,e,h=>by cases e
 | .d (.ins _ _)::r,ns,xs,e,h=>by cases e
 | .r _::r,ns,xs,e,h=>by cases e
 | .tp _::r,ns,xs,e,h=>by cases e
theorem sX(K:PySem.W.Frag):MtS C qA (fun x xs H Q=>∃ a p,∃ ys:List Str,x=.str a∧xs=[.ref p]∧(SqL K H p (ys.map V.str)∨SqT K H p (ys.map V.str))∧
  (ys.map (·.length)).sum+ys.length*a.length≤16777216∧Q (.str (Txt.join a ys)) H):=by
 intro Z loc s sv H o v rs vs Q r q qs h
 unfold qA at h
 split at h
 ·obtain⟨w,t,rfl,st1,q1,q2⟩:=qs
  cases q2
  split at h
  ·rename_i a ys e e'
   have qa:v=.str (Vw.st a):=r.dv q e
   obtain⟨l,e1,e2⟩:=Option.bind_eq_some_iff.mp e'
   obtain⟨p,xs,rfl,h1,h2⟩:=r.sq (K:=K) q1 e1
   rw[x7 e2 h2]at h1
   split at h
   ·rename_i hz
    refine⟨Vw.st a,p,ys.map Vw.st,qa,rfl,h1,?_,h.aS r ?_⟩
    ·simpa [Vw.st,Str.length,Function.comp_def]using hz
    ·show V.str _=V.str _
     simp[tA]
   ·exact h.elim
  ·exact h.elim
 ·exact h.elim
end
end Vw
namespace Vw
open PySem L2 PyProof.Rows
def gF(g:Fn)(args:List Val)(s:State):Res RV:=
 match g args s.st with
 | .ok r s2=>.ok r ⟨s.sg,s2.st⟩
 | .exc x s2=>.exc x ⟨s.sg,s2.st⟩
 | .stuck=>.stuck
def cK(n:Nat)(fs:State→Res (List RV))(g:Fn)(s:State):Res RV:=(fs s).bind fun rs s=>(bc rs s).bind fun args s=>if args.length=n then gF g args s else .stuck
section
variable{C:Cst}{Z Z':Hp}{loc loc':List Addr}{s s':State}{sv sv':L2.St}{H H':Hp}
variable{X:Cx}{e a b c o:Expr}{es:List Expr}{p pos apos:Pos}{f fa fb fc fo fi fv:State→Res RV}
theorem C6{g:Fn}{n:Nat}{args:List Val}{vs:List V}{Q:VK}(r:SR C Z loc s sv H)(q:aY C.cA Z loc args vs)(hn:args.length=n)(h:EPost C Z loc sv (gF g args s) Q):bP C.cA n g vs H Q (WE C.W sv):=by
 refine⟨gy H Z loc,C.H0,Z,loc,args,s.st,r.entry _,q,hn,?_⟩
 unfold gF at h
 cases e:g args s.st with
 | stuck=>rw[e]at h;exact h
 | exc x s1=>
  rw[e]at h
  exact fun Z' l' H' c d g r' q'=>h Z' l' H' c d g (r.back g r') q'
 | ok rv s1=>
  rw[e]at h
  exact fun Z' l' H' v g r' q'=>h Z' l' H' v g (r.back g r') (bM.back r r' q')
theorem L7{k:Nat}{fA:Addr}{fd:FuncData}{ps:List Str}{x:Str}{g:Fn}{fs:State→Res (List RV)}(F:FnOk X.prog X.w X.K X.mg X.base (L2.CX X.prog X.w) k fA fd ps (bP C.cA ps.length g))(hr:Room k X.A)(hg:Gl X x)(hm:X.mg x=some (.ref fA))(hk:PySem.W.keepIn X.K (.ref fA)=true)
  (hb:Binds X.K fd ps []) (tk:Takes X C.W) (ha:PA X (e::es) (cV C fs)) (hdb:(x==("__debug__":Str))=false) (hs:(e::es).all notStar=true):
  PE X (.Call (.Name x p) (e::es) [] pos) (au C (cK ps.length fs g)):=by
 have hs':=hs
 simp only[List.all_cons,Bool.and_eq_true]at hs
 refine bq (pe_callS F hr hg hm hk hb (fun σ=>passAt tk σ) ha hdb (bx hs.1) (eW hs.2)) fun sv H Q h=>(cV.at h).imp fun vs H1 ⟨Z,loc,s,xs,r,q,h⟩=>?_
 cases e1:bc xs s with
 | stuck=>rw[e1]at h;exact h.elim
 | exc x s1=>exact absurd e1 ie
 | ok args s1=>
  rw[e1]at h
  simp only[Res.bind]at h
  obtain⟨Z1,g1,r1,q1⟩:=r.bc q e1
  split at h
  ·rename_i hn
   exact C6 r1 q1 hn (EPost.ext h g1)
  ·exact h.elim
theorem ji{k n:Nat}{fA:Addr}{fd:FuncData}{ps:List Str}{x:Str}{g:Fn}{fs:State→Res (List RV)}{cA:String→Addr}(hC:C.cA=cA)(tk:Takes X C.W)(F:FnOk X.prog X.w X.K X.mg X.base (L2.CX X.prog X.w) k fA fd ps (bP cA n g))(hr:Room k X.A)(hg:Gl X x)(hm:X.mg x=some (.ref fA))(hk:PySem.W.keepIn X.K (.ref fA)=true)
  (hb:Binds X.K fd ps []) (hn:ps.length=n) (ha:PA X (e::es) (cV C fs)) (hdb:(x==("__debug__":Str))=false) (hs:(e::es).all notStar=true):
  PE X (.Call (.Name x p) (e::es) [] pos) (au C (cK n fs g)):=by
 subst hn hC
 exact L7 F hr hg hm hk hb tk ha hdb hs
theorem oJ{P:Program}{w:World}{K:PySem.W.Frag}{mg:Str→Option Value}{base:Heap}{x qual:Str}{params:Arguments}{body:List Stmt}{scope:Scope}{f:Addr}{fd:FuncData}{N ps:List Str}{cA:String→Addr}{b:State→Res Fl}{k n m:Nat}
  (F:FunD K x qual params body scope [] [] f fd) (S:FnScope N ps scope) (hn:ps.length=n) (hm:N.length=m)
  (hb:∀ (cdv:Value) (A:Around) (outer:List Env) (s:Shared) (H:Hp) (E:XK) (C:Cst),Room k (A.deeper (envOfC qual scope s.heap.objs.size f cdv))→C.cA=cA→Takes (cxOf (L2.CX P w) P w K mg base N qual scope f cdv A outer s H E) C.W→PSs (cxOf (L2.CX P w) P w K mg base N qual scope f cdv A outer s H E) body (dj C b)):
  FnOk P w K mg base (L2.CX P w) (k+1) f fd ps (bP cA n (cW m b)):=by
 subst hn hm
 refine F.ok S sj fun cdv A outer s H vs Q E hr h=>?_
 obtain⟨Fr,H0,Z,loc,args,st,r,q,hl,h⟩:=h
 exact⟨_,hb cdv A outer s H E (fX cA Fr H0 E) hr rfl (takes_of rfl rfl rfl rfl),qN (ps:=ps) r q hl h fun _ _ _ z=>z⟩
def sr(c:String)(s:State):Res Fl:=.exc ⟨c,none⟩ s
structure ExF (K:PySem.W.Frag) (C:Addr):Prop where
 ei:PySem.W.excIn K C He.veBase "ValueError.__new__"=true
 kC:PySem.W.keepIn K (.ref C)=true
 sB:PySem.W.subIn K (.ref C) (.type "BaseException")=some true
 tC:PySem.W.typeIn K (.ref C)=some (.type "type")
theorem LR{x m:Str}{j:Nat}{c:String}{p p2 pos pos':Pos}(hc:X.calm=true)(tk:Takes X C.W)(F:ExF X.K (C.cA c))(gC:X.mg x=some (.ref (C.cA c)))(hg:Gl X x)(hdb:(x==("__debug__":Str))=false):
  PS X (.Raise (some (.Call (.Name x p) [.Constant (.str m) j p2] [] pos)) none pos') (dj C (sr c)):=by
 refine gb (ps_raise hc tk (pmk_own PySem.F.excBase_ValueError F.ei gC F.kC (raises_own F.sB F.tC) hg hdb)) fun D sv H ⟨Z,loc,s,r,h⟩=>?_
 exact h Z loc sv H _ _ (Ext.refl _ _) r ⟨rfl,rfl⟩
theorem x_raise{x:String}{m:Str}{j:Nat}{cA:String→Addr}{p p2 pos pos':Pos}(hC:C.cA=cA)(hc:X.calm=true)(tk:Takes X C.W)(F:ExF X.K (cA x))(gC:X.mg (Str.ofString x)=some (.ref (cA x)))(hg:Gl X (Str.ofString x))(hdb:((Str.ofString x)==("__debug__":Str))=false):
  PS X (.Raise (some (.Call (.Name (Str.ofString x) p) [.Constant (.str m) j p2] [] pos)) none pos') (dj C (sr x)):=by
 subst hC
 exact LR hc tk F gC hg hdb
end
end Vw
namespace L2
open PySem PySem.Spec PyProof.Rows
section
variable{X:Cx}{pins:List (Addr×Obj)}{σ:St}{H:Hp}{s:Shared}
theorem Inv.PQ{a:Addr}{u:HO}(I:Inv X pins σ H s)(na:H a=none)(n0:X.s_0.heap.get? a=none)(nL:a≠X.env.locals)(nC:∀ x c,X.env.cells.lookup x=some c→c≠a)
  (np:∀ p∈X.pn++pins,p.1≠a) (ok:ObjOk X.prog X.w (upd H a u) s.heap a u):Inv X pins σ (upd H a u) s where
 ok:=I.ok
 os:=I.os
 bare:=I.bare
 base:={
  keep:=I.base.keep
  slot:=I.base.slot
  free:=fun b o e n hx=>by
   rw[upd_ne (show b≠a from fun z=>by rw[z,n0]at e;cases e)]
   exact I.base.free b o e n hx
  there:=I.base.there
  tups:=fun b xs q=>by
   have z:=I.base.tups b xs q
   rw[upd_ne (ne_of_none z na)];exact z
  frzs:=fun b o v q=>by
   have z:=I.base.frzs b o v q
   rw[upd_ne (ne_of_none z na)];exact z
  tbls:=fun b ps q=>by
   obtain⟨more,z⟩:=I.base.tbls b ps q
   exact⟨more,by rw[upd_ne (ne_of_none z na)];exact z⟩ }
 loc:=I.loc
 cell:=I.cell
 free:=by rw[upd_ne (Ne.symm nL)];exact I.free
 freeC:=fun x c e=>by rw[upd_ne (nC x c e)];exact I.freeC x c e
 pin:=fun p hp=>by
  obtain⟨h1,h2,h3⟩:=I.pin p hp
  exact⟨h1,by rw[upd_ne (np p hp)];exact h2,h3⟩
 hok:=fun b o e=>by
  by_cases hb:b=a
  ·subst hb
   rw[upd_same]at e
   cases e
   exact ok
  ·rw[upd_ne hb]at e
   exact(I.hok b o e).stay (fun c w' hc q=>q) (fun c q=>by rw[upd_ne (ne_of_none q na)];exact q) fun c xs q=>by rw[upd_ne (ne_of_none q na)];exact q
 len:=I.len
end
end L2
namespace Vw
open PySem L2 PySem.Spec PyProof.Rows
theorem Ox{P:Program}{w:World}{H:Hp}{h:Heap}{a:Addr}{cls:Value}{d:Option Addr}{oe:Obj}{vs:Array Value}(e:h.get? a=some oe)(z:Zc cls d oe)(hd:oe.data=.fields vs):ObjOk P w H h a (tY cls a d):=
 ⟨⟨oe,e,z,vs,hd⟩,⟨oe,e⟩,fun _ _ ⟨o,q,r⟩ k=>⟨o,k o q,r⟩⟩
def KP(K:PySem.W.Frag)(c:Value)(i j:Nat)(Wout:WX)(D:Ends):WX:=fun cls d σ H=>
 ∃ b,PySem.W.exmOne K cls c=some b∧(b=true→∀ a,H a=none→D.nx (((σ.set i (some (.ref a))).set j (some (.ref a))).set i none) (upd H a (tY cls a d)))∧(b=false→Wout cls d σ H)
section
variable{X:Cx}{x n v:Str}{c:Value}{i j:Nat}{body:List Stmt}{np pos pos' p1 p2 p3:Pos}{tb:WX→TS}{Wout:WX}
theorem EO(hs:X.stack=X.env::X.outer)(hf:X.env.frame=some X.env.locals)(hex:X.ex=[])(hN:X.N.Nodup)(hi:X.N[i]? =some n)(hj:X.N[j]? =some v)(hij:i≠j)(hln:X.env.kindOf n=some .local)(hlv:X.env.kindOf v=some .local)(hc:Names X x c)(tk:Takes X Wout)
  (hb:∀ (W:WX) (pn:List (Addr×Obj)) (xe:Value→Shared→Prop),Takes (X.tr pn xe) W→PassesOwn (model X.prog X.w) X.A X.env xe→PSs (X.tr pn xe) body (tb W))
  (hdn:(n==("__debug__":Str))=false) (hcn:(n==("__classdict__":Str))=false) (hsw:swapsWithSole [.Name v p1] (.Name n p2) p3.line X.env=pure false) (hsw2:swappedStores [.Name v p1] (.Name n p2) X.env=pure none):
  PS X (.Try body [.ExceptHandler (some (.Name x np)) (some n) [.Assign [.Name v p1] (.Name n p2) p3] pos'] [] [] pos) (fun D σ H=>tb (KP X.K c i j Wout D) D σ H):=by
 refine⟨fun pins s σ H D I h=>?_⟩
 have ok:=I.ok
 have hfr:X.A.frames=some (X.env::X.outer):=by rw[ok.frames,hs]
 have hloc:Loc X.env.scope n:=.inl hln
 refine wpAny_Try_except ?_
 refine wpAny_mono ((hb (KP X.K c i j Wout D) (X.pn++pins) (fun e s₁=>wpAny (model X.prog X.w) X.A (noteFrame e X.env) (fun _ s₂=>wpAny (model X.prog X.w) X.A (setFlight e none) (fun _ s₃=>
  wpAny (model X.prog X.w) X.A (handleBy e X.env [.ExceptHandler (some (.Name x np)) (some n) [.Assign [.Name v p1] (.Name n p2) p3] pos']) (SP X pins D) X.xe s₃) X.xe s₂) X.xe s₁) (fun u s' xx=>?_) PassesOwn.looking).run [] s σ H D (I.toTry _) h) (fun f s1 hsp=>?_) (fun e s1 he=>he)
 ·-- the catch
  obtain⟨a,B,sI,pins',σ',H',cls,d,rfl,J',nb,up,sky,na,os,ag,b,hb1,hyes,hno⟩:=xx
  have J:Inv X pins σ' H' sI:=J'.ofTry ok
  have sky':Sky B (X.env::X.outer) a (Zc cls d) X.env.locals s'.heap:=by rw[←hs];exact sky
  show wpAny (model X.prog X.w) X.A (noteFrame (.ref a) X.env) _ _ _
  refine Sky.land Zc.steady hfr hf sky' fun h3 fl3 up3=>?_
  have J3:Inv X pins σ' H' { s' with heap:=h3 }:=J.landed nb fl3.1 (up.trans up3) os ag
  obtain⟨oe3,vs3,he3,hz3,hd3⟩:=fl3.there
  have notFr:∀ {h:Heap} {o:Obj} {vs:Array Value},h.FunFrames B (X.env::X.outer)→h.get? a=some o→o.data=.fields vs→a∉frs (X.env::X.outer):=fun {h o vs} ff e dd hm=>by
   obtain⟨_,o',e',hnf⟩:=ff.mem hm
   rw[e]at e';cases e'
   exact hnf _ dd
  have nfr:=notFr fl3.2.2.1 he3 hd3
  have nL:a≠X.env.locals:=fun z=>nfr (List.mem_filterMap.mpr ⟨X.env,List.mem_cons_self,by rw[hf,z]⟩)
  have nF:a∉X.fs:=fun hm=>by
   obtain⟨e,he,q⟩:=List.mem_filterMap.mp hm
   exact nfr (List.mem_filterMap.mpr ⟨e,List.mem_cons_of_mem _ he,q⟩)
  have nI:sI.heap.get? a=none:=by
   cases e:sI.heap.get? a with
   | none=>rfl
   | some o=>
    have z:=nb a o e (by rw[hs];exact nfr)
    rw[fl3.2.1]at z
    cases z
  have n0:X.s_0.heap.get? a=none:=by
   cases e:X.s_0.heap.get? a with
   | none=>rfl
   | some o=>
    obtain⟨o',z⟩:=J.base.there a o e (by rw[hex];simp)
    rw[nI]at z
    cases z
  have npn:∀ p∈X.pn++pins,p.1≠a:=fun p hp z=>by
   obtain⟨e,_⟩:=J.pin p hp
   rw[z,nI]at e
   cases e
  have nCl:∀ x c,X.env.cells.lookup x=some c→c≠a:=fun x c e z=>by
   obtain⟨w,q⟩:=J.cell x c e
   subst z
   unfold Heap.IsCell at q
   first
    | (obtain⟨o,q1,_⟩:=q;rw[nI]at q1;cases q1)
    | (rw[nI]at q;cases q)
  have S3:=J3.suite he3 hd3 na nL nF
  refine wpAny_handleBy_cons (codeAny_handlers_test ?_) (by intro q;cases q)
  have LT:PySem.W.Looks (model X.prog X.w) h3 (typeOf (.ref a)) cls:=fun A Q E s k q=>wpAny_typeOf_ref (k _ _ he3) (by rw[hz3.1];exact q)
  have LM:=PySem.W.exm_one (M:=model X.prog X.w) (J3.kIn) LT hb1
  have test:∀ {Q:Value→Shared→Prop} {E:Value→Shared→Prop},Q c { s' with heap:=h3 }→wpAny (model X.prog X.w) (X.A.mark (some (.ref a))) (eval (.Name x np) X.env) Q E { s' with heap:=h3 }:=fun {Q E} q=>by
   obtain⟨hg,hdbg,hm | ⟨hm,hv,hnn⟩⟩:=hc
   ·exact ld_glob (X:=X.suite a ((a,oe3)::(X.pn++pins))) S3 hg hm q hdbg
   ·exact ld_blt (X:=X.suite a ((a,oe3)::(X.pn++pins))) S3 hg hm hv q hnn hdbg
  refine test (LM.here ?_)
  cases b with
  | true=>
   refine codeAny_handlers_suite_as ?_
   refine HandSPX.lands_againZ fl3 fun h4 fl4 up4=>?_
   have J4:Inv X pins σ' H' { s' with heap:=h4 }:=J.landed nb fl4.1 ((up.trans up3).trans up4) os ag
   obtain⟨oe4,vs4,he4,hz4,hd4⟩:=fl4.there
   have S4:=J4.suite he4 hd4 na nL nF
   refine store_ok (X:=X.suite a ((a,oe4)::(X.pn++pins))) (v:=.ref a) S4 hN hi hloc rfl (fun s5 S5=>?_) (.inr hln)
   have hlen:i<σ'.length:=by
    rw[J.len]
    exact(List.getElem?_eq_some_iff.mp hi).1
   have hsu:PSs (X.suite a ((a,oe4)::(X.pn++pins))) [.Assign [.Name v p1] (.Name n p2) p3] (fun D σ H=>∃ w,σ[i]? =some (some w)∧D.nx (σ.set j (some w)) H):=by
    refine pss_one (gb (ps_asg (pe_var (i:=i) hi (.inl hln) hdn hcn) (pg_name (i:=j) hN hj (.inl hlv) (.inr hlv)) hsw hsw2) fun D σ H h=>?_)
    obtain⟨w,e1,q⟩:=h
    exact⟨w,e1,q⟩
   refine wpAny_mono (hsu.run [] s5 _ H' { nx:=fun σ6 H6=>σ6=((σ'.set i (some (.ref a))).set j (some (.ref a)))∧H6=H',rt:=fun _ _=>False,bk:=fun _ _=>False,ct:=fun _ _=>False } S5 ⟨.ref a,by rw[List.getElem?_set_self hlen],rfl,rfl⟩) (fun f s6 hsp=>?_) (fun _ _ z=>False.elim z)
   have fin6:∀ {σ6:L2.St} {H6:Hp},Inv (X.suite a ((a,oe4)::(X.pn++pins))) [] σ6 H6 s6→σ6=((σ'.set i (some (.ref a))).set j (some (.ref a)))→H6=H'→
     wpAny (model X.prog X.w) X.A (do bindName X.env n .none;unbindBehindTheSuite X.env n pos') (fun _ s7=>SP X pins D .next s7) X.xe s6:=fun {σ6 H6} S6 e1 e2=>by
    subst e1 e2
    obtain⟨g6,_⟩:=S6.pin (a,oe4) (List.mem_append_left _ List.mem_cons_self)
    have J6:=(S6.unsuite ok).PQ (u:=tY cls a d) na n0 nL nCl npn (Ox g6 hz4 hd4)
    exact gone_ok J6 hN hi hln fun s7 J7=>⟨_,_,J7,hyes rfl a na⟩
   cases f with
   | next=>
    obtain⟨σ6,H6,S6,q1,q2⟩:=hsp
    exact fin6 S6 q1 q2
   | brk=>
    obtain⟨σ6,H6,S6,q6⟩:=hsp
    exact q6.elim
   | cont=>
    obtain⟨σ6,H6,S6,q6⟩:=hsp
    exact q6.elim
   | ret u=>
    obtain⟨v6,σ6,H6,S6,r6,q6⟩:=hsp
    exact q6.elim
  | false=>
   show wpAny _ X.A (handleBy (.ref a) X.env []) _ _ _
   refine wpAny_handleBy_nil ?_
   obtain⟨k1,k2,k3,oe,vs,T,oT,ts',he,hz,hd,h1,hr⟩:=id fl3
   unfold PySem.passOn
   refine wpAny_bind (wpAny_field he hd h1 ?_)
   rw[if_neg (show ¬ ((Value.ref T==Value.none)=true)from by simp)]
   have fin:wpAny (model X.prog X.w) X.A (setFlight (.ref a) X.env.frame) (fun _ s4=>wpAny (model X.prog X.w) X.A (throw (.ref a):Sem Flow) (SP X pins D) X.xe s4) X.xe { s' with heap:=h3 }:=by
    rw[hf]
    refine HandSPX.setFlight_upZ fl3 fun h4 hh4 up4=>wpAny_throw (tk _ _ ?_)
    exact⟨a,B,sI,pins,σ',H',cls,d,rfl,J,nb,(up.trans up3).trans up4,.inr (.inr (by rw[hs];exact hh4)),na,os,ag,hno rfl⟩
   first
    | exact wpAny_bind (wpAny_pure (wpAny_bind fin))
    | exact wpAny_bind fin
 ·cases f with
  | next=>
   obtain⟨σ',H',J',q⟩:=hsp
   exact wpAny_execs_nil ⟨σ',H',J'.ofTry ok,q⟩
  | brk=>
   obtain⟨σ',H',J',q⟩:=hsp
   exact⟨σ',H',J'.ofTry ok,q⟩
  | cont=>
   obtain⟨σ',H',J',q⟩:=hsp
   exact⟨σ',H',J'.ofTry ok,q⟩
  | ret u=>
   obtain⟨v,σ',H',J',r,q⟩:=hsp
   exact⟨v,σ',H',J'.ofTry ok,r,q⟩
end
end Vw
namespace Vw
open PySem L2 PyProof.Rows
def jz(N:List String)(c T:String):Option Bool:=if N.contains c then(if T="ValueError" then some true else if N.contains T then some (decide (T="FindError")||decide (c=T))else none)else none
def G9(x:Exn):D:=.exc x.c x.p.toList
def i6(N:List String)(T:String)(i j:Nat)(f:State→Res Fl)(s:State):Res Fl:=
 match f s with
 | .exc x s=>match jz N x.c T with
  | some true=>.ok .nx { s with sg:=((s.sg.set i none).set j (some (.v (.d (G9 x))))).set i none }
  | some false=>.exc x s
  | none=>.stuck
 | r=>r
def zH(N:List String)(T:String)(f u:State→Res Fl)(s:State):Res Fl:=
 match f s with
 | .exc x s=>match jz N x.c T with
  | some true=>u s
  | some false=>.exc x s
  | none=>.stuck
 | r=>r
section
variable{C C':Cst}{Z Z':Hp}{loc loc':List Addr}{s s':State}{sv sv':L2.St}{H H':Hp}
theorem SR.w(r:SR C Z loc s sv H)(W:WX):SR { C with W:=W } Z loc s sv H:=⟨r.fr,r.zh,r.zf,r.lk,r.ln,r.nd,r.lh,r.cl,r.vl,r.ow,r.oi,r.ls⟩
theorem SR.og{W:WX}(r:SR { C with W:=W } Z loc s sv H):SR C Z loc s sv H:=⟨r.fr,r.zh,r.zf,r.lk,r.ln,r.nd,r.lh,r.cl,r.vl,r.ow,r.oi,r.ls⟩
theorem SR.PU(r:SR C Z loc s sv H)(i:Nat){x:Val}{v:V}(q:bX C.cA Z loc x v):SR C Z loc { s with sg:=s.sg.set i (some (.v x)) } (sv.set i (some v)) H:=by
 by_cases hi:i<sv.length
 ·exact r.store hi q
 ·have h1:s.sg.set i (some (.v x))=s.sg:=List.set_eq_of_length_le (by rw[r.ls];omega)
  have h2:sv.set i (some v)=sv:=List.set_eq_of_length_le (by omega)
  rw[h1,h2]
  exact r
theorem SR.OT(r:SR C Z loc s sv H){x:Exn}{c:Value}{d:Option Addr}(q:ke C Z H x c d){a:Addr}(na:H a=none):
  Ext Z loc (upd Z a (tY c a d)) loc∧SR C (upd Z a (tY c a d)) loc s sv (upd H a (tY c a d))∧bK C.cA (upd Z a (tY c a d)) (G9 x) (.ref a):=by
 have f:=r.free na
 have g:=bI (o:=tY c a d) f.z
 refine⟨Ext.z g,(r.grow (bI na)).vB upd_same f,?_⟩
 obtain⟨rfl,q⟩:=q
 cases e:x.p with
 | none=>
  rw[e]at q
  exact⟨a,d,[],rfl,upd_same,.inl ⟨q,rfl⟩,by rw[e];rfl⟩
 | some p=>
  rw[e]at q
  obtain⟨dd,v,rfl,q1,q2⟩:=q
  exact⟨a,_,[v],rfl,upd_same,.inr ⟨dd,v,rfl,rfl,g _ _ q1⟩,by rw[e];exact⟨v,[],rfl,bK.mono g p q2,rfl⟩⟩
end
def EM(N:List String)(K:PySem.W.Frag)(cA:String→Addr)(T:String)(cv:Value):Prop:=∀ c b,jz N c T=some b→PySem.W.exmOne K (.ref (cA c)) cv=some b
section
variable{C:Cst}{X:Cx}{N:List String}{T:String}{x n v:Str}{cv:Value}{i j:Nat}{body suite:List Stmt}{b₀:Stmt}{np pos pos' p1 p2 p3:Pos}{f u:State→Res Fl}
theorem HS(hs:X.stack=X.env::X.outer)(hf:X.env.frame=some X.env.locals)(hex:X.ex=[])(hN:X.N.Nodup)(hi:X.N[i]? =some n)(hj:X.N[j]? =some v)(hij:i≠j)(hln:X.env.kindOf n=some .local)(hlv:X.env.kindOf v=some .local)(hc:Names X x cv)(em:EM N X.K C.cA T cv)(tk:Takes X C.W)
  (hb:∀ (C':Cst) (pn:List (Addr×Obj)) (xe:Value→Shared→Prop),C'.cA=C.cA→Takes (X.tr pn xe) C'.W→PassesOwn (model X.prog X.w) X.A X.env xe→PSs (X.tr pn xe) body (dj C' f))
  (hdn:(n==("__debug__":Str))=false) (hcn:(n==("__classdict__":Str))=false) (hsw:swapsWithSole [.Name v p1] (.Name n p2) p3.line X.env=pure false) (hsw2:swappedStores [.Name v p1] (.Name n p2) X.env=pure none):
  PS X (.Try body [.ExceptHandler (some (.Name x np)) (some n) [.Assign [.Name v p1] (.Name n p2) p3] pos'] [] [] pos) (dj C (i6 N T i j f)):=by
 refine gb (EO (tb:=fun W=>dj { C with W:=W } f) (Wout:=C.W) hs hf hex hN hi hj hij hln hlv hc tk (fun W pn xe t po=>hb _ pn xe rfl t po) hdn hcn hsw hsw2) fun D sv H ⟨Z,loc,s,r,h⟩=>?_
 refine⟨Z,loc,s,r.w _,?_⟩
 unfold i6 at h
 cases e:f s with
 | stuck=>rw[e]at h;exact h
 | ok k s1=>
  rw[e]at h
  cases k with
  | nx=>exact fun Z' l' sv' H' g r'=>h Z' l' sv' H' g r'.og
  | brk=>exact fun Z' l' sv' H' g r'=>h Z' l' sv' H' g r'.og
  | cnt=>exact fun Z' l' sv' H' g r'=>h Z' l' sv' H' g r'.og
  | ret rv=>
   intro Z' l' sv' H' v g r' q
   refine h Z' l' sv' H' v g r'.og ?_
   cases rv with
   | val x=>exact q
   | own i=>exact q
   | new o=>
    obtain⟨a,q1,q2,q3,q4⟩:=q
    exact⟨a,q1,q2,q3,⟨q4.z,q4.f,q4.l,q4.o⟩⟩
 | exc x s1=>
  rw[e]at h
  intro Z' l' sv' H' c d g r' q
  have q':ke C Z' H' x c d:=q
  cases eb:jz N x.c T with
  | none=>
   dsimp only at h
   rw[eb]at h
   exact h.elim
  | some b=>
   refine⟨b,?_,fun hb=>?_,fun hb=>?_⟩
   ·rw[q'.1];exact em _ _ eb
   ·subst hb
    dsimp only at h
    rw[eb]at h
    intro a na
    obtain⟨g2,r2,q2⟩:=r'.og.OT q' na
    exact h _ _ _ _ (g.trans g2) (((r2.unset i (some (.ref a))).PU j (x:=.d (G9 x)) q2).unset i none)
   ·subst hb
    dsimp only at h
    rw[eb]at h
    exact h Z' l' sv' H' c d g r'.og q'
end
end Vw
namespace Vw
open PySem L2 PyProof.Rows
def lg(N:List String)(T:String)(f:State→Res RV)(s:State):Res RV:=(ev f s).bind fun r s=>
 match dv s r with
 | some (.exc c _)=>match jz N c T with
  | some b=>aS (.bl b) s
  | none=>.stuck
 | some .non=>aS (.bl false) s
 | _=>.stuck
structure ExK (N:List String) (K:PySem.W.Frag) (cA:String→Addr) (T:String) (cv:Value):Prop where
 ex:∀ c b,jz N c T=some b→ExcC K (cA c)∧PySem.W.kitOne K (.ref (cA c)) cv=some b
 no:PySem.W.kitOne K (.type "NoneType") cv=some false
def OC(K:PySem.W.Frag)(c:V)(cv:Value):List V→Hp→VK→Prop:=fun xs H Q=>
 (∃ a D d ws b,xs=[.ref a,c]∧H a=some (tY (.ref D) a d)∧C3 H d ws∧ExcC K D∧PySem.W.kitOne K (.ref D) cv=some b∧Q (.bl b) H)∨(xs=[.non,c]∧PySem.W.kitOne K (.type "NoneType") cv=some false∧Q (.bl false) H)
section
variable{C:Cst}{Z Z' Zc:Hp}{loc loc':List Addr}{s s':State}{sv sv':L2.St}{H H':Hp}
variable{X:Cx}{e a b c o:Expr}{es:List Expr}{p pos apos pt:Pos}{f fa fb fc fo fi fv:State→Res RV}{fs:State→Res (List RV)}
theorem Fj{P:Program}{w:World}{H:Hp}{h:Heap}{a D:Addr}{d:Option Addr}{ws:List V}(hok:HOk P w H h)(e:H a=some (tY (.ref D) a d))(x:C3 H d ws):
  ∃ oe od,PySem.W.InstAt h a oe D od∧∀ w,ws=[w]→∃ ob u,od=some ob∧PySem.W.lookIn (Str.ofString "place") ob=some (some u)∧RelV w u:=by
 obtain⟨⟨oe,ha,hz,vs,hd⟩,_,_⟩:=hok a _ e
 rcases x with⟨rfl,rfl⟩ | ⟨dd,w,rfl,rfl,hx⟩
 ·exact⟨oe,none,⟨ha,hz.1,by unfold PySem.W.notCls;rw[hd]<;> rfl,by rw[hz.2];trivial⟩,fun w h=>by cases h⟩
 ·obtain⟨mA,hns,hr⟩:=hok dd _ hx
  obtain⟨od,ho,hl⟩:=lookIn_ns hns
  obtain⟨u,hu,ru⟩:=RelO.some_of (v:=w) (o:=mA "place") (by have:=hr (Str.ofString "place");simpa [List.lookup]using this)
  exact⟨oe,some od,⟨ha,hz.1,by unfold PySem.W.notCls;rw[hd]<;> rfl,by rw[hz.2];exact ho⟩,fun w' h=>by
   cases h
   exact⟨od,u,rfl,by rw[hl,hu],ru⟩⟩
theorem J8{c:V}{cv:Value}(hc:ClsV c cv):CallR X (.builtin "isinstance") (OC X.K c cv):=by
 intro pins s σ H xs us Q I r h
 rcases h with⟨a,D,d,ws,b,rfl,ha,hx,hC,e,q⟩ | ⟨rfl,e,q⟩
 ·cases r with
  | cons rx rr=>
   cases rr with
   | cons rt rr=>
    cases rr
    cases rx
    have ec:=hc.eq rt
    subst ec
    obtain⟨oe,od,J,_⟩:=Fj I.hok ha hx
    have hcl:(PySem.W.clsIn X.K D).isSome=true:=by
     obtain⟨cd,h,_⟩:=PySem.W.any_some hC.hd
     rw[h]<;> rfl
    exact PySem.W.kia_one (PySem.W.kitx_exc (od:=od) hcl hC.hg hC.hk hC.hs hC.ha hC.hn hC.ht hC.hm) I.kIn J e (fun z=>nomatch z) fun tk=>⟨.bl b,H,I.kept (t':=tk) fun _ _ z=>z,rfl,q⟩
 ·exact call_isi pins s σ H _ us Q I r ⟨.non,c,.type "NoneType",cv,false,rfl,hc,.base .non,e,q⟩
theorem KA{N:List String}{T:String}{c:V}{cv:Value}{tx:Expr}(he:PE X e (au C f))(hg:Gl X "isinstance")(hm:X.mg "isinstance"=none)(hT:PE X tx (tC c))(hc:ClsV c cv)(E:ExK N X.K C.cA T cv)(hs:notStar e=true)(hs2:notStar tx=true):
  PE X (.Call (.Name "isinstance" p) [e,tx] [] pos) (au C (lg N T f)):=by
 refine bq (pe_callB (J8 hc) hg hm tR (pa_cons he (pa_cons hT pa_nil (bx hs2)) (bx hs)) (by decide) (by decide) (bx hs) (by rw[eW];simpa using hs2)) fun sv H Q ⟨Z,loc,s,r,q⟩=>?_
 refine(au.nq r q).imp fun v H1 ⟨Z1,l1,s1,y,g1,r1,st1,q1,h1⟩=>?_
 show OC X.K c cv [v,c] H1 Q
 cases ed:Vw.dv s1 y with
 | none=>rw[ed]at h1;exact h1.elim
 | some d=>
  rw[ed]at h1
  have qd:=r1.dv q1 ed
  cases d with
  | non=>exact .inr ⟨by rw[show v=.non from qd],E.no,h1.aS r1 rfl⟩
  | exc x ps=>
   cases eb:jz N x T with
   | none=>dsimp only at h1;rw[eb]at h1;exact h1.elim
   | some b=>
    dsimp only at h1
    rw[eb]at h1
    obtain⟨a,d,ws,rfl,za,zx,_⟩:=qd
    obtain⟨e1,e2⟩:=E.ex _ _ eb
    have hZ:Same Z1 Z1:=Same.refl _
    refine .inl ⟨a,C.cA x,d,ws,b,rfl,(r1.zh a _ za).at rfl,?_,e1,e2,h1.aS r1 rfl⟩
    rcases zx with zx | ⟨dd,w,z1,z2,z3⟩
    ·exact .inl zx
    ·exact .inr ⟨dd,w,z1,z2,(r1.zh dd _ z3).at rfl⟩
  | _=>exact h1.elim
theorem oD{N:List String}{T:String}{cA:String→Addr}(hC:C.cA=cA)(he:PE X e (au C f))(hg:Gl X "isinstance")(hm:X.mg "isinstance"=none)(hg2:Gl X (Str.ofString T))(hm2:X.mg (Str.ofString T)=some (.ref (cA T)))(E:ExK N X.K cA T (.ref (cA T)))(hs:notStar e=true)
  (hd:((Str.ofString T)==("__debug__":Str))=false):PE X (.Call (.Name "isinstance" p) [e,.Name (Str.ofString T) pt] [] pos) (au C (lg N T f)):=by
 subst hC
 exact KA he hg hm (pe_glob (v:=.ref (C.cA T)) hg2 hm2 rfl hd) (.own _) E hs rfl
theorem NQ{N:List String}{cA:String→Addr}(hC:C.cA=cA)(he:PE X e (au C f))(hg:Gl X "isinstance")(hm:X.mg "isinstance"=none)(hg2:Gl X "ValueError")(hm2:X.mg "ValueError"=none)(E:ExK N X.K cA "ValueError" (.type "ValueError"))(hs:notStar e=true):
  PE X (.Call (.Name "isinstance" p) [e,.Name "ValueError" pt] [] pos) (au C (lg N "ValueError" f)):=by
 subst hC
 exact KA he hg hm (pe_bltn (v:=.ty "ValueError") hg2 hm2 (by decide+kernel) rfl (by decide) (by decide)) (.ty _) E hs rfl
def M6(K:PySem.W.Frag)(te:TE):TE:=fun σ H Q=>te σ H fun x H1=>∃ a D d w,x=.ref a∧H1 a=some (tY (.ref D) a d)∧C3 H1 d [w]∧XfC K D∧PySem.W.findIn K (.ref D) "place"=some none∧Q w H1
theorem Ka{te:TE}(he:PE X e te)(hb:attributeBase e "place" X.env (eval e X.env)=eval e X.env):PE X (.Attribute e "place" pos) (M6 X.K te):=by
 refine⟨fun pins s σ H Q I h=>?_⟩
 refine attr_of hb (thn (he.run pins s σ H _ I h) fun u s1 hh=>?_)
 obtain⟨x,H1,I1,rx,a,D,d,w,ex,ha,hx,T,hno,q⟩:=hh
 subst ex
 obtain rfl:u=Value.ref a:=rx
 obtain⟨oe,od,J,hw⟩:=Fj I1.hok ha hx
 obtain⟨ob,u,rfl,l,ru⟩:=hw w rfl
 exact HandSPX.exc_get I1.kIn J T.ga T.gg T.exC (PySem.W.findObj_own T.hdC hno rfl l) (handed_of ru) ⟨w,H1,I1.tok _,ru,q⟩
end
end Vw
namespace Vw
open PySem L2 PyProof.Rows
def PM(N:List String)(K:PySem.W.Frag)(cA:String→Addr):Prop:=∀ c∈N,XfC K (cA c)∧PySem.W.findIn K (.ref (cA c)) "place"=some none
def Ld(N:List String)(f:State→Res RV)(s:State):Res RV:=(ev f s).bind fun r s=>
 match dv s r with
 | some (.exc c [p])=>if N.contains c then aS p s else .stuck
 | _=>.stuck
def vK(T:String)(f:State→Res RV)(s:State):Res Fl:=(ev f s).bind fun r s=>match cf r s with
 | .ok (.d x) s=>.exc ⟨T,some x⟩ s
 | _=>.stuck
section
variable{C:Cst}{Z Z' Zc:Hp}{loc loc':List Addr}{s s':State}{sv sv':L2.St}{H H':Hp}
variable{X:Cx}{e a b c o:Expr}{es:List Expr}{p p2 pos pos' apos pt:Pos}{f fa fb fc fo fi fv:State→Res RV}{fs:State→Res (List RV)}
theorem Fc{N:List String}{cA:String→Addr}(hC:C.cA=cA)(F:PM N X.K cA)(he:PE X e (au C f))(hb:attributeBase e "place" X.env (eval e X.env)=eval e X.env):PE X (.Attribute e "place" pos) (au C (Ld N f)):=by
 subst hC
 refine bq (Ka he hb) fun sv H Q ⟨Z,loc,s,r,q⟩=>?_
 refine(au.nq r q).imp fun v H1 ⟨Z1,l1,s1,y,g1,r1,st1,q1,h1⟩=>?_
 cases ed:Vw.dv s1 y with
 | none=>rw[ed]at h1;exact h1.elim
 | some d=>
  rw[ed]at h1
  have qd:=r1.dv q1 ed
  cases d with
  | exc x ps=>
   cases ps with
   | nil=>exact h1.elim
   | cons p ps=>
    cases ps with
    | cons _ _=>exact h1.elim
    | nil=>
     dsimp only at h1
     split at h1
     ·rename_i hm
      have hm':x∈N:=by simpa using hm
      obtain⟨T,hno⟩:=F x hm'
      obtain⟨a,d,ws,rfl,za,zx,w,ws',e1,qw,e2⟩:=qd
      cases e2
      subst e1
      refine⟨a,C.cA x,d,w,rfl,(r1.zh a _ za).at rfl,?_,T,hno,h1.aS r1 qw⟩
      rcases zx with zx | ⟨dd,w',z1,z2,z3⟩
      ·cases zx.2
      ·exact .inr ⟨dd,w',z1,z2,(r1.zh dd _ z3).at rfl⟩
     ·exact h1.elim
  | _=>exact h1.elim
end
def RN(K:PySem.W.Frag)(C:Addr):Sp:=fun vs H Q E=>∃ (a:Addr) (v:V),vs=[.ref a,v]∧OexC K C∧PySem.W.findIn K (.ref C) "place"=some none∧H a=some (exo a C none)∧
 ∀ dx,H dx=none→dx≠a→Q .non (upd (upd H dx (exd dx [(Str.ofString "place",v)])) a (exo a C (some dx)))
theorem LL{P:Program}{w:World}{K:PySem.W.Frag}{mg:Str→Option Value}{base:Heap}{x qual:Str}{params:Arguments}{scope:Scope}{f:Addr}{fd:FuncData}{C:Addr}{q1 q2 q3 q4:Pos}
  (F:FunD K x qual params [.Assign [.Attribute (.Name "self" q1) "place" q2] (.Name "place" q3) q4] scope [] [] f fd) (S:FnScope ["self","place"] ["self","place"] scope) (hs:scope.names.lookup (Str.ofString "self")=some NameKind.local) (hp:scope.names.lookup (Str.ofString "place")=some NameKind.local):
  FnOk P w K mg base CX0 1 f fd ["self","place"] (RN K C):=by
 refine F.ok S (fun vs H Q E ⟨a,v,h,_⟩=>by rw[h];rfl) fun cdv A outer s H vs Q E hr ⟨a,v,hv,T,hno,ha,q⟩=>?_
 subst hv
 refine⟨_,pss_one (ps_ost (pe_var (i:=0) rfl (.inl hs)) (pe_var (i:=1) rfl (.inl hp))),?_⟩
 exact⟨v,rfl,.ref a,rfl,a,C,rfl,T,hno,.inl ⟨ha,fun dx h1 h2=>q dx h1 h2⟩⟩
structure OinF (P:Program) (w:World) (K:PySem.W.Frag) (mg:Str→Option Value) (base:Heap) (C fI:Addr) (fd:FuncData):Prop where
 T:OexC K C
 no:PySem.W.findIn K (.ref C) "place"=some none
 iC:PySem.W.findIn K (.ref C) "__init__"=some (some (.ref fI))
 tI:PySem.W.typeIn K (.ref fI)=some (.type "function")
 F:FnOk P w K mg base CX0 1 fI fd ["self","place"] (RN K C)
 B:Binds K fd ["self","place"] []
end Vw
namespace Vw
open PySem L2 PyProof.Rows
theorem sm{a b:String}(h:Str.ofString a=Str.ofString b):a=b:=by
 rw[Str.ofString_eq_toList,Str.ofString_eq_toList]at h
 have h1:(a.toList.map Char.toNat)=(b.toList.map Char.toNat):=by
  have:=congrArg (fun x:Str=>x.cps.toList) h
  simpa using this
 have h2:a.toList=b.toList:=by
  have inj:∀ (l m:List Char),l.map Char.toNat=m.map Char.toNat→l=m:=by
   intro l
   induction l with
   | nil=>intro m h;cases m<;> simp at h ⊢
   | cons c l ih=>
    intro m h
    cases m with
    | nil=>simp at h
    | cons d m=>
     simp only[List.map_cons,List.cons.injEq]at h
     have:c=d:=by
      apply Char.ext
      apply UInt32.toNat_inj.mp
      exact h.1
     rw[this,ih m h.2]
  exact inj _ _ h1
 exact String.toList_inj.mp h2
structure Mode (C:Cst) (X:Cx) where
 CX:CXT
 E:L2.St→XK
 hx:∀ σ,PassesAt CX X σ (E σ)
 call:Fn→List Val→State→Res RV
 sp:∀ {Z:Hp} {loc:List Addr} {s:State} {sv:L2.St} {H:Hp} {g:Fn} {n:Nat} {args:List Val} {vs:List V} {Q:VK},SR C Z loc s sv H→aY C.cA Z loc args vs→args.length=n→EPost C Z loc sv (call g args s) Q→bP C.cA n g vs H Q (E sv)
def mR{C:Cst}{X:Cx}:Mode C X:=⟨CX0,fun _=>E0,fun σ pins H s e s' I c=>L2.pass0 pins σ H s e s' I c,fm,fun r q hn h=>KC r q hn h⟩
def mX{C:Cst}{X:Cx}(tk:Takes X C.W):Mode C X:=⟨L2.CX X.prog X.w,WE C.W,fun σ=>passAt tk σ,gF,fun r q hn h=>C6 r q hn h⟩
def yG(s:State)(r:RV):Option (String×List String):=
 match dv s r with
 | some (.ins c fs)=>some (c,fs.map (·.1))
 | some _=>none
 | none=>match ob s r with
  | some (.ins c fs)=>some (c,fs.map (·.1))
  | _=>none
def gW(call:Fn→List Val→State→Res RV)(c m:String)(n:Nat)(fo:State→Res RV)(fs:State→Res (List RV))(g:Fn)(s:State):Res RV:=(ev fo s).bind fun r s=>
 match yG s r,r with
 | some (c',fl),.val x=>if c'=c∧fl.contains m=false then(fs s).bind fun rs s=>(bc rs s).bind fun args s=>if args.length+1=n then call g (x::args) s else .stuck else .stuck
 | _,_=>.stuck
def Om(m:Nat)(r:Res RV):Res RV:=
 match r with
 | .ok (.val (.d .non)) s=>.ok (.val (.r m)) s
 | .exc x s=>.exc x s
 | _=>.stuck
def KD(call:Fn→List Val→State→Res RV)(c:String)(n:Nat)(fs:State→Res (List RV))(g:Fn)(s:State):Res RV:=(fs s).bind fun rs s=>(bc rs s).bind fun args s=>
 if args.length+1=n then Om s.st.length (call g (.r s.st.length::args) ⟨s.sg,s.st++[.ins c []]⟩)else .stuck
def uA{α:Type}(fs:List (String×α))(f:String):Option α:=(fs.find? fun p=>decide (p.1=f)).map (·.2)
def yN{α:Type}(f:String)(v:α):List (String×α)→List (String×α)
 | []=>[(f,v)]
 | (g,x)::r=>if g=f then(g,v)::r else(g,x)::yN f v r
def ly(T:List (String×String))(f:String)(fo:State→Res RV)(s:State):Res RV:=(ev fo s).bind fun r s=>
 match dv s r with
 | some (.ins c fs)=>if T.contains (c,f)then(match uA fs f with
  | some d=>aS d s
  | none=>.stuck)else .stuck
 | some _=>.stuck
 | none=>match ob s r with
  | some (.ins c fs)=>if T.contains (c,f)then(match uA fs f with
   | some x=>.ok (.val x) s
   | none=>.stuck)else .stuck
  | _=>.stuck
def B3(T:List (String×String))(f:String)(fo fv:State→Res RV)(s:State):Res Fl:=(ev fv s).bind fun v s=>(ev fo s).bind fun o s=>
 match cf v s with
 | .ok x s=>match ob s o with
  | some (.ins c fs)=>if T.contains (c,f)&&decide (fs.length<1000)then .ok .nx (wr o (.ins c (yN f x fs)) s)else .stuck
  | _=>.stuck
 | _=>.stuck
def mP(T:List (String×String))(f:String)(op:Bop)(fo fv:State→Res RV)(s:State):Res Fl:=
 match Gr op with
 | none=>.stuck
 | some g=>(ev fo s).bind fun o s=>match ob s o with
  | some (.ins c fs)=>if T.contains (c,f)&&decide (fs.length<1000)then(match uA fs f with
   | some (.d (.int a))=>(ev fv s).bind fun y s=>match dv s y,ob s o with
    | some (.int b),some (.ins c' fs')=>if c'=c∧fs'.length<1000 then .ok .nx (wr o (.ins c (yN f (.d (.int (g a b))) fs')) s)else .stuck
    | _,_=>.stuck
   | _=>.stuck)else .stuck
  | _=>.stuck
def vp(K:PySem.W.Frag)(cA:String→Addr)(T:List (String×String)):Prop:=∀ c f,(c,f)∈T→Cls K (cA c)∧NoAttr K (cA c) (Str.ofString f)
section
variable{C:Cst}{Z Z' Zc:Hp}{loc loc':List Addr}{s s':State}{sv sv':L2.St}{H H':Hp}
variable{X:Cx}{e a b c o v:Expr}{es:List Expr}{p p2 pos pos' apos pt:Pos}{f fa fb fc fo fi fv:State→Res RV}{fs:State→Res (List RV)}
theorem HG{T:List (String×String)}:∀ {fs:List (String×D)} {ws:List (Str×V)} {f:String} {d:D},j9 C.cA Z fs ws→uA fs f=some d→∃ v,ws.lookup (Str.ofString f)=some v∧bK C.cA Z d v
 | [],ws,f,d,h,e=>by cases e
 | (g,x)::fs,ws,f,d,⟨v,r,e1,q,t⟩,e=>by
  subst e1
  unfold uA at e
  rw[List.find?_cons]at e
  by_cases hg:g=f
  ·subst hg
   simp at e
   subst e
   exact⟨v,by simp[List.lookup],q⟩
  ·simp[hg]at e
   have hne:((Str.ofString f)==(Str.ofString g))=false:=beq_eq_false_iff_ne.mpr fun z=>hg (sm z.symm)
   obtain⟨v2,h1,h2⟩:=HG (T:=T) (f:=f) (d:=d) t (by unfold uA;simpa using e)
   exact⟨v2,by rw[List.lookup,hne];exact h1,h2⟩
theorem zU:∀ {fs:List (String×Val)} {ws:List (Str×V)} {f:String} {d:Val},gq C.cA Z loc fs ws→uA fs f=some d→∃ v,ws.lookup (Str.ofString f)=some v∧bX C.cA Z loc d v
 | [],ws,f,d,h,e=>by cases e
 | (g,x)::fs,ws,f,d,⟨v,r,e1,q,t⟩,e=>by
  subst e1
  unfold uA at e
  rw[List.find?_cons]at e
  by_cases hg:g=f
  ·subst hg
   simp at e
   subst e
   exact⟨v,by simp[List.lookup],q⟩
  ·simp[hg]at e
   have hne:((Str.ofString f)==(Str.ofString g))=false:=beq_eq_false_iff_ne.mpr fun z=>hg (sm z.symm)
   obtain⟨v2,h1,h2⟩:=zU (f:=f) (d:=d) t (by unfold uA;simpa using e)
   exact⟨v2,by rw[List.lookup,hne];exact h1,h2⟩
theorem Gb:∀ {fs:List (String×D)} {ws:List (Str×V)} {m:String},j9 C.cA Z fs ws→(fs.map (·.1)).contains m=false→ws.lookup (Str.ofString m)=none
 | [],ws,m,h,e=>by rw[show ws=_ from h];rfl
 | (g,x)::fs,ws,m,⟨v,r,e1,q,t⟩,e=>by
  subst e1
  simp only[List.map_cons,List.contains_cons,Bool.or_eq_false_iff]at e
  have hne:((Str.ofString m)==(Str.ofString g))=false:=beq_eq_false_iff_ne.mpr fun z=>by
   have:=sm z
   have e1:=e.1
   rw[this]at e1
   simp at e1
  rw[List.lookup,hne]
  exact Gb t e.2
theorem C8:∀ {fs:List (String×Val)} {ws:List (Str×V)} {m:String},gq C.cA Z loc fs ws→(fs.map (·.1)).contains m=false→ws.lookup (Str.ofString m)=none
 | [],ws,m,h,e=>by rw[show ws=_ from h];rfl
 | (g,x)::fs,ws,m,⟨v,r,e1,q,t⟩,e=>by
  subst e1
  simp only[List.map_cons,List.contains_cons,Bool.or_eq_false_iff]at e
  have hne:((Str.ofString m)==(Str.ofString g))=false:=beq_eq_false_iff_ne.mpr fun z=>by
   have:=sm z
   have e1:=e.1
   rw[this]at e1
   simp at e1
  rw[List.lookup,hne]
  exact C8 t e.2
theorem D5{f:String}{x:Val}{v:V}(q:bX C.cA Z loc x v):∀ {fs:List (String×Val)} {ws:List (Str×V)},gq C.cA Z loc fs ws→gq C.cA Z loc (yN f x fs) (putF (Str.ofString f) v ws)
 | [],ws,h=>by rw[show ws=_ from h];exact⟨v,[],rfl,q,rfl⟩
 | (g,y)::fs,ws,⟨w,r,e1,q1,t⟩=>by
  subst e1
  unfold yN putF
  by_cases hg:g=f
  ·rw[if_pos hg,if_pos (by rw[hg])]
   exact⟨v,r,rfl,q,t⟩
  ·rw[if_neg hg,if_neg (fun z=>hg (sm z))]
   exact⟨w,_,rfl,q1,D5 q t⟩
theorem Jn:∀ {fs:List (String×Val)} {ws:List (Str×V)},gq C.cA Z loc fs ws→fs.length=ws.length
 | [],ws,h=>by rw[show ws=_ from h];rfl
 | (g,y)::fs,ws,⟨w,r,e1,q1,t⟩=>by rw[e1,List.length_cons,List.length_cons,Jn t]
theorem SR.ins(r:SR C Z loc s sv H){rv:RV}{v:V}{c:String}{fl:List String}{m:String}(q:bM C Z loc s sv H rv v)(e:yG s rv=some (c,fl))(hm:fl.contains m=false):∃ a dx ws,v=.ref a∧H a=some (.ins (C.cA c) dx ws)∧ws.lookup (Str.ofString m)=none:=by
 unfold yG at e
 split at e
 ·rename_i c' fs e1
  cases e
  obtain⟨a,dx,ws,rfl,z,q1⟩:=r.dv q e1
  exact⟨a,dx,ws,rfl,(r.zh a _ z).at rfl,Gb q1 hm⟩
 ·cases e
 ·split at e
  ·rename_i c' fs e1
   cases e
   obtain⟨a,rfl,_,dx,ws,h1,h2⟩:=r.ob q e1
   exact⟨a,dx,ws,rfl,h1,C8 h2 hm⟩
  ·cases e
theorem Q8{T:List (String×String)}{n:String}(F:vp X.K C.cA T)(he:PE X e (au C f))(hb:attributeBase e (Str.ofString n) X.env (eval e X.env)=eval e X.env):PE X (.Attribute e (Str.ofString n) pos) (au C (ly T n f)):=by
 refine bq (pe_fld he hb) fun sv H Q ⟨Z,loc,s,r,q⟩=>?_
 refine(au.nq r q).imp fun v H1 ⟨Z1,l1,s1,y,g1,r1,st1,q1,h1⟩=>?_
 split at h1
 ·rename_i c fs e1
  split at h1
  ·rename_i hT
   split at h1
   ·rename_i d e2
    obtain⟨a,dx,ws,rfl,z,q2⟩:=r1.dv q1 e1
    obtain⟨w,l,qw⟩:=HG (T:=T) q2 e2
    obtain⟨f1,f2⟩:=F c n (by simpa using hT)
    exact⟨a,C.cA c,dx,ws,w,rfl,(r1.zh a _ z).at rfl,f1,f2,l,h1.aS r1 qw⟩
   ·exact h1.elim
  ·exact h1.elim
 ·exact h1.elim
 ·split at h1
  ·rename_i c fs e1
   split at h1
   ·rename_i hT
    split at h1
    ·rename_i x e2
     obtain⟨a,rfl,_,dx,ws,z,q2⟩:=r1.ob q1 e1
     obtain⟨w,l,qw⟩:=zU q2 e2
     obtain⟨f1,f2⟩:=F c n (by simpa using hT)
     exact⟨a,C.cA c,dx,ws,w,rfl,z,f1,f2,l,h1 Z1 l1 H1 w (Ext.refl _ _) r1 qw⟩
    ·exact h1.elim
   ·exact h1.elim
  ·exact h1.elim
theorem Nj{T:List (String×String)}{n:String}(F:vp X.K C.cA T)(ho:PE X o (au C fo))(hv:PE X v (au C fv))(hc:j6 v=true):PS X (.Assign [.Attribute o (Str.ofString n) pos'] v pos) (dj C (B3 T n fo fv)):=by
 refine gb (ps_fld ho hv (vE hc)) fun D sv H ⟨Z,loc,s,r,q⟩=>?_
 refine(au.AH r q).imp fun x H1 ⟨Z1,l1,s1,y,g1,r1,st1,q1,h1⟩=>?_
 refine(au.AH r1 h1).imp fun u H2 ⟨Z2,l2,s2,y2,g2,r2,st2,q2,h2⟩=>?_
 have q1':=q1.mono (s':=s2) (H':=H2) g2 st1
 cases e1:cf y s2 with
 | stuck=>rw[e1]at h2;exact h2.elim
 | exc x s4=>rw[e1]at h2;exact h2.elim
 | ok z s4=>
  rw[e1]at h2
  dsimp only at h2
  obtain⟨Z4,g4,r4,q4⟩:=r2.cf q1' e1
  split at h2
  ·rename_i c fs e5
   split at h2
   ·rename_i hT
    simp only[Bool.and_eq_true,decide_eq_true_eq]at hT
    have q2':=q2.mono (s':=s4) (H':=H2) g4 st2
    obtain⟨a,rfl,_,dx,ws,hz,qf⟩:=r4.ob q2' e5
    obtain⟨f1,f2⟩:=F c n (by simpa using hT.1)
    refine⟨a,C.cA c,dx,ws,rfl,hz,f1,f2,by rw[←Jn qf];exact hT.2,?_⟩
    have r5:=r4.write (o':=.ins c (yN n z fs)) (u:=.ins (C.cA c) dx (putF (Str.ofString n) x ws)) q2' e5 rfl (by simp) (fun x w z=>by rw[hz]at z;cases z) ⟨dx,_,upd_same,D5 q4 qf⟩
    exact bS.nx (bS.ext h2 g4) r5
   ·exact h2.elim
  ·exact h2.elim
theorem Jc{M:Mode C X}{k:Nat}{f D:Addr}{fd:FuncData}{ps:List Str}{sp:Sp}{m:Str}{ta:TE}{t:TA}{pl:Sem Bool}(he:PE X o ta)(c:Cls X.K D)(hm:Meth X.K D m f)(F:FnOk X.prog X.w X.K X.mg X.base M.CX k f fd ps sp)(hr:Room k X.A)(hb:Binds X.K fd ps [])(ha:PA X (e::es) t)
  (hst:starEach (e::es) X.env=(false,eval e X.env)::starEach es X.env) (hpl:(backTo pos (starEach es X.env)).any (·.1)=false)
  (ht:eval (.Call (.Attribute o m apos) (e::es) [] pos) X.env=(do
   let ov ←eval o X.env
   standAt apos.atName
   let (f,first) ←holding [ov] (getMethod ov m pl)
   callWith pos f first (backTo pos (starEach (e::es) X.env)) (backToKw pos (keywordEach [] X.env)))):
  PE X (.Call (.Attribute o m apos) (e::es) [] pos) (fun σ H Q=>ta σ H fun x H1=>∃ a dx fs,x=.ref a∧H1 a=some (.ins D dx fs)∧fs.lookup m=none∧t σ H1 fun vs H2=>sp (x::vs) H2 Q (M.E σ)):=by
 refine⟨fun pins s σ H Q I h=>?_⟩
 refine PySem.W.methodCall_KW (pl:=pl) (thn (he.run pins s σ H _ I h) fun u s1 ⟨x,H1,I1,rx,a,dx,fs,ex,ea,l,q⟩=>?_) ht
 subst ex
 obtain rfl:u=Value.ref a:=rx
 refine getmeth_ok I1 ea c hm l ?_
 refine PySem.W.callWith_K (first:=[.ref a]) (h₀:=X.base) I.ok.mod.kin hm.kp (thn (ha.run pos pins s1 σ H1 _ I1 q) fun us s2 ⟨vs,H2,I2,r,q2⟩=>⟨I2.kIn,?_⟩) hst hpl
 exact run_fnS (us:=.ref a::us) (vs:=.ref a::vs) F hr hb (M.hx σ) I2 (.cons rfl r) q2
theorem Ij{M:Mode C X}{k:Nat}{f D:Addr}{fd:FuncData}{ps:List Str}{sp:Sp}{m:Str}{ta:TE}{pl:Sem Bool}(he:PE X o ta)(c:Cls X.K D)(hm:Meth X.K D m f)(F:FnOk X.prog X.w X.K X.mg X.base M.CX k f fd ps sp)(hr:Room k X.A)(hb:Binds X.K fd ps [])
  (ht:eval (.Call (.Attribute o m apos) [] [] pos) X.env=(do
   let ov ←eval o X.env
   standAt apos.atName
   let (f,first) ←holding [ov] (getMethod ov m pl)
   callWith pos f first (backTo pos (starEach [] X.env)) (backToKw pos (keywordEach [] X.env)))):
  PE X (.Call (.Attribute o m apos) [] [] pos) (fun σ H Q=>ta σ H fun x H1=>∃ a dx fs,x=.ref a∧H1 a=some (.ins D dx fs)∧fs.lookup m=none∧sp [x] H1 Q (M.E σ)):=by
 refine⟨fun pins s σ H Q I h=>?_⟩
 refine PySem.W.methodCall_KW (pl:=pl) (thn (he.run pins s σ H _ I h) fun u s1 ⟨x,H1,I1,rx,a,dx,fs,ex,ea,l,q⟩=>?_) ht
 subst ex
 obtain rfl:u=Value.ref a:=rx
 refine getmeth_ok I1 ea c hm l ?_
 exact PySem.W.callWith_K0 (first:=[.ref a]) I1.kIn hm.kp (run_fnS (us:=[.ref a]) (vs:=[.ref a]) F hr hb (M.hx σ) I1 (.cons rfl .nil) q)
end
end Vw
namespace Vw
open PySem L2 PyProof.Rows
section
variable{C:Cst}{Z Z' Zc:Hp}{loc loc':List Addr}{s s':State}{sv sv':L2.St}{H H':Hp}
variable{X:Cx}{e a b c o v:Expr}{es:List Expr}{p p2 pos pos' apos pt:Pos}{f fa fb fc fo fi fv:State→Res RV}{fs:State→Res (List RV)}
theorem cV.UR{fs:State→Res (List RV)}{k:List RV→State→Res RV}{Q:VK}{R:List V→Hp→Prop}(r:SR C Z loc s sv H)(h:EPost C Z loc sv ((fs s).bind k) Q)
  (hq:∀ vs H1 Z1 loc1 s1 xs,Ext Z loc Z1 loc1→SR C Z1 loc1 s1 sv H1→iX C Z1 loc1 s1 sv H1 xs vs→EPost C Z1 loc1 sv (k xs s1) Q→R vs H1):cV C fs sv H R:=by
 refine⟨Z,loc,s,r,?_⟩
 cases e:fs s with
 | stuck=>rw[e]at h;exact h
 | exc x s1=>rw[e]at h;exact h
 | ok xs s1=>
  rw[e]at h
  simp only[Res.bind]at h
  exact fun Z' l' H' vs g r' q'=>hq vs H' Z' l' s1 xs g r' q' (EPost.ext h g)
theorem Q7{M:Mode C X}{k:Nat}{fA:Addr}{fd:FuncData}{ps:List Str}{cl m:String}{g:Fn}{pl:Sem Bool}(he:PE X o (au C fo))(c:Cls X.K (C.cA cl))(hm:Meth X.K (C.cA cl) (Str.ofString m) fA)(F:FnOk X.prog X.w X.K X.mg X.base M.CX k fA fd ps (bP C.cA ps.length g))(hr:Room k X.A)(hb:Binds X.K fd ps [])(ha:PA X (e::es) (cV C fs))
  (hs:(e::es).all notStar=true)
  (ht:eval (.Call (.Attribute o (Str.ofString m) apos) (e::es) [] pos) X.env=(do
   let ov ←eval o X.env
   standAt apos.atName
   let (f,first) ←holding [ov] (getMethod ov (Str.ofString m) pl)
   callWith pos f first (backTo pos (starEach (e::es) X.env)) (backToKw pos (keywordEach [] X.env)))):
  PE X (.Call (.Attribute o (Str.ofString m) apos) (e::es) [] pos) (au C (gW M.call cl m ps.length fo fs g)):=by
 have hs':=hs
 simp only[List.all_cons,Bool.and_eq_true]at hs
 refine bq (Jc (M:=M) he c hm F hr hb ha (bx hs.1) (eW hs.2) ht) fun sv H Q ⟨Z,loc,s,r,q⟩=>?_
 refine(au.nq r q).imp fun v H1 ⟨Z1,l1,s1,y,g1,r1,st1,q1,h1⟩=>?_
 split at h1
 ·rename_i c' fl x e1
  split at h1
  ·rename_i hc
   obtain⟨a,dx,ws,rfl,hz,hl⟩:=r1.ins q1 e1 hc.2
   rw[hc.1]at hz
   refine⟨a,dx,ws,rfl,hz,hl,cV.UR r1 h1 fun vs H2 Z2 l2 s2 xs g2 r2 q2 h2=>?_⟩
   have q1':bX C.cA Z2 l2 x (.ref a):=bX.mono g2 x q1
   cases e2:bc xs s2 with
   | stuck=>rw[e2]at h2;exact h2.elim
   | exc x s3=>exact absurd e2 ie
   | ok args s3=>
    rw[e2]at h2
    simp only[Res.bind]at h2
    obtain⟨Z3,g3,r3,q3⟩:=r2.bc q2 e2
    split at h2
    ·rename_i hn
     exact M.sp (args:=x::args) r3 ⟨.ref a,vs,rfl,bX.mono g3 x q1',q3⟩ (by simpa using hn) (EPost.ext h2 g3)
    ·exact h2.elim
  ·exact h1.elim
 ·exact h1.elim
theorem N3{M:Mode C X}{k:Nat}{fA:Addr}{fd:FuncData}{ps:List Str}{cl m:String}{g:Fn}{pl:Sem Bool}(he:PE X o (au C fo))(c:Cls X.K (C.cA cl))(hm:Meth X.K (C.cA cl) (Str.ofString m) fA)(F:FnOk X.prog X.w X.K X.mg X.base M.CX k fA fd ps (bP C.cA ps.length g))(hr:Room k X.A)(hb:Binds X.K fd ps [])
  (ht:eval (.Call (.Attribute o (Str.ofString m) apos) [] [] pos) X.env=(do
   let ov ←eval o X.env
   standAt apos.atName
   let (f,first) ←holding [ov] (getMethod ov (Str.ofString m) pl)
   callWith pos f first (backTo pos (starEach [] X.env)) (backToKw pos (keywordEach [] X.env)))):
  PE X (.Call (.Attribute o (Str.ofString m) apos) [] [] pos) (au C (gW M.call cl m ps.length fo (aw []) g)):=by
 refine bq (Ij (M:=M) he c hm F hr hb ht) fun sv H Q ⟨Z,loc,s,r,q⟩=>?_
 refine(au.nq r q).imp fun v H1 ⟨Z1,l1,s1,y,g1,r1,st1,q1,h1⟩=>?_
 split at h1
 ·rename_i c' fl x e1
  split at h1
  ·rename_i hc
   obtain⟨a,dx,ws,rfl,hz,hl⟩:=r1.ins q1 e1 hc.2
   rw[hc.1]at hz
   refine⟨a,dx,ws,rfl,hz,hl,?_⟩
   simp only[aw,Res.bind,bc]at h1
   split at h1
   ·rename_i hn
    exact M.sp (args:=[x]) r1 ⟨.ref a,[],rfl,q1,rfl⟩ (by simpa using hn) h1
   ·exact h1.elim
  ·exact h1.elim
 ·exact h1.elim
theorem Kj{M:Mode C X}{k:Nat}{f D:Addr}{fd:FuncData}{ps:List Str}{sp:Sp}{x:Str}{t:TA}(Mk':Mk X.K D f)(F:FnOk X.prog X.w X.K X.mg X.base M.CX k f fd ps sp)(hr:Room (k+1) X.A)(hg:Gl X x)(hm:X.mg x=some (.ref D))(hb:Binds X.K fd ps [])
  (ha:PA X (e::es) t) (hdb:(x==("__debug__":Str))=false) (he:starEach (e::es) X.env=(false,eval e X.env)::starEach es X.env) (hpl:(backTo pos (starEach es X.env)).any (·.1)=false):
  PE X (.Call (.Name x p) (e::es) [] pos) (fun σ H Q=>t σ H fun vs H1=>∀ y dx,H1 y=none→H1 dx=none→dx≠y→sp (.ref y::vs) (upd (upd H1 dx (.own y)) y (.ins D dx [])) (fun v H2=>v=.non∧Q (.ref y) H2) (M.E σ)):=by
 refine⟨fun pins s σ H Q I h=>?_⟩
 refine wpAny_Call_Name_kw (ld_glob I hg hm ?_ hdb)
 refine PySem.W.callWith_K (h₀:=X.base) I.ok.mod.kin Mk'.kp (thn (ha.run pos pins s σ H _ I h) fun us s1 ⟨vs,H1,I1,r,hq⟩=>⟨I1.kIn,?_⟩) he hpl
 have hq1:=hq (s1.heap.objs.size+1) s1.heap.objs.size (I1.hok.fresh (Nat.le_succ _)) (I1.hok.fresh (Nat.le_refl _)) (Nat.ne_of_lt (Nat.lt_succ_self _))
 have I2:=Inv.made (C:=D) I1
 have r2:Vals (V.ref (s1.heap.objs.size+1)::vs) (Value.ref (s1.heap.objs.size+1)::us):=.cons rfl r
 have hl:(Value.ref (s1.heap.objs.size+1)::us++[]).length=ps.length:=by
  have e:=r2.length
  rw[F.len _ _ _ _ hq1]at e
  rw[List.append_nil]
  exact e.symm
 have hbb:=hb _ (Value.ref (s1.heap.objs.size+1)::us) I2.kIn hl
 rw[List.append_nil]at hbb
 refine wpAny_call (make_map (f:=f) I1.kIn Mk'.makes Mk'.init (beq_iff_eq.mp Mk'.fn) (codeAny_mono (F.run _ X.stack _ _ ⟨Value.ref (s1.heap.objs.size+1)::us,[]⟩ (Value.ref (s1.heap.objs.size+1)::us) _ _ (M.E σ) (hr.make D us [])
  (I2.env0.make D us []) hbb r2 hq1) fun r s' hq'=>?_))
 cases r with
 | error e=>exact M.hx σ pins _ _ e s' I2 hq'
 | ok fl=>
  cases fl with
  | ret u=>
   obtain⟨v,H',I3,rv,ev,q3⟩:=I2.after hq'
   subst ev
   exact⟨rv,⟨V.ref (s1.heap.objs.size+1),H',I3,rfl,q3⟩⟩
  | next=>exact False.elim hq'
  | brk=>exact False.elim hq'
  | cont=>exact False.elim hq'
theorem RA{M:Mode C X}{cl:String}{n:Nat}{g:Fn}{args:List Val}{vs:List V}{Q:VK}(r:SR C Z loc s sv H)(q:aY C.cA Z loc args vs)(hn:args.length+1=n)
  (h:EPost C Z loc sv (Om s.st.length (M.call g (.r s.st.length::args) ⟨s.sg,s.st++[.ins cl []]⟩)) Q):
  ∀ y dx,H y=none→H dx=none→dx≠y→bP C.cA n g (.ref y::vs) (upd (upd H dx (.own y)) y (.ins (C.cA cl) dx [])) (fun v H2=>v=.non∧Q (.ref y) H2) (M.E sv):=by
 intro y dx hy hdx ne
 have hy':upd H dx (.own y) y=none:=by rw[upd_ne (Ne.symm ne)];exact hy
 have r1:=(r.grow (bI (o:=.own y) hdx)).grow (bI (o:=.ins (C.cA cl) dx []) hy')
 have fr:Free C Z loc s sv y:=r.free hy
 obtain⟨g1,r2,q2⟩:=r1.alloc (o:=.ins cl []) (by simp) ⟨dx,[],upd_same,rfl⟩ fr
 refine M.sp (args:=.r s.st.length::args) r2 ⟨.ref y,vs,rfl,q2,aY.mono g1 args q⟩ (by simpa using hn) ?_
 have h:=EPost.ext h g1
 cases e:M.call g (.r s.st.length::args) ⟨s.sg,s.st++[.ins cl []]⟩with
 | stuck=>rw[e]at h;exact h
 | exc x s2=>rw[e]at h;exact h
 | ok rv s2=>
  rw[e]at h
  cases rv with
  | own i=>exact h.elim
  | new o=>exact h.elim
  | val x=>
   cases x with
   | r n=>exact h.elim
   | tp l=>exact h.elim
   | d d=>
    cases d with
    | non=>
     intro Z' l' H' v g' r' q'
     exact⟨q',h Z' l' H' _ g' r' (bX.mono g' _ q2)⟩
    | _=>exact h.elim
theorem S9{M:Mode C X}{k:Nat}{fA:Addr}{fd:FuncData}{ps:List Str}{cl:String}{g:Fn}(Mk':Mk X.K (C.cA cl) fA)(F:FnOk X.prog X.w X.K X.mg X.base M.CX k fA fd ps (bP C.cA ps.length g))(hr:Room (k+1) X.A)(hg:Gl X (Str.ofString cl))(hm:X.mg (Str.ofString cl)=some (.ref (C.cA cl)))(hb:Binds X.K fd ps [])
  (ha:PA X (e::es) (cV C fs)) (hdb:((Str.ofString cl)==("__debug__":Str))=false) (hs:(e::es).all notStar=true):PE X (.Call (.Name (Str.ofString cl) p) (e::es) [] pos) (au C (KD M.call cl ps.length fs g)):=by
 have hs':=hs
 simp only[List.all_cons,Bool.and_eq_true]at hs
 refine bq (Kj (M:=M) Mk' F hr hg hm hb ha hdb (bx hs.1) (eW hs.2)) fun sv H Q h=>(cV.at h).imp fun vs H1 ⟨Z,loc,s,xs,r,q,h⟩=>?_
 cases e1:bc xs s with
 | stuck=>rw[e1]at h;exact h.elim
 | exc x s1=>exact absurd e1 ie
 | ok args s1=>
  rw[e1]at h
  simp only[Res.bind]at h
  obtain⟨Z1,g1,r1,q1⟩:=r.bc q e1
  split at h
  ·rename_i hn
   exact RA (M:=M) r1 q1 hn (EPost.ext h g1)
  ·exact h.elim
theorem PV{T:List (String×String)}{n:String}(op:Bop)(F:vp X.K C.cA T)(ho:PE X o (au C fo))(hv:PE X v (au C fv)):PS X (.AugAssign (.Attribute o (Str.ofString n) pos') op.py v pos) (dj C (mP T n op fo fv)):=by
 cases ha:Gr op with
 | none=>
  refine gb ps_never fun D sv H ⟨Z,loc,s,r,q⟩=>?_
  unfold mP at q
  rw[ha]at q
  exact q.elim
 | some g=>
  have hp:InOp X op.py (ipI g):=by
   cases op<;> simp[Gr]at ha
   ·subst ha;exact ip_add
   ·subst ha;exact ip_sub
  refine gb (ps_fldaug ho hv hp) fun D sv H ⟨Z,loc,s,r,q⟩=>?_
  unfold mP at q
  rw[ha]at q
  refine(au.AH r q).imp fun u H1 ⟨Z1,l1,s1,y,g1,r1,st1,q1,h1⟩=>?_
  split at h1
  ·rename_i c fs e2
   split at h1
   ·rename_i hT
    simp only[Bool.and_eq_true,decide_eq_true_eq]at hT
    split at h1
    ·rename_i a e3
     obtain⟨ad,rfl,_,dx,ws,hz,qf⟩:=r1.ob q1 e2
     obtain⟨f1,f2⟩:=F c n (by simpa using hT.1)
     obtain⟨w,l,qw⟩:=zU qf e3
     refine⟨ad,C.cA c,dx,ws,w,rfl,hz,f1,f2,l,(au.AH r1 h1).imp fun b H2 ⟨Z2,l2,s2,y2,g2,r2,st2,q2,h2⟩=>?_⟩
     have q1':=q1.mono (s':=s2) (H':=H2) g2 st1
     split at h2
     ·rename_i bi c' fs' e4 e5
      split at h2
      ·rename_i hc
       obtain⟨ad',h3,_,dx',ws',hz',qf'⟩:=r2.ob q1' e5
       cases h3
       refine⟨a,bi,qw,r2.dv q2 e4,dx',ws',?_,by rw[←Jn qf'];exact hc.2,?_⟩
       ·rw[←hc.1];exact hz'
       ·have r5:=r2.write (o':=.ins c (yN n (.d (.int (g a bi))) fs')) (u:=.ins (C.cA c) dx' (putF (Str.ofString n) (.int (g a bi)) ws')) q1' e5 rfl (by simp) (fun x w z=>by rw[hz']at z;cases z) ⟨dx',_,upd_same,D5 (x:=.d (.int (g a bi))) rfl qf'⟩
        exact bS.nx h2 r5
      ·exact h2.elim
     ·exact h2.elim
    ·exact h1.elim
   ·exact h1.elim
  ·exact h1.elim
end
end Vw
namespace Vw
open PySem L2 PyProof.Rows
section
variable{C:Cst}{X:Cx}{e a b c o v:Expr}{es:List Expr}{p p2 pos pos' apos pt:Pos}{f fa fb fc fo fi fv:State→Res RV}{fs:State→Res (List RV)}{cA:String→Addr}
theorem mS{k n:Nat}{fA:Addr}{fd:FuncData}{ps:List Str}{cl m:String}{g:Fn}{pl:Sem Bool}(hC:C.cA=cA)(M:Mode C X)(c:Cls X.K (cA cl))(hm:Meth X.K (cA cl) (Str.ofString m) fA)(F:FnOk X.prog X.w X.K X.mg X.base M.CX k fA fd ps (bP cA n g))(hr:Room k X.A)(hb:Binds X.K fd ps [])(hn:ps.length=n)(he:PE X o (au C fo))(ha:PA X (e::es) (cV C fs))
  (hs:(e::es).all notStar=true)
  (ht:eval (.Call (.Attribute o (Str.ofString m) apos) (e::es) [] pos) X.env=(do
   let ov ←eval o X.env
   standAt apos.atName
   let (f,first) ←holding [ov] (getMethod ov (Str.ofString m) pl)
   callWith pos f first (backTo pos (starEach (e::es) X.env)) (backToKw pos (keywordEach [] X.env)))):
  PE X (.Call (.Attribute o (Str.ofString m) apos) (e::es) [] pos) (au C (gW M.call cl m n fo fs g)):=by
 subst hC hn
 exact Q7 he c hm F hr hb ha hs ht
theorem xW{k n:Nat}{fA:Addr}{fd:FuncData}{ps:List Str}{cl m:String}{g:Fn}{pl:Sem Bool}(hC:C.cA=cA)(M:Mode C X)(c:Cls X.K (cA cl))(hm:Meth X.K (cA cl) (Str.ofString m) fA)(F:FnOk X.prog X.w X.K X.mg X.base M.CX k fA fd ps (bP cA n g))(hr:Room k X.A)(hb:Binds X.K fd ps [])(hn:ps.length=n)(he:PE X o (au C fo))
  (ht:eval (.Call (.Attribute o (Str.ofString m) apos) [] [] pos) X.env=(do
   let ov ←eval o X.env
   standAt apos.atName
   let (f,first) ←holding [ov] (getMethod ov (Str.ofString m) pl)
   callWith pos f first (backTo pos (starEach [] X.env)) (backToKw pos (keywordEach [] X.env)))):
  PE X (.Call (.Attribute o (Str.ofString m) apos) [] [] pos) (au C (gW M.call cl m n fo (aw []) g)):=by
 subst hC hn
 exact N3 he c hm F hr hb ht
theorem Sf{k n:Nat}{fA:Addr}{fd:FuncData}{ps:List Str}{cl:String}{g:Fn}(hC:C.cA=cA)(M:Mode C X)(Mk':Mk X.K (cA cl) fA)(F:FnOk X.prog X.w X.K X.mg X.base M.CX k fA fd ps (bP cA n g))(hr:Room (k+1) X.A)(hg:Gl X (Str.ofString cl))(hm:X.mg (Str.ofString cl)=some (.ref (cA cl)))(hb:Binds X.K fd ps [])(hn:ps.length=n)
  (ha:PA X (e::es) (cV C fs)) (hdb:((Str.ofString cl)==("__debug__":Str))=false) (hs:(e::es).all notStar=true):PE X (.Call (.Name (Str.ofString cl) p) (e::es) [] pos) (au C (KD M.call cl n fs g)):=by
 subst hC hn
 exact S9 Mk' F hr hg hm hb ha hdb hs
theorem lj{T:List (String×String)}{n:String}(hC:C.cA=cA)(F:vp X.K cA T)(he:PE X e (au C f))(hb:attributeBase e (Str.ofString n) X.env (eval e X.env)=eval e X.env):PE X (.Attribute e (Str.ofString n) pos) (au C (ly T n f)):=by
 subst hC
 exact Q8 F he hb
theorem IF{T:List (String×String)}{n:String}(hC:C.cA=cA)(F:vp X.K cA T)(ho:PE X o (au C fo))(hv:PE X v (au C fv))(hc:j6 v=true):PS X (.Assign [.Attribute o (Str.ofString n) pos'] v pos) (dj C (B3 T n fo fv)):=by
 subst hC
 exact Nj F ho hv hc
theorem sP{T:List (String×String)}{n:String}(hC:C.cA=cA)(F:vp X.K cA T)(ho:PE X o (au C fo))(hv:PE X v (au C fv)):PS X (.AugAssign (.Attribute o (Str.ofString n) pos') .Add v pos) (dj C (mP T n .add fo fv)):=by
 subst hC
 exact PV .add F ho hv
end
abbrev IS:Type:=He.AlD×Bool
def kb(K:PySem.W.Frag)(x:String):Addr:=He.ga K (Str.ofString x)
def Hf(K:PySem.W.Frag)(N:List String)(T:String):Bool:=N.all fun c=>match jz N c T with
 | some b=>decide (PySem.W.exmOne K (.ref (kb K c)) (.ref (kb K T))=some b)
 | none=>true
theorem Ep{N:List String}{c T:String}{b:Bool}(h:jz N c T=some b):c∈N:=by
 unfold jz at h
 split at h
 ·rename_i hc;simpa using hc
 ·cases h
theorem Ho{K:PySem.W.Frag}{N:List String}{T:String}(h:Hf K N T=true):EM N K (kb K) T (.ref (kb K T)):=fun c b e=>by
 have:=List.all_eq_true.mp h c (Ep e)
 rw[e]at this
 exact of_decide_eq_true this
def Oj(K:PySem.W.Frag)(D:Addr):Bool:=
 decide (PySem.W.findIn K (.ref D) "__getattribute__"=some (some (.builtin "BaseException.__getattribute__")))&&(decide (PySem.W.findIn K (.ref D) "__getattr__"=some none)&&(decide (PySem.W.subIn K (.ref D) (.type "BaseException")=some true)&&(PySem.W.hasDictIn K D&&
 (decide (PySem.W.findIn K (.ref D) "__class__"=some (some (.builtin "object.__class__")))&&(decide (PySem.W.specialIn K (.builtin "object.__class__") "__get__"=some (some (.builtin "getset_descriptor.__get__")))&&(decide (PySem.W.takesIn K (.builtin "object.__class__")=some true)&&decide (PySem.W.mroIn K D (.type "object")=some true)))))))
theorem MO{K:PySem.W.Frag}{D:Addr}(h:Oj K D=true):ExcC K D:=by
 obtain⟨h1,h⟩:=Bool.and_eq_true_iff.mp h
 obtain⟨h2,h⟩:=Bool.and_eq_true_iff.mp h
 obtain⟨h3,h⟩:=Bool.and_eq_true_iff.mp h
 obtain⟨h4,h⟩:=Bool.and_eq_true_iff.mp h
 obtain⟨h5,h⟩:=Bool.and_eq_true_iff.mp h
 obtain⟨h6,h⟩:=Bool.and_eq_true_iff.mp h
 obtain⟨h7,h8⟩:=Bool.and_eq_true_iff.mp h
 exact⟨of_decide_eq_true h1,of_decide_eq_true h2,of_decide_eq_true h3,h4,of_decide_eq_true h5,of_decide_eq_true h6,of_decide_eq_true h7,of_decide_eq_true h8⟩
def O3(K:PySem.W.Frag)(T:String):Value:=if T="ValueError" then .type "ValueError" else .ref (kb K T)
def kn(K:PySem.W.Frag)(N:List String)(T:String):Bool:=decide (PySem.W.kitOne K (.type "NoneType") (O3 K T)=some false)&&N.all fun c=>match jz N c T with
 | some b=>Oj K (kb K c)&&decide (PySem.W.kitOne K (.ref (kb K c)) (O3 K T)=some b)
 | none=>true
theorem kl{K:PySem.W.Frag}{N:List String}{T:String}(h:kn K N T=true):ExK N K (kb K) T (O3 K T):=by
 obtain⟨h1,h2⟩:=Bool.and_eq_true_iff.mp h
 refine⟨fun c b e=>?_,of_decide_eq_true h1⟩
 have:=List.all_eq_true.mp h2 c (Ep e)
 rw[e]at this
 obtain⟨q1,q2⟩:=Bool.and_eq_true_iff.mp this
 exact⟨MO q1,of_decide_eq_true q2⟩
def N9(K:PySem.W.Frag)(N:List String):Bool:=N.all fun c=>xfB K (kb K c)&&decide (PySem.W.findIn K (.ref (kb K c)) "place"=some none)
theorem Oq{K:PySem.W.Frag}{N:List String}(h:N9 K N=true):PM N K (kb K):=fun c hc=>by
 obtain⟨q1,q2⟩:=Bool.and_eq_true_iff.mp (List.all_eq_true.mp h c hc)
 exact⟨xfB_ok q1,of_decide_eq_true q2⟩
def Ju(K:PySem.W.Frag)(T:List (String×String)):Bool:=T.all fun p=>(He.Fa.cls (Str.ofString p.1)).ok K&&decide (PySem.W.findIn K (.ref (kb K p.1)) (Str.ofString p.2)=some none)
theorem Mi{K:PySem.W.Frag}{T:List (String×String)}(h:Ju K T=true):vp K (kb K) T:=fun c f hc=>by
 obtain⟨q1,q2⟩:=Bool.and_eq_true_iff.mp (List.all_eq_true.mp h (c,f) hc)
 have q3:=of_decide_eq_true q2
 exact⟨He.cls_ok q1,q3⟩
def Jt(K:PySem.W.Frag)(C:Addr):Bool:=(match K.lookup C with
  | some ⟨.type "type",_,.cls cd,sl⟩=>(match cd.mro,sl.toList with
   | .ref C'::bm,[_,_,_,_,some (.builtin n),_]=>C'==C&&n=="ValueError.__new__"&& !cd.hasDel&&PySem.HandSPX.refsVE bm&&cd.hasDict
   | _,_=>false)
  | _=>false)&&(decide (PySem.W.findIn K (.ref C) "__setattr__"=some (some (.builtin "object.__setattr__")))&&(decide (PySem.W.subIn K (.ref C) (.type "BaseException")=some true)&&(decide (PySem.W.typeIn K (.ref C)=some (.type "type"))&&PySem.W.keepIn K (.ref C))))
theorem LP{K:PySem.W.Frag}{C:Addr}(h:Jt K C=true):OexC K C:=by
 unfold Jt at h
 obtain⟨h1,h⟩:=Bool.and_eq_true_iff.mp h
 obtain⟨h2,h⟩:=Bool.and_eq_true_iff.mp h
 obtain⟨h3,h⟩:=Bool.and_eq_true_iff.mp h
 obtain⟨h4,h5⟩:=Bool.and_eq_true_iff.mp h
 refine⟨?_,of_decide_eq_true h2,of_decide_eq_true h3,of_decide_eq_true h4,h5⟩
 split at h1
 ·rename_i dd cd sl ho
  split at h1
  ·rename_i C' bm k0 k1 k2 k3 n k5 hm hs
   simp only[Bool.and_eq_true,beq_iff_eq,Bool.not_eq_true']at h1
   obtain⟨⟨⟨⟨rfl,rfl⟩,hdel⟩,hv⟩,hd⟩:=h1
   obtain⟨nm,bs,mro,ns,qn,hdd,sn,sub,ab,col,del⟩:=cd
   dsimp only at hm hdel hd
   subst hm hdel hd
   have hsl:sl= #[k0,k1,k2,k3,some (.builtin "ValueError.__new__"),k5]:=by
    obtain⟨l⟩:=sl
    simp only at hs
    rw[hs]
   subst hsl
   exact⟨nm,qn,ns,bs,bm,sn,sub,ab,col,dd,k0,k1,k2,k3,k5,ho,hv⟩
  ·cases h1
 ·cases h1
def RI(K:PySem.W.Frag)(x:String):Bool:=Jt K (kb K x)&&(decide (PySem.W.findIn K (.ref (kb K x)) "place"=some none)&&(decide (PySem.W.findIn K (.ref (kb K x)) "__init__"=some (some (.ref (He.ma K (kb K x) "__init__"))))&&decide (PySem.W.typeIn K (.ref (He.ma K (kb K x) "__init__"))=some (.type "function"))))
def Tb(K:PySem.W.Frag)(x:String):Bool:=(He.Fa.exc (Str.ofString x)).ok K
theorem Ml{K:PySem.W.Frag}{x:String}(h:Tb K x=true):ExF K (kb K x):=by
 obtain⟨a,b,c,d⟩:=He.exc_ok h
 exact⟨a,b,c,d⟩
end Vw
namespace L2
open PySem PySem.Spec PyProof.Rows
end L2
namespace Vw
open PySem L2 PyProof.Rows
def Sn(x y:RV)(s:State):Res RV:=
 match lv s x,dv s y with
 | some l,some (.int k)=>if-(2^63)≤k∧k<2^63∧l.length*k.toNat≤sizeLine then .ok (.new (.lst (List.replicate k.toNat l).flatten)) s else .stuck
 | _,_=>.stuck
def SX(x y:RV)(s:State):Res RV:=
 match dv s x,dv s y with
 | some (.bl a),some (.bl b)=>aS (.bl (decide (a=b))) s
 | _,_=>.stuck
def QW(x y:RV)(s:State):Res RV:=
 match dv s x,dv s y with
 | some (.bl a),some (.bl b)=>aS (.bl (!decide (a=b))) s
 | _,_=>.stuck
def Qc(f:State→Res RV)(s:State):Res RV:=(ev f s).bind fun r s=>
 match dv s r with
 | some (.str t)=>if t.length≤sizeLine then aS (.str t.reverse) s else .stuck
 | _=>match lv s r with
  | some l=>.ok (.new (.lst l.reverse)) s
  | none=>.stuck
section
variable{C:Cst}{Z Z' Zc:Hp}{loc loc':List Addr}{s s':State}{sv sv':L2.St}{H H':Hp}
variable{X:Cx}{e a b c o v:Expr}{es:List Expr}{p p2 pos pos' apos pt:Pos}{f fa fb fc fo fi fv:State→Res RV}{fs:State→Res (List RV)}{cA:String→Addr}
theorem je(hC:C.cA=cA){t:Tg}{tg it:Expr}{b:List Stmt}{sb:State→Res Fl}{src:State→Res (List Val)}(hp:PassesOwn (model X.prog X.w) X.A X.env X.xe)(hc:X.calm=true)(hi:PI X tg it (lD C src))
  (hg:∀ C':Cst,C'.cA=cA→C'.W=C.W→PG X tg (qC C' t)) (hb:∀ C':Cst,C'.cA=cA→C'.W=C.W→PSs X b (dj C' sb)) (hs:cw it=true):PS X (.For tg it b [] pos) (dj C (gD t src sb)):=
 QB hp hc hi (fun C' h=>hg C' (h.ca.trans hC) h.w) (fun C' h=>hb C' (h.ca.trans hC) h.w) hs
theorem IT{N:List String}{T:String}{x n v:Str}{cv:Value}{i j:Nat}{body:List Stmt}{np p1 p2 p3:Pos}{f:State→Res Fl}(hC:C.cA=cA)(hs:X.stack=X.env::X.outer)(hf:X.env.frame=some X.env.locals)(hex:X.ex=[])(hN:X.N.Nodup)(hi:X.N[i]? =some n)(hj:X.N[j]? =some v)(hij:i≠j)(hln:X.env.kindOf n=some .local)(hlv:X.env.kindOf v=some .local)(hc:Names X x cv)(em:EM N X.K cA T cv)(tk:Takes X C.W)
  (hb:∀ (C':Cst) (pn:List (Addr×Obj)) (xe:Value→Shared→Prop),C'.cA=cA→Takes (X.tr pn xe) C'.W→PassesOwn (model X.prog X.w) X.A X.env xe→PSs (X.tr pn xe) body (dj C' f))
  (hdn:(n==("__debug__":Str))=false) (hcn:(n==("__classdict__":Str))=false) (hsw:swapsWithSole [.Name v p1] (.Name n p2) p3.line X.env=pure false) (hsw2:swappedStores [.Name v p1] (.Name n p2) X.env=pure none):
  PS X (.Try body [.ExceptHandler (some (.Name x np)) (some n) [.Assign [.Name v p1] (.Name n p2) p3] pos'] [] [] pos) (dj C (i6 N T i j f)):=by
 subst hC
 exact HS hs hf hex hN hi hj hij hln hlv hc em tk hb hdn hcn hsw hsw2
end
def Li:CXT:=fun outer H s E u s'=>∃ P w,L2.CX P w outer H s E u s'
theorem NJ(H:Hp)(s:Shared)(e:Value)(s':Shared)(h:Li [] H s (fun _ _ _=>False) e s'):False:=by
 obtain⟨P,w,h⟩:=h
 obtain⟨_,_,_,_,_,_,_,_,_,_,_,_,z⟩:=h
 exact z.elim
theorem OS{P:Program}{w:World}{K:PySem.W.Frag}{mg:Str→Option Value}{base:Heap}{k:Nat}{f:Addr}{fd:FuncData}{ps:List Str}{sp:Sp}(F:FnOk P w K mg base (L2.CX P w) k f fd ps sp):FnOk P w K mg base Li k f fd ps sp:=
 ⟨F.len,fun A outer s H args us vs Q E hr e0 b r h=>codeAny_mono (F.run A outer s H args us vs Q E hr e0 b r h) fun r s' q=>by
  cases r with
  | error e=>exact⟨P,w,q⟩
  | ok fl=>cases fl<;> exact q⟩
end Vw
namespace Vw
open PySem L2
section
variable{C:Cst}{Z Z':Hp}{loc loc':List Addr}{s s':State}{sv sv':L2.St}{H H':Hp}
def nL(s:State)(x:RV):Option (List Val):=
 match x with
 | .new (.lst m)=>some m
 | _=>match ob s x with
  | some (.lst m)=>some m
  | _=>none
def zD(o:RV)(rs:List RV)(s:State):Res RV:=
 match rs with
 | [x]=>match nL s x,ob s o with
  | some m,some (.lst l)=>if l.length+m.length≤sizeLine then .ok (.val (.d .non)) (wr o (.lst (l++m)) s)else .stuck
  | _,_=>.stuck
 | _=>.stuck
def Tj(fo fe:State→Res RV)(s:State):Res RV:=(ev fo s).bind fun o s=>if dZ s o then(fe s).bind fun x s=>zD o [x] s else .stuck
def xD(rs:List RV)(s:State):Res RV:=
 match rs with
 | [x]=>match dv s x with
  | some (.int i)=>aS (.int i) s
  | some (.bl k)=>aS (.int (if k then 1 else 0)) s
  | _=>.stuck
 | _=>.stuck
theorem vW:sJ C xD (fun xs H Q=>(∃ i,xs=[.int i]∧Q (.int i) H)∨∃ k,xs=[.bl k]∧Q (.int (if k then 1 else 0)) H):=by
 intro Z loc s sv H rs vs Q r q h
 unfold xD at h
 split at h
 ·split at h
  ·rename_i i e
   obtain⟨v,rfl,rfl⟩:=E5 r q e
   exact .inl ⟨i,rfl,h.aS r rfl⟩
  ·rename_i k e
   obtain⟨v,rfl,rfl⟩:=E5 r q e
   exact .inr ⟨k,rfl,h.aS r rfl⟩
  ·exact h.elim
 ·exact h.elim
@[simp] theorem RH(o x:RV)(s:State):zD o [x] s=(match nL s x,ob s o with
  | some m,some (.lst l)=>if l.length+m.length≤sizeLine then .ok (.val (.d .non)) (wr o (.lst (l++m)) s)else .stuck
  | _,_=>.stuck):=id rfl
@[simp] theorem Us(fo fe:State→Res RV)(s:State):Tj fo fe s=(ev fo s).bind fun o s=>if dZ s o then(fe s).bind fun x s=>zD o [x] s else .stuck:=id rfl
@[simp] theorem Vz(m:List Val)(s:State):nL s (.new (.lst m))=some m:=id rfl
end
end Vw
namespace Vw
open PySem L2 PyProof.Rows
def zX(f:Val→Option D):List Val→Option (List D)
 | []=>some []
 | x::l=>match f x,zX f l with
  | some d,some ds=>some (d::ds)
  | _,_=>none
def Ge(f:Val→Option D):List (String×Val)→Option (List (String×D))
 | []=>some []
 | (k,x)::l=>match f x,Ge f l with
  | some d,some ds=>some ((k,d)::ds)
  | _,_=>none
def Gz(f:Val→Option D):Ob→Option D
 | .lst l=>(zX f l).map .lst
 | .ins c fs=>(Ge f fs).map (.ins c)
 | _=>none
def frz:Nat→State→Val→Option D
 | 0,_,v=>match v with
  | .d x=>some x
  | _=>none
 | n+1,s,v=>match v with
  | .d x=>some x
  | .tp l=>(zX (frz n s) l).map .tup
  | .r m=>match s.st[m]? with
   | some o=>Gz (frz n s) o
   | none=>none
def Df(n:Nat)(s:State)(r:RV):Option D:=
 match kj s r with
 | .val v=>frz n s v
 | .own i=>match s.sg[i]? with
  | some (some (.own o))=>Gz (frz n s) o
  | _=>none
 | _=>none
def nR(n:Nat)(s:State):List RV→Option (List D)
 | []=>some []
 | r::rs=>match Df n s r,nR n s rs with
  | some d,some ds=>some (d::ds)
  | _,_=>none
def x6(m n:Nat)(fs:State→Res (List RV))(g:Fn)(s:State):Res RV:=(fs s).bind fun rs s=>match nR m s rs with
 | some ds=>if ds.length=n then(match g (ds.map .d) []with
  | .ok (.val (.d x)) _=>if scal x then .ok (.val (.d x)) s else .stuck
  | _=>.stuck)else .stuck
 | none=>.stuck
section
variable{C:Cst}{Z Z' Zc:Hp}{loc loc':List Addr}{s s':State}{sv sv':L2.St}{H H':Hp}
variable{X:Cx}{e a b c o:Expr}{es:List Expr}{p pos apos:Pos}{f fa fb fc fo fi fv:State→Res RV}
theorem GoodZ.add(g:GoodZ Z H Zc){a:Addr}{u:HO}(z:Z a=none)(h1:H a=some u)(h4:qv u=false):∃ Zd,Same Zc Zd∧GoodZ Z H Zd∧Zd a=some u:=by
 cases ez:Zc a with
 | none=>
  refine⟨upd Zc a u,bI ez,⟨g.up.trans (bI ez),fun b w hb=>?_⟩,upd_same⟩
  by_cases hba:b=a
  ·subst hba
   rw[upd_same]at hb
   cases hb
   exact .inr ⟨h1,h4⟩
  ·rw[upd_ne hba]at hb
   exact g.at_ b w hb
 | some w=>
  have hw:w=u:=by
   rcases g.at_ a w ez with q | ⟨q,_⟩
   ·rw[z]at q;cases q
   ·rw[h1]at q;cases q;rfl
  subst hw
  exact⟨Zc,Same.refl _,g,ez⟩
def Fz(C:Cst)(Z:Hp)(loc:List Addr)(H:Hp)(f:Val→Option D):Prop:=∀ (Zc:Hp) (x:Val) (v:V) (d:D),GoodZ Z H Zc→bX C.cA Z loc x v→f x=some d→∃ Zd,Same Zc Zd∧GoodZ Z H Zd∧bK C.cA Zd d v
theorem zm{f:Val→Option D}(hf:Fz C Z loc H f):∀ {Zc:Hp} {l:List Val} {vs:List V} {ds:List D},GoodZ Z H Zc→aY C.cA Z loc l vs→zX f l=some ds→∃ Zd,Same Zc Zd∧GoodZ Z H Zd∧dQ C.cA Zd ds vs
 | Zc,[],vs,ds,g,h,e=>by cases e;exact⟨Zc,Same.refl _,g,h⟩
 | Zc,x::l,vs,ds,g,⟨v,t,e1,q,h⟩,e=>by
  unfold zX at e
  split at e
  ·rename_i d ds' e2 e3
   cases e
   obtain⟨Z1,s1,g1,r1⟩:=hf Zc x v d g q e2
   obtain⟨Z2,s2,g2,r2⟩:=zm hf g1 h e3
   exact⟨Z2,s1.trans s2,g2,v,t,e1,bK.mono s2 d r1,r2⟩
  ·cases e
theorem Fv{f:Val→Option D}(hf:Fz C Z loc H f):∀ {Zc:Hp} {l:List (String×Val)} {vs:List (Str×V)} {ds:List (String×D)},GoodZ Z H Zc→gq C.cA Z loc l vs→Ge f l=some ds→∃ Zd,Same Zc Zd∧GoodZ Z H Zd∧j9 C.cA Zd ds vs
 | Zc,[],vs,ds,g,h,e=>by cases e;exact⟨Zc,Same.refl _,g,h⟩
 | Zc,(k,x)::l,vs,ds,g,⟨v,t,e1,q,h⟩,e=>by
  unfold Ge at e
  split at e
  ·rename_i d ds' e2 e3
   cases e
   obtain⟨Z1,s1,g1,r1⟩:=hf Zc x v d g q e2
   obtain⟨Z2,s2,g2,r2⟩:=Fv hf g1 h e3
   exact⟨Z2,s1.trans s2,g2,v,t,e1,bK.mono s2 d r1,r2⟩
  ·cases e
theorem E9{f:Val→Option D}(hf:Fz C Z loc H f){o:Ob}{a:Addr}{d:D}(g:GoodZ Z H Zc)(cell:Cell C.cA Z loc H a o)(z:Z a=none)(e:Gz f o=some d):∃ Zd,Same Zc Zd∧GoodZ Z H Zd∧bK C.cA Zd d (.ref a):=by
 cases o with
 | lst l=>
  obtain⟨ds,e1,rfl⟩:=Option.map_eq_some_iff.mp e
  obtain⟨xs,h1,h2⟩:=cell
  obtain⟨Z1,s1,g1,r1⟩:=zm hf g h2 e1
  obtain⟨Z2,s2,g2,h3⟩:=g1.add z h1 rfl
  exact⟨Z2,s1.trans s2,g2,a,xs,rfl,.inl h3,dQ.mono s2 ds r1⟩
 | ins c fs=>
  obtain⟨ds,e1,rfl⟩:=Option.map_eq_some_iff.mp e
  obtain⟨dx,xs,h1,h2⟩:=cell
  obtain⟨Z1,s1,g1,r1⟩:=Fv hf g h2 e1
  obtain⟨Z2,s2,g2,h3⟩:=g1.add z h1 rfl
  exact⟨Z2,s1.trans s2,g2,a,dx,xs,rfl,h3,j9.mono s2 ds r1⟩
 | dic k l=>cases e
 | dit k l=>cases e
 | gone=>cases e
theorem yI(r:SR C Z loc s sv H):∀ n:Nat,Fz C Z loc H (frz n s)
 | 0=>fun Zc x v d g q e=>by
  cases x with
  | d y=>cases e;exact⟨Zc,Same.refl _,g,bK.mono g.up _ q⟩
  | r m=>cases e
  | tp l=>cases e
 | n+1=>fun Zc x v d g q e=>by
  cases x with
  | d y=>cases e;exact⟨Zc,Same.refl _,g,bK.mono g.up _ q⟩
  | r m=>
   have e':(match s.st[m]? with
    | some o=>Gz (frz n s) o
    | none=>none)=some d:=e
   split at e'
   ·rename_i o h1
    obtain⟨a,h2,rfl⟩:=q
    have ne:o≠ .gone:=fun z=>by subst z;cases e'
    obtain⟨c1,c2⟩:=r.cl m a o h2 h1 ne
    exact E9 (yI r n) g c1 c2 e'
   ·cases e'
  | tp l=>
   have e':(zX (frz n s) l).map D.tup=some d:=e
   obtain⟨ds,e1,rfl⟩:=Option.map_eq_some_iff.mp e'
   obtain⟨a,vs,rfl,h1,h2⟩:=q
   obtain⟨Z1,s1,g1,r1⟩:=zm (yI r n) g h2 e1
   exact⟨Z1,s1,g1,a,vs,rfl,g1.up _ _ h1,r1⟩
theorem SR.Df(r:SR C Z loc s sv H)(n:Nat)(g:GoodZ Z H Zc){rv:RV}{v:V}{d:D}(h:bM C Z loc s sv H rv v)(e:Vw.Df n s rv=some d):∃ Zd,Same Zc Zd∧GoodZ Z H Zd∧bK C.cA Zd d v:=by
 have q:=r.kj h
 unfold Vw.Df at e
 split at e
 ·rename_i x e1
  rw[e1]at q
  exact yI r n Zc x v d g q e
 ·rename_i i e1
  rw[e1]at q
  split at e
  ·rename_i o e2
   obtain⟨a,h1,h2,h3,h4,_⟩:=r.ow i _ e2
   rw[show sv[i]? =some (some v)from q]at h1
   cases h1
   exact E9 (yI r n) g h3 h4 e
  ·cases e
 ·cases e
theorem SR.nR(r:SR C Z loc s sv H)(n:Nat):∀ {Zc:Hp} {rs:List RV} {vs:List V} {ds:List D},GoodZ Z H Zc→iX C Z loc s sv H rs vs→Vw.nR n s rs=some ds→∃ Zd,Same Zc Zd∧GoodZ Z H Zd∧dQ C.cA Zd ds vs
 | Zc,[],vs,ds,g,h,e=>by cases e;exact⟨Zc,Same.refl _,g,h⟩
 | Zc,x::l,vs,ds,g,⟨v,t,e1,st,q,h⟩,e=>by
  unfold Vw.nR at e
  split at e
  ·rename_i d ds' e2 e3
   cases e
   obtain⟨Z1,s1,g1,r1⟩:=r.Df n g q e2
   obtain⟨Z2,s2,g2,r2⟩:=SR.nR r n g1 h e3
   exact⟨Z2,s1.trans s2,g2,v,t,e1,bK.mono s2 d r1,r2⟩
  ·cases e
theorem JR{g:Fn}{m n:Nat}{rs:List RV}{ds:List D}{vs:List V}{Q:VK}(r:SR C Z loc s sv H)(q:iX C Z loc s sv H rs vs)(e:nR m s rs=some ds)(hn:ds.length=n)
  (h:EPost C Z loc sv (match g (ds.map .d) []with | .ok (.val (.d x)) _=>if scal x then .ok (.val (.d x)) s else .stuck | _=>.stuck) Q):bP C.cA n g vs H Q E0:=by
 obtain⟨Zc,_,gz,q1⟩:=r.nR m (GoodZ.refl) q e
 refine⟨gy H Zc [],C.H0,Zc,[],ds.map .d,[],r.look gz _,u3 q1,by simpa using hn,?_⟩
 split at h
 ·rename_i x s1 e1
  rw[e1]
  split at h
  ·rename_i p
   exact fun Z' l' H' v g r' q'=>h Z loc H' v (Ext.refl _ _) (r.looked gz g r') (CT (Z:=Z) p q')
  ·exact h.elim
 ·exact h.elim
theorem MF{m:Nat}{CX:CXT}{k n:Nat}{fA:Addr}{fd:FuncData}{ps:List Str}{x:Str}{g:Fn}{fs:State→Res (List RV)}{cA:String→Addr}(hC:C.cA=cA)(F:FnOk X.prog X.w X.K X.mg X.base CX k fA fd ps (bP cA n g))(hr:Room k X.A)(hg:Gl X x)(hm:X.mg x=some (.ref fA))(hk:PySem.W.keepIn X.K (.ref fA)=true)
  (hb:Binds X.K fd ps []) (hx:Passes CX X E0) (hn:ps.length=n) (ha:PA X (e::es) (cV C fs)) (hdb:(x==("__debug__":Str))=false) (hs:(e::es).all notStar=true):
  PE X (.Call (.Name x p) (e::es) [] pos) (au C (x6 m n fs g)):=by
 subst hn hC
 have hs':=hs
 simp only[List.all_cons,Bool.and_eq_true]at hs
 refine bq (pe_call F hr hg hm hk hb .nil hx ha hdb (bx hs.1) (eW hs.2)) fun sv H Q h=>(cV.at h).imp fun vs H1 ⟨Z,loc,s,xs,r,q,h⟩=>?_
 rw[List.append_nil]
 split at h
 ·rename_i ds e1
  split at h
  ·rename_i hn
   exact JR r q e1 hn h
  ·exact h.elim
 ·exact h.elim
end
end Vw
namespace Vw
open PySem L2 PyProof.Rows
end Vw
namespace Vw
open PySem L2 PyProof.Rows
def tu:List Val→Option (List D)
 | []=>some []
 | .d x::r=>(tu r).map (x:: ·)
 | _::_=>none
def Ak(r:Res RV)(s:State):Res RV:=
 match r with
 | .ok (.val (.d x)) _=>.ok (.val (.d x)) s
 | .ok (.new o) _=>if o.toD.isSome then .ok (.new o) s else .stuck
 | .exc x _=>.exc x s
 | _=>.stuck
def mT(n:Nat)(fs:State→Res (List RV))(g:Fn)(s:State):Res RV:=(fs s).bind fun rs s=>(bc rs s).bind fun args s=>match tu args with
 | some ds=>if ds.length=n then Ak (g (ds.map .d) []) s else .stuck
 | none=>.stuck
theorem Ed:∀ {l:List Val} {ds:List D},tu l=some ds→l=ds.map .d
 | [],ds,h=>by cases h;rfl
 | .d x::r,ds,h=>by
  obtain⟨t,e,rfl⟩:=Option.map_eq_some_iff.mp h
  rw[List.map_cons,←Ed e]
 | .r n::r,ds,h=>by cases h
 | .tp l::r,ds,h=>by cases h
section
variable{C:Cst}{Z Z' Zc:Hp}{loc loc' l':List Addr}{s s':State}{sv sv':L2.St}{H H':Hp}
variable{X:Cx}{e a b c o:Expr}{es:List Expr}{p pos apos:Pos}{f fa fb fc fo fi fv:State→Res RV}
theorem E3{cA:String→Addr}:∀ {ds:List D} {vs:List V},aY cA Z loc (ds.map .d) vs→aY cA Z loc' (ds.map .d) vs
 | [],vs,h=>h
 | d::ds,vs,⟨v,t,e,q,h⟩=>⟨v,t,e,q,E3 h⟩
theorem yr{cA:String→Addr}:∀ {l:List Val} {vs:List V} {ds:List D},toDs l=some ds→aY cA Z loc l vs→aY cA Z loc' l vs
 | [],vs,ds,e,h=>h
 | .d x::l,vs,ds,e,⟨v,t,e1,q,h⟩=>by
  obtain⟨t',e',_⟩:=Option.map_eq_some_iff.mp e
  exact⟨v,t,e1,q,yr e' h⟩
 | .r n::l,vs,ds,e,h=>by cases e
 | .tp m::l,vs,ds,e,h=>by cases e
theorem wL{cA:String→Addr}:∀ {l:List (K0×Val)} {vs:List (Key×V)} {ds:List (K0×D)},toDK l=some ds→dN cA Z loc l vs→dN cA Z loc' l vs
 | [],vs,ds,e,h=>h
 | (k,.d x)::l,vs,ds,e,⟨v,t,e1,q,h⟩=>by
  obtain⟨t',e',_⟩:=Option.map_eq_some_iff.mp e
  exact⟨v,t,e1,q,wL e' h⟩
 | (k,.r n)::l,vs,ds,e,h=>by cases e
 | (k,.tp m)::l,vs,ds,e,h=>by cases e
theorem wK{cA:String→Addr}:∀ {l:List (List K0×Val)} {vs:List (List Key×V)} {ds:List (List K0×D)},toDK l=some ds→d7 cA Z loc l vs→d7 cA Z loc' l vs
 | [],vs,ds,e,h=>h
 | (k,.d x)::l,vs,ds,e,⟨v,t,e1,q,h⟩=>by
  obtain⟨t',e',_⟩:=Option.map_eq_some_iff.mp e
  exact⟨v,t,e1,q,wK e' h⟩
 | (k,.r n)::l,vs,ds,e,h=>by cases e
 | (k,.tp m)::l,vs,ds,e,h=>by cases e
theorem wB{cA:String→Addr}:∀ {l:List (String×Val)} {vs:List (Str×V)} {ds:List (String×D)},toDK l=some ds→gq cA Z loc l vs→gq cA Z loc' l vs
 | [],vs,ds,e,h=>h
 | (k,.d x)::l,vs,ds,e,⟨v,t,e1,q,h⟩=>by
  obtain⟨t',e',_⟩:=Option.map_eq_some_iff.mp e
  exact⟨v,t,e1,q,wB e' h⟩
 | (k,.r n)::l,vs,ds,e,h=>by cases e
 | (k,.tp m)::l,vs,ds,e,h=>by cases e
theorem JY{cA:String→Addr}{a:Addr}:∀ {o:Ob} {d:D},o.toD=some d→Cell cA Z loc H a o→Cell cA Z loc' H a o
 | .lst l,d,e,⟨xs,h,q⟩=>by
  obtain⟨ds,e1,_⟩:=Option.map_eq_some_iff.mp e
  exact⟨xs,h,yr e1 q⟩
 | .dic false l,d,e,⟨ws,h,q⟩=>by
  obtain⟨ds,e1,_⟩:=Option.map_eq_some_iff.mp e
  exact⟨ws,h,wL e1 q⟩
 | .dit false l,d,e,⟨ws,h,q⟩=>by
  obtain⟨ds,e1,_⟩:=Option.map_eq_some_iff.mp e
  exact⟨ws,h,wK e1 q⟩
 | .ins c l,d,e,⟨dx,ws,h,q⟩=>by
  obtain⟨ds,e1,_⟩:=Option.map_eq_some_iff.mp e
  exact⟨dx,ws,h,wB e1 q⟩
 | .dic true l,d,e,_=>by cases e
 | .dit true l,d,e,_=>by cases e
 | .gone,d,e,_=>by cases e
theorem SR.rV(r:SR C Z loc s sv H){E:XK}{st:List Ob}(g:Ext Z [] Z' l')(r':SR (fX C.cA (gy H Z []) C.H0 E) Z' l' ⟨[],st⟩ [] H'):SR C Z' loc s sv H':=by
 have gz:Ext Z loc Z' loc:=⟨g.1,[],by simp⟩
 have z0:∀ {a:Addr} {u:HO},Z a=none→H a=some u→Z' a=none∧H' a=some u:=fun {a u} h1 h2=>by
  have f:=(oU (H:=H) (loc:=[]) h1 (by simp)).trans h2
  exact⟨(r'.mC (a:=a) f).1,r'.fr a u f⟩
 have ne:∀ {a:Addr},H a≠none→H' a≠none:=fun {a} h=>by
  cases eh:H a with
  | none=>exact absurd eh h
  | some u=>
   cases ez:Z a with
   | none=>rw[(z0 ez eh).2];simp
   | some w=>exact Ah (r'.zh a w (g.1 a w ez))
 refine⟨fun a o h=>?_,r'.zh,fun a o h=>?_,r'.lk,r.ln,r.nd,fun a h=>⟨ne (r.lh a h).1,(r.lh a h).2⟩,fun n a o h1 h2 h3=>?_,fun i x h=>?_,fun i o h=>?_,r.oi,r.ls⟩
 ·exact(z0 (r.mC h).1 (r.fr a o h)).2
 ·cases e:C.Fr a with
  | none=>rfl
  | some u=>rw[(z0 (r.mC e).1 (r.fr a u e)).1]at h;cases h
 ·obtain⟨q1,q2⟩:=r.cl n a o h1 h2 h3
  cases eh:H a with
  | none=>exact absurd eh (j4 h3 q1)
  | some u=>
   obtain⟨w1,w2⟩:=z0 q2 eh
   exact⟨(q1.at (w2.trans eh.symm)).mono gz (Same.refl _),w1⟩
 ·obtain⟨v,q1,q2⟩:=r.vl i x h
  exact⟨v,q1,bX.mono gz x q2⟩
 ·obtain⟨a,q1,q2,q3,q4,q5,q6⟩:=r.ow i o h
  cases eh:H a with
  | none=>exact absurd eh (j4 q2 q3)
  | some u=>
   obtain⟨w1,w2⟩:=z0 q4 eh
   exact⟨a,q1,q2,(q3.at (w2.trans eh.symm)).mono gz (Same.refl _),w1,q5,q6⟩
theorem bM.rV(r:SR C Z loc s sv H){E:XK}{st:List Ob}(g:Ext Z [] Z' l')(r':SR (fX C.cA (gy H Z []) C.H0 E) Z' l' ⟨[],st⟩ [] H'){o:Ob}{v:V}(ho:o.toD.isSome=true)(q:bM (fX C.cA (gy H Z []) C.H0 E) Z' l' ⟨[],st⟩ [] H' (.new o) v):bM C Z' loc s sv H' (.new o) v:=by
 obtain⟨a,h1,h2,h3,h4⟩:=q
 obtain⟨d,hd⟩:=Option.isSome_iff_exists.mp ho
 have za:Z a=none:=by
  cases e:Z a with
  | none=>rfl
  | some w=>have:=g.1 a w e;rw[h4.z]at this;cases this
 have ha:H a=none:=by
  have:=h4.f
  exact(oU (H:=H) (loc:=[]) za (by simp)).symm.trans this
 refine⟨a,h1,h2,JY hd h3,h4.z,?_,fun z=>(r.lh a z).1 ha,fun i o h e=>?_⟩
 ·cases e:C.Fr a with
  | none=>rfl
  | some u=>have:=r.fr a u e;rw[ha]at this;cases this
 ·obtain⟨b,q1,q2,q3,q4,q5,q6⟩:=r.ow i o h
  rw[e]at q1
  cases q1
  exact j4 q2 q3 ha
theorem SR.S2(r:SR C Z loc s sv H)(E:XK):SR (fX C.cA (gy H Z []) C.H0 E) Z [] ⟨[],[]⟩ [] H:=r.look GoodZ.refl E
theorem L6{g:Fn}{n:Nat}{ds:List D}{vs:List V}{Q:VK}(r:SR C Z loc s sv H)(q:aY C.cA Z loc (ds.map .d) vs)(hn:ds.length=n)(h:EPost C Z loc sv (Ak (g (ds.map .d) []) s) Q):bP C.cA n g vs H Q (WE C.W sv):=by
 refine⟨gy H Z [],C.H0,Z,[],ds.map .d,[],r.S2 _,E3 q,by simpa using hn,?_⟩
 unfold Ak at h
 cases e:g (ds.map .d) []with
 | stuck=>rw[e]at h;exact h
 | exc x s1=>
  rw[e]at h
  exact fun Z' l' H' c d g r' q'=>h Z' loc H' c d ⟨g.1,[],by simp⟩ (r.rV g r') q'
 | ok rv s1=>
  rw[e]at h
  cases rv with
  | own i=>exact h.elim
  | val x=>
   cases x with
   | d x=>exact fun Z' l' H' v g r' q'=>h Z' loc H' v ⟨g.1,[],by simp⟩ (r.rV g r') q'
   | r n=>exact h.elim
   | tp l=>exact h.elim
  | new o=>
   dsimp only at h
   split at h
   ·rename_i ho
    exact fun Z' l' H' v g r' q'=>h Z' loc H' v ⟨g.1,[],by simp⟩ (r.rV g r') (bM.rV r g r' ho q')
   ·exact h.elim
theorem xN{k n:Nat}{fA:Addr}{fd:FuncData}{ps:List Str}{x:Str}{g:Fn}{fs:State→Res (List RV)}{cA:String→Addr}(hC:C.cA=cA)(tk:Takes X C.W)(F:FnOk X.prog X.w X.K X.mg X.base (L2.CX X.prog X.w) k fA fd ps (bP cA n g))(hr:Room k X.A)(hg:Gl X x)(hm:X.mg x=some (.ref fA))(hk:PySem.W.keepIn X.K (.ref fA)=true)
  (hb:Binds X.K fd ps []) (hn:ps.length=n) (ha:PA X (e::es) (cV C fs)) (hdb:(x==("__debug__":Str))=false) (hs:(e::es).all notStar=true):
  PE X (.Call (.Name x p) (e::es) [] pos) (au C (mT n fs g)):=by
 subst hn hC
 have hs':=hs
 simp only[List.all_cons,Bool.and_eq_true]at hs
 refine bq (pe_callS F hr hg hm hk hb (fun σ=>passAt tk σ) ha hdb (bx hs.1) (eW hs.2)) fun sv H Q h=>(cV.at h).imp fun vs H1 ⟨Z,loc,s,xs,r,q,h⟩=>?_
 cases e1:bc xs s with
 | stuck=>rw[e1]at h;exact h.elim
 | exc x s1=>exact absurd e1 ie
 | ok args s1=>
  rw[e1]at h
  simp only[Res.bind]at h
  obtain⟨Z1,g1,r1,q1⟩:=r.bc q e1
  split at h
  ·rename_i ds e2
   split at h
   ·rename_i hn
    exact L6 r1 (Ed e2▸q1) hn (EPost.ext h g1)
   ·exact h.elim
  ·exact h.elim
def RL(i:Nat)(s:State):State:=match kd i s with
 | .ok _ s'=>s'
 | _=>s
theorem SR.fz(r:SR C Z loc s sv H)(i:Nat):∃ Z',Ext Z loc Z' loc∧SR C Z' loc (RL i s) sv H:=by
 unfold RL
 cases e:Vw.kd i s with
 | exc x s1=>exact⟨Z,Ext.refl _ _,r⟩
 | stuck=>exact⟨Z,Ext.refl _ _,r⟩
 | ok x s1=>
  have e':=e
  unfold Vw.kd at e'
  split at e'
  ·rename_i o ho
   obtain⟨a,h1,_⟩:=r.ow i o ho
   obtain⟨Z',g,r',_⟩:=r.kd h1 e
   exact⟨Z',g,r'⟩
  ·rename_i x' hx
   cases e'
   exact⟨Z,Ext.refl _ _,r⟩
  ·cases e'
end
end Vw
namespace Vw
open PySem L2 PyProof.Rows
def Gm(s:State):Res RV:=.ok (.new (.dic false [])) s
def kO(a b:List Nat):Bool:= !eG b a
def mJ(l:List (List Nat)):List (List Nat):=l.mergeSort kO
def zv:List (K0×Val)→Option (List (List Nat))
 | []=>some []
 | (.s n,_)::r=>(zv r).map (n:: ·)
 | _::_=>none
def v9(rs:List RV)(s:State):Res RV:=
 match rs with
 | [x]=>match (oj s x).bind zv with
  | some ns=>if ns.length<64 then .ok (.new (.lst ((mJ ns).map fun n=>.d (.str n)))) s else .stuck
  | none=>.stuck
 | _=>.stuck
section
variable{C:Cst}{Z Z' Zc:Hp}{loc loc' l':List Addr}{s s':State}{sv sv':L2.St}{H H':Hp}
variable{X:Cx}{e a b c o:Expr}{es:List Expr}{p pos apos cpos:Pos}{f fa fb fc fo fi fv fk fd:State→Res RV}
theorem Oz:PE X (.Dict [] [] pos) (au C Gm):=bq pe_dnewK fun sv H Q ⟨Z,loc,s,r,h⟩=>fun p hp=>by
 have h:EPost C Z loc sv (.ok (.new (.dic false [])) s) Q:=h
 exact h.new r hp (by simp) ⟨[],upd_same,rfl⟩
theorem AO(a b c:List Nat):kO a b=true→kO b c=true→kO a c=true:=by
 unfold kO eG
 simp only[Bool.not_eq_true',decide_eq_false_iff_not,List.not_lt]
 exact fun h h2=>List.le_trans h h2
theorem Hj(a b:List Nat):(kO a b||kO b a)=true:=by
 unfold kO eG
 simp only[Bool.or_eq_true,Bool.not_eq_true',decide_eq_false_iff_not,List.not_lt]
 exact List.le_total a b
theorem CI{a b:List Nat}(h:kO a b=true)(h2:kO b a=true):a=b:=by
 unfold kO eG at h h2
 simp only[Bool.not_eq_true',decide_eq_false_iff_not,List.not_lt]at h h2
 exact List.le_antisymm h h2
theorem Cq(l:List (List Nat)):(mJ l).Pairwise fun a b=>kO a b=true:=List.pairwise_mergeSort AO Hj l
theorem oF(l:List (List Nat)):(mJ l).Perm l:=List.mergeSort_perm l kO
theorem Ke{l m:List (List Nat)}(h:m.Perm l)(h2:m.Pairwise fun a b=>kO a b=true):m=mJ l:=
 List.Perm.eq_of_pairwise (fun a b _ _ h1 h2=>CI h1 h2) h2 (Cq l) (h.trans (oF l).symm)
def wC(t:List Nat):Str:=⟨t.toArray⟩
theorem A5:∀ (ys:List Str) (x:Str),risingS x ys=true→(x::ys).Pairwise fun a b=>kO a.cps.toList b.cps.toList=true
 | [],x,h=>List.pairwise_singleton _ _
 | y::ys,x,h=>by
  unfold risingS at h
  obtain⟨h1,h2⟩:=Bool.and_eq_true_iff.mp h
  have ih:=A5 ys y h2
  have hxy:kO x.cps.toList y.cps.toList=true:=by
   unfold kO eG
   rw[ltCps_eq]at h1
   exact h1
  refine List.pairwise_cons.mpr ⟨fun z hz=>?_,ih⟩
  rcases List.mem_cons.mp hz with rfl | hz
  ·exact hxy
  ·exact AO _ _ _ hxy ((List.pairwise_cons.mp ih).1 z hz)
theorem GX{ys:List Str}(h:sortedS ys=true):ys.Pairwise fun a b=>kO a.cps.toList b.cps.toList=true:=by
 cases ys with
 | nil=>exact List.Pairwise.nil
 | cons x r=>exact A5 r x h
theorem sorted_strs{ts:List (List Nat)}{ys:List Str}(hp:ys.Perm (ts.map wC))(h:sortedS ys=true):ys=(mJ ts).map wC:=by
 have e:ys=(ys.map fun y=>y.cps.toList).map wC:=by
  rw[List.map_map]
  have:(wC∘fun(y:Str)=>y.cps.toList)=id:=funext fun y=>by cases y;rfl
  rw[this,List.map_id]
 have e2:ys.map (fun y=>y.cps.toList)=mJ ts:=by
  refine Ke ?_ ?_
  ·have:=hp.map fun(y:Str)=>y.cps.toList
   rw[List.map_map]at this
   have i:((fun(y:Str)=>y.cps.toList)∘wC)=id:=funext fun y=>by simp[wC]
   rw[i,List.map_id]at this
   exact this
  ·rw[List.pairwise_map]
   exact GX h
 rw[e,e2]
theorem ym:∀ (ts:List (List Nat)),aY C.cA Z loc (ts.map fun t=>.d (.str t)) ((ts.map wC).map V.str)
 | []=>rfl
 | t::ts=>⟨.str (wC t),_,rfl,rfl,ym ts⟩
theorem FX:∀ {l:List (K0×Val)} {ns:List (List Nat)} {ws:List (Key×V)},zv l=some ns→dN C.cA Z loc l ws→ws.map (·.1)=(ns.map wC).map Sum.inr
 | [],ns,ws,e,h=>by cases e;rw[show ws=_ from h];rfl
 | (.s n,x)::l,ns,ws,e,⟨v,t,e1,q,h⟩=>by
  obtain⟨ns',e2,rfl⟩:=Option.map_eq_some_iff.mp e
  rw[e1,List.map_cons,FX e2 h];rfl
 | (.i n,x)::l,ns,ws,e,h=>by cases e
theorem GP:sJ C v9 (fun xs H Q=>∃ (a:Addr) (kvs:List (Key×V)) (ks:List Str),xs=[.ref a]∧Rd H a (.dK kvs)∧kvs.map (·.1)=ks.map Sum.inr∧ks.length<64∧∀ ys p,ys.Perm ks→sortedS ys=true→H p=none→Q (.ref p) (upd H p (.lst (ys.map V.str)))):=by
 intro Z loc s sv H rs vs Q r q h
 unfold v9 at h
 split at h
 ·obtain⟨v,t,rfl,st,q1,q2⟩:=q
  cases q2
  split at h
  ·rename_i ns e
   split at h
   ·rename_i hl
    obtain⟨l,e1,e2⟩:=Option.bind_eq_some_iff.mp e
    obtain⟨a,ws,rfl,h1,h2⟩:=r.oj q1 e1
    refine⟨a,ws,ns.map wC,rfl,h1,FX e2 h2,by simpa using hl,fun ys p h3 h4 np=>?_⟩
    rw[sorted_strs h3 h4]
    exact h.new r np (by simp) ⟨_,upd_same,ym _⟩
   ·exact h.elim
  ·exact h.elim
 ·exact h.elim
end
end Vw
namespace Vw
open PySem L2 PyProof.Rows
end Vw
namespace L2
open PySem PySem.Spec PyProof.Rows
end L2
namespace Vw
open PySem L2 PyProof.Rows
end Vw
namespace Vw
open PySem L2 PyProof.Rows
def Kv:HO→Prop
 | .frz _ _=>False
 | _=>True
structure GoodY (Z H:Hp) (L:Addr→Prop) (Zc:Hp):Prop where
 up:Same Z Zc
 at_:∀ (a:Addr) (o:HO),Zc a=some o→Z a=some o∨(Z a=none∧Rz H a o∧L a∧Kv o)
section
variable{C:Cst}{Z Z' Zc Zd:Hp}{loc loc' l':List Addr}{L:Addr→Prop}{s s':State}{sv sv':L2.St}{H H':Hp}
variable{X:Cx}{e a b c o:Expr}{es:List Expr}{p pos apos:Pos}{f fa fb fc fo fi fv:State→Res RV}
theorem GoodY.refl:GoodY Z H L Z:=⟨Same.refl _,fun a o h=>.inl h⟩
theorem NZ{a:Addr}{u w:HO}(h1:Rz H a u)(h2:Rz H a w)(n1:Kv u)(n2:Kv w):w=u:=by
 rcases h1 with h1 | ⟨_,o1,h1⟩
 ·rcases h2 with h2 | ⟨_,o2,h2⟩
  ·rw[h1]at h2;cases h2;rfl
  ·rw[h1]at h2;cases h2;exact n1.elim
 ·rcases h2 with h2 | ⟨_,o2,h2⟩
  ·rw[h1]at h2;cases h2;exact n2.elim
  ·rw[h1]at h2;cases h2;rfl
theorem GoodY.add(g:GoodY Z H L Zc){a:Addr}{u:HO}(z:Z a=none)(h1:Rz H a u)(hl:L a)(hn:Kv u):∃ Zd,Same Zc Zd∧GoodY Z H L Zd∧Zd a=some u:=by
 cases ez:Zc a with
 | none=>
  refine⟨upd Zc a u,bI ez,⟨g.up.trans (bI ez),fun b w hb=>?_⟩,upd_same⟩
  by_cases hba:b=a
  ·subst hba
   rw[upd_same]at hb
   cases hb
   exact .inr ⟨z,h1,hl,hn⟩
  ·rw[upd_ne hba]at hb
   exact g.at_ b w hb
 | some w=>
  have hw:w=u:=by
   rcases g.at_ a w ez with q | ⟨_,q,_,n⟩
   ·rw[z]at q;cases q
   ·exact NZ h1 q hn n
  subst hw
  exact⟨Zc,Same.refl _,g,ez⟩
end
end Vw
namespace SrtO
open PySem PyProof.Rows Srt
section
variable{prog:Program}{w:World}{A:Around}{E:Value→Shared→Prop}{s:Shared}
def Jw(h:Heap)(v:Value)(x:Int):Prop:=∃ a o t u n,v=.ref a∧h.get? a=some o∧o.cls=.type "tuple"∧o.data=.seq #[.int x t,u] n
theorem Jw.keeps{h h':Heap}{v:Value}{x:Int}(p:Jw h v x)(k:∀ b o,h.get? b=some o→o.cls=.type "tuple"→h'.get? b=some o):Jw h' v x:=by
 obtain⟨a,o,t,u,n,e,ho,hc,hd⟩:=p
 exact⟨a,o,t,u,n,e,k _ _ ho hc,hc,hd⟩
end
end SrtO
namespace L2
open PySem PySem.Spec PyProof.Rows
end L2
namespace Vw
open PySem L2 PyProof.Rows
end Vw
namespace Vw
open PySem L2 PyProof.Rows
end Vw
namespace L2
open PySem PySem.Spec PyProof.Rows
end L2
namespace Vw
open PySem L2 PyProof.Rows
end Vw
namespace Vw
open PySem L2 PyProof.Rows
def GD(ex:PySem.W.Frag→Bool)(as:List Addr)(fa:List He.Fa)(fn:List He.DefD)(g:Addr→Option Obj):IS:=(He.obsD fa fn (He.frG g as),vX (He.frG g as)&&ex (He.frG g as))
def LD(ex:PySem.W.Frag→Bool)(as:List Addr)(fa:List He.Fa)(fn:List He.DefD):PySem.W.Hook where
 α:=IS
 obs:=fun s=>GD ex as fa fn s.heap.get?
 val:=fun _=>(He.valD fn,true)
 says:=fun _ h=>∃ K:PySem.W.Frag,K.In h∧He.SaysD fa fn K∧vX K=true∧ex K=true
 of:=fun _ _ e=>⟨_,He.frG_in,congrArg (fun z:IS=>z.1) e,Bool.and_eq_true_iff.mp (congrArg (fun z:IS=>z.2) e)⟩
 keeps:=fun _ _ _ ⟨K,hK,c⟩ k=>⟨K,PySem.W.Frag.In.keeps hK k,c⟩
theorem L8{ex:PySem.W.Frag→Bool}{as:List Addr}{fa:List He.Fa}{fn:List He.DefD}{g:Addr→Option Obj}{s:Shared}(h:∀ a,g a=s.heap.get? a):GD ex as fa fn g=(LD ex as fa fn).obs s:=by
 have e:g=s.heap.get? :=funext h
 rw[e]<;> rfl
theorem sV{α β γ:Type}{e:Option α}{f:α→β}{g:α→γ}{b:β}{c:γ}(h1:e.map f=some b)(h2:e.map g=some c):e.map (fun s=>(f s,g s))=some (b,c):=by
 cases e with
 | none=>cases h1
 | some s=>rw[Option.map_some]at *;cases h1;cases h2;rfl
theorem Ag{α:Type}{e:Option α}{f g:α→Bool}(h1:e.map f=some true)(h2:e.map g=some true):e.map (fun s=>f s&&g s)=some true:=by
 cases e with
 | none=>cases h1
 | some s=>rw[Option.map_some]at *;rw[Option.some.inj h1,Option.some.inj h2];rfl
theorem JU{α:Type}{e:Option α}{ex:PySem.W.Frag→Bool}{as:List Addr}{fa:List He.Fa}{fn:List He.DefD}{g:α→Addr→Option Obj}(h1:e.map (fun s=>fa.all fun f=>f.ok (He.frG (g s) as))=some true)(h2:e.map (fun s=>fn.all fun d=>d.ok (He.frG (g s) as))=some true)
  (h3:e.map (fun s=>fn.map fun d=>He.fnW (He.frG (g s) as) d.at_)=some (fn.map He.DefD.val)) (h4:e.map (fun s=>vX (He.frG (g s) as))=some true) (h5:e.map (fun s=>ex (He.frG (g s) as))=some true):e.map (fun s=>GD ex as fa fn (g s))=some (He.valD fn,true):=
 sV (sV (Ag h1 h2) h3) (Ag h4 h5)
end Vw
namespace K34
open PySem L2 PyProof.Rows Vw
def top(i:Nat):Stmt:=PySem.Challenge.pw_findcourt_k34_lines_of_deeds_looked_at.main.body.getD i (.Pass ⟨0,0,0,0⟩)
def LK(s:Stmt):List Stmt:=match s with
 | .ClassDef _ _ _ b _ _ _ _ _ _ _=>b
 | _=>[]
def gi(i j:Nat):Stmt:=(LK (top i)).getD j (.Pass ⟨0,0,0,0⟩)
def cM:List String:=["FindError","NoField","NoMake","NoBytes","NoDocument","NoStamp","NoPiece","NoPattern","NoLine","NoText"]
def Ii:List String:=["NoField","NoMake"]
def fT:List (String×String):=[("FieldReader","line"),("FieldReader","at")]
def t9:He.DefD:=⟨("_law_draws",none),"_law_draws","_law_draws",defArgs (top 26),defBody (top 26),defScope (top 26),[],[]⟩
def wA:He.DefD:=⟨("_law_pop",none),"_law_pop","_law_pop",defArgs (top 27),defBody (top 27),defScope (top 27),[],[]⟩
def wz:He.DefD:=⟨("_law_odd",none),"_law_odd","_law_odd",defArgs (top 40),defBody (top 40),defScope (top 40),[],[]⟩
def uI:He.DefD:=⟨("_law_bent",none),"_law_bent","_law_bent",defArgs (top 41),defBody (top 41),defScope (top 41),[],[]⟩
def uE:He.DefD:=⟨("_law_line",none),"_law_line","_law_line",defArgs (top 34),defBody (top 34),defScope (top 34),[],[]⟩
def t8:He.DefD:=⟨("_law_names",none),"_law_names","_law_names",defArgs (top 29),defBody (top 29),defScope (top 29),[],[]⟩
def uq:He.DefD:=⟨("_law_text",none),"_law_text","_law_text",defArgs (top 30),defBody (top 30),defScope (top 30),[],[]⟩
def pO:He.DefD:=⟨("_law_document",none),"_law_document","_law_document",defArgs (top 31),defBody (top 31),defScope (top 31),[],[]⟩
def rX:He.DefD:=⟨("_law_number",none),"_law_number","_law_number",defArgs (top 32),defBody (top 32),defScope (top 32),[],[]⟩
def uV:He.DefD:=⟨("_law_deed",none),"_law_deed","_law_deed",defArgs (top 33),defBody (top 33),defScope (top 33),[],[]⟩
def qB:He.DefD:=⟨("_law_text_in",none),"_law_text_in","_law_text_in",defArgs (top 36),defBody (top 36),defScope (top 36),[],[]⟩
def l0:He.DefD:=⟨("_law_document_in",none),"_law_document_in","_law_document_in",defArgs (top 37),defBody (top 37),defScope (top 37),[],[]⟩
def oh:He.DefD:=⟨("_law_number_in",none),"_law_number_in","_law_number_in",defArgs (top 35),defBody (top 35),defScope (top 35),[],[]⟩
def qW:He.DefD:=⟨("_law_deed_in",none),"_law_deed_in","_law_deed_in",defArgs (top 38),defBody (top 38),defScope (top 38),[],[]⟩
def jW:He.DefD:=⟨("FieldReader",some "__init__"),"__init__","FieldReader.__init__",defArgs (gi 22 0),defBody (gi 22 0),defScope (gi 22 0),[],[]⟩
def jA:He.DefD:=⟨("FieldReader",some "next_name"),"next_name","FieldReader.next_name",defArgs (gi 22 3),defBody (gi 22 3),defScope (gi 22 3),[],[]⟩
def E4:He.DefD:=⟨("sure",none),"sure","sure",defArgs (top 20),defBody (top 20),defScope (top 20),[],[]⟩
def kK:He.DefD:=⟨("FieldReader",some "ahead"),"ahead","FieldReader.ahead",defArgs (gi 22 1),defBody (gi 22 1),defScope (gi 22 1),[],[]⟩
def lX:He.DefD:=⟨("FieldReader",some "eat"),"eat","FieldReader.eat",defArgs (gi 22 2),defBody (gi 22 2),defScope (gi 22 2),[],[]⟩
def jH:He.DefD:=⟨("FieldReader",some "next_text"),"next_text","FieldReader.next_text",defArgs (gi 22 4),defBody (gi 22 4),defScope (gi 22 4),[],[]⟩
def jd:He.DefD:=⟨("FieldReader",some "next_field"),"next_field","FieldReader.next_field",defArgs (gi 22 5),defBody (gi 22 5),defScope (gi 22 5),[],[]⟩
def yu:He.DefD:=⟨("is_name",none),"is_name","is_name",defArgs (top 14),defBody (top 14),defScope (top 14),[],[]⟩
def lP:He.DefD:=⟨("look_at_document",none),"look_at_document","look_at_document",defArgs (top 15),defBody (top 15),defScope (top 15),[],[]⟩
def o9:He.DefD:=⟨("read_document",none),"read_document","read_document",defArgs (top 23),defBody (top 23),defScope (top 23),[],[]⟩
def um:He.DefD:=⟨("number_of",none),"number_of","number_of",defArgs (top 21),defBody (top 21),defScope (top 21),[],[]⟩
def u5:He.DefD:=⟨("read_deed",none),"read_deed","read_deed",defArgs (top 24),defBody (top 24),defScope (top 24),[],[]⟩
def vk:He.DefD:=⟨("_law_kind",none),"_law_kind","_law_kind",defArgs (top 39),defBody (top 39),defScope (top 39),[],[]⟩
def qH:He.DefD:=⟨("_law_refused",none),"_law_refused","_law_refused",defArgs (top 42),defBody (top 42),defScope (top 42),[],[]⟩
def t7:He.DefD:=⟨("_law_alike",none),"_law_alike","_law_alike",defArgs (top 28),defBody (top 28),defScope (top 28),[],[]⟩
def tZ:He.DefD:=⟨("show_field",none),"show_field","show_field",defArgs (top 17),defBody (top 17),defScope (top 17),[],[]⟩
def pZ:He.DefD:=⟨("show_document",none),"show_document","show_document",defArgs (top 18),defBody (top 18),defScope (top 18),[],[]⟩
def vj:He.DefD:=⟨("show_deed",none),"show_deed","show_deed",defArgs (top 19),defBody (top 19),defScope (top 19),[],[]⟩
def Iy:He.DefD:=⟨("law",none),"law","law",defArgs (top 43),defBody (top 43),defScope (top 43),[],[]⟩
def uO:He.DefD:=⟨("NoField",some "__init__"),"__init__","NoField.__init__",defArgs (gi 2 0),defBody (gi 2 0),defScope (gi 2 0),[],[]⟩
def A3:List He.DefD:=[t9,wA,wz,uI,uE,t8,uq,pO,rX,uV,qB,l0,oh,qW,jW,jA,E4,kK,lX,jH,jd,yu,lP,o9,um,u5,vk,qH,t7,tZ,pZ,vj,Iy,uO]
def Kt:List He.Fa:=[.glo "_law_draws",.glo "_law_pop",.glo "_law_odd",.glo "_law_bent",.glo "_law_line",.glo "_law_names",.glo "_law_text",.glo "_law_document",.glo "_law_number",.glo "_law_deed",.glo "_law_text_in",.glo "_law_document_in",.glo "_law_number_in",.glo "_law_deed_in",.meth "FieldReader" "next_name",.glo "sure",.meth "FieldReader" "ahead",.meth "FieldReader" "eat",.meth "FieldReader" "next_text",.meth "FieldReader" "next_field",.glo "is_name",.glo "look_at_document",.glo "read_document",.glo "number_of",.glo "read_deed",.glo "_law_kind",.glo "_law_refused",.glo "_law_alike",.glo "show_field",.glo "show_document",.glo "show_deed",.glo "law",.free "ValueError",.free "all",.free "bool",.free "enumerate",.free "int",.free "isinstance",.free "len",.free "list",.free "range",.free "sorted",.free "str",.free "tuple",.str "FIGURES" "0123456789",.str "LETTERS" "abcdefghijklmnopqrstuvwxyz",.glo "FieldReader",.glo "FindError",.glo "NoBytes",.glo "NoDocument",.glo "NoField",.glo "NoLine",.glo "NoMake",.glo "NoPattern",.glo "NoPiece",.glo "NoStamp",.glo "NoText",.exc "NoLine",.cls "FieldReader",.mkr "FieldReader"]
def RQ(K:PySem.W.Frag):List Bool:=[Hf K cM "FindError",Hf K cM "NoField",kn K cM "NoBytes",kn K cM "NoDocument",kn K cM "NoField",kn K cM "NoLine",kn K cM "NoMake",kn K cM "NoPattern",kn K cM "NoPiece",kn K cM "NoStamp",kn K cM "NoText",kn K cM "ValueError",RI K "NoField",N9 K Ii,Ju K fT]
def HJ(K:PySem.W.Frag):Bool:=(RQ K).all id
theorem px{K:PySem.W.Frag}(h:HJ K=true)(i:Nat){b:Bool}(e:(RQ K)[i]? =some b):b=true:=List.all_eq_true.mp h b (List.mem_of_getElem? e)
def Iq:List Str:=("FindError":Str)::("NoField":Str)::("NoMake":Str)::("NoBytes":Str)::("NoDocument":Str)::("NoStamp":Str)::("NoPiece":Str)::("NoPattern":Str)::("NoLine":Str)::("NoText":Str)::("LETTERS":Str)::("FIGURES":Str)::("is_name":Str)::("look_at_document":Str)::("show_field":Str)::("show_document":Str)::("show_deed":Str)::("sure":Str)::("number_of":Str)::("FieldReader":Str)::("read_document":Str)::("read_deed":Str)::("_law_draws":Str)::("_law_pop":Str)::("_law_alike":Str)::("_law_names":Str)::("_law_text":Str)::("_law_document":Str)::("_law_number":Str)::("_law_deed":Str)::("_law_line":Str)::("_law_number_in":Str)::("_law_text_in":Str)::("_law_document_in":Str)::("_law_deed_in":Str)::("_law_kind":Str)::("_law_odd":Str)::("_law_bent":Str)::("_law_refused":Str)::[]
abbrev Rr:PySem.W.OpenRow:=PySem.W.OpenLaw.row PySem.Challenge.rw_findcourt_k34_lines_of_deeds_looked_at
def GU:List Addr:=[3,267,274,359,366,319,286,293,298,305,312,333,338,326,345,208,229,187,215,222,236,243,154,161,257,194,262,352,373,281,168,173,180,378,41,246,24,75,87,44,135,63,123,111,99,147,266,273,358,365,318,285,292,297,304,311,332,337,325,344,207,228,186,214,221,235,242,153,160,256,193,261,351,372,280,167,172,179,377,40,245,23,74,86,43,134,62,122,110,98,146,263,264,265,268,269,270,271,272,353,354,355,356,357,360,361,362,363,364,313,314,315,316,317,282,283,284,287,288,289,290,291,294,295,296,299,300,301,302,303,306,307,308,309,310,327,328,329,330,331,334,335,336,320,321,322,323,324,339,340,341,342,343,202,203,204,205,206,223,224,225,226,227,181,182,183,184,185,209,210,211,212,213,216,217,218,219,220,230,231,232,233,234,237,238,239,240,241,150,151,152,155,156,157,158,159,251,252,253,254,255,188,189,190,191,192,258,259,260,346,347,348,349,350,367,368,369,370,371,275,276,277,278,279,162,163,164,165,166,169,170,171,174,175,176,177,178,374,375,376,35,36,37,38,39]
abbrev hk:PySem.W.Hook:=LD HJ GU Kt A3
def M5(s:PySem.W.SharedT):IS:=GD HJ GU Kt A3 (HandSHeadRun.getT s)
theorem P9(s:PySem.W.SharedT):M5 s=hk.obs s.abs:=L8 (HandSHeadRun.getT_eq s)
theorem CZ{α β γ:Type}{e:Option α}{f:α→β}{g:α→γ}{b:β}{c:γ}(h:e.map (fun s=>(f s,g s))=some (b,c)):e.map f=some b∧e.map g=some c:=by
 cases e with
 | none=>cases h
 | some s=>exact⟨congrArg some (congrArg Prod.fst (Option.some.inj h)),congrArg some (congrArg Prod.snd (Option.some.inj h))⟩
abbrev vQ:Program:=PySem.W.view Rr.prog [43]
noncomputable abbrev eE(w:World)(os:OsState):=HandSHeadRun.endF (HandSHeadRun.stepQ (HandSHeadRun.denQ HandSHeadRun.tabQ) Rr.prog w) 6000 Rr.prog w os
noncomputable abbrev kF(s:PySem.W.SharedT):PySem.W.Frag:=He.frG (HandSHeadRun.getT s) GU
theorem QE(w:World)(os:OsState):(eE w os).map (fun s=>(HandSHeadRun.looksF Rr.prog (PySem.W.boot_heap w.params) s.abs,(HandSHeadRun.seenQ vQ K34.Iq (importedModules Rr.prog.main.body) (fun s=>PySem.W.xlAt vQ [] s&&PySem.W.recOk Rr.toRowW.records s) s.abs,(vX (kF s),HJ (kF s)))))=some (true,(PySem.W.openGood vQ K34.Iq,(true,true))):=by kernel_rfl
theorem Rl(w:World)(os:OsState):(eE w os).map (fun s=>Kt.all fun f=>f.ok (kF s))=some true:=by kernel_rfl
theorem M7(w:World)(os:OsState):(eE w os).map (fun s=>(A3.take 16).all fun d=>d.ok (kF s))=some true:=by kernel_rfl
theorem Ny(w:World)(os:OsState):(eE w os).map (fun s=>(A3.drop 16).all fun d=>d.ok (kF s))=some true:=by kernel_rfl
theorem Qe(w:World)(os:OsState):(eE w os).map (fun s=>A3.all fun d=>d.ok (kF s))=some true:=by
 have h:=Ag (M7 w os) (Ny w os)
 simp only[←List.all_append,List.take_append_drop]at h
 exact h
theorem Rk(w:World)(os:OsState):(eE w os).map (fun s=>A3.map fun d=>He.fnW (kF s) d.at_)=some (A3.map He.DefD.val):=by kernel_rfl
theorem run(w:World):HandSHeadRun.RunEq Rr (PySem.W.view Rr.prog [43]) hk M5 6000 K34.Iq w:=by
 intro os
 obtain⟨a,b⟩:=CZ (QE w os)
 obtain⟨b,c⟩:=CZ b
 obtain⟨c,d⟩:=CZ c
 exact sV a (sV b (JU (g:=HandSHeadRun.getT) (Rl w os) (Qe w os) (Rk w os) c d))
open PySem.W PySem.Calls in
theorem early(hc:WalkO (view (OpenLaw.row PySem.Challenge.rw_findcourt_k34_lines_of_deeds_looked_at).prog [43]) K34.Iq (XL (view (OpenLaw.row PySem.Challenge.rw_findcourt_k34_lines_of_deeds_looked_at).prog [43]) []) hk.says (OpenLaw.row PySem.Challenge.rw_findcourt_k34_lines_of_deeds_looked_at).toRowW (HandSHeadRun.topDef (OpenLaw.row PySem.Challenge.rw_findcourt_k34_lines_of_deeds_looked_at).prog 43) [] fun f vs=>PySem.call f vs):PySem.Challenge.rw_findcourt_k34_lines_of_deeds_looked_at.Holds:=by
 w_on;o_law
 refine HandSHeadRun.head_any (r:=OpenLaw.row PySem.Challenge.rw_findcourt_k34_lines_of_deeds_looked_at) (q:=view (OpenLaw.row PySem.Challenge.rw_findcourt_k34_lines_of_deeds_looked_at).prog [43]) (H:=hk) (ob:=M5) (M:=6000) (loose:=K34.Iq) (d:=HandSHeadRun.topDef (OpenLaw.row PySem.Challenge.rw_findcourt_k34_lines_of_deeds_looked_at).prog 43) (kwd:=[]) P9
  (by kernel_rfl) (fun s=>by kernel_rfl) run (by kernel_rfl) (by kernel_rfl) (by kernel_rfl) (by rfl) (by first | assumption | decide+kernel) (by decide+kernel) ⟨rfl,rfl,rfl,rfl,rfl,by decide+kernel⟩ ?hw hc
 case hw=>w_witness2
end K34
namespace L2
open PySem PySem.Spec PyProof.Rows
end L2
namespace Vw
open PySem L2 PyProof.Rows
end Vw
namespace Vw
open PySem L2 PyProof.Rows
end Vw
namespace L2
open PySem PySem.Spec PyProof.Rows
section
variable{P:Program}{w:World}{K:Type}[DecidableEq K]{knd:PySem.KeyKind P w K}{key:Value→K}
def J1(knd:PySem.KeyKind P w K)(key:Value→K)(h:Heap)(a:Addr)(S:K→Bool)(n:Nat):Prop:=
 ∃ o es ep t,h.get? a=some o∧o.ExactSet∧o.data=.set es ep t∧ElemsOf knd es.toList∧(es.toList.map fun e=>key e.2).Nodup∧(∀ k,S k=true↔k∈es.toList.map fun e=>key e.2)∧
  es.size<scanBound∧t.fits es.size=true∧es.size=n∧Ris t.place.toList∧(w.params.followText "set-order"=true∨t.led=true)
variable{A:Around}{E:Value→Shared→Prop}{s:Shared}{a:Addr}{S:K→Bool}{n:Nat}{h h':Heap}
theorem J1.at(R:J1 knd key h a S n)(k:∀ o,h.get? a=some o→h'.get? a=some o):J1 knd key h' a S n:=by
 obtain⟨o,es,ep,t,ho,r⟩:=R
 exact⟨o,es,ep,t,k o ho,r⟩
end
end L2
namespace L2
open PySem PySem.Spec PyProof.Rows
end L2
namespace Vw
open PySem L2 PyProof.Rows
end Vw
namespace L2
open PySem PySem.Spec PyProof.Rows
end L2
namespace L2
open PySem PySem.Spec PyProof.Rows
end L2
namespace Vw
open PySem L2 PyProof.Rows
end Vw
namespace L2
open PySem PySem.Spec PyProof.Rows
end L2
namespace Vw
open PySem L2 PyProof.Rows
end Vw
namespace Vw
open PySem L2 PyProof.Rows
end Vw
namespace L2
open PySem PySem.Spec PyProof.Rows
section
variable{P:Program}{w:World}{A:Around}{E:Value→Shared→Prop}{s:Shared}{κ:Type}[DecidableEq κ]{knd:KeyKind P w κ}
def G6(knd:KeyKind P w κ)(L:List (Addr×List κ)):List (Int×Value):=L.map fun p=>(tupleKeyHash knd p.2,Value.ref p.1)
structure GSet (knd:KeyKind P w κ) (h:Heap) (a:Addr) (L:List (Addr×List κ)) (es:Array (Int×Value)) (ep:Nat) (t:SetTable):Prop where
 o:∃ o,h.get? a=some o∧o.ExactSet∧o.data=.set es ep t
 r:es.toList=G6 knd L
 b:TabOk t (L.map fun p=>tupleKeyHash knd p.2)
 n:(L.map (·.2)).Nodup
 k:∀ p∈L,IsTupleKey knd h p.2 p.1
 l:w.params.followText "set-order"=true∨t.led=true
 m:L.length*5<t.mask*3
 f:L.length<64
variable{a:Addr}{L:List (Addr×List κ)}{es:Array (Int×Value)}{ep:Nat}{t:SetTable}
theorem I0(h:es.toList=G6 knd L):es.size=L.length:=by
 have q:=congrArg List.length h
 simpa [G6]using q
theorem NO(h1:TabOk t (L.map fun p=>tupleKeyHash knd p.2))(h2:es.size=L.length)(h3:es.size≤t.mask):t.fits es.size=true:=by
 have z:=h1.sz
 rw[List.length_map]at z
 have key:t.place.size=es.size∧t.place.size+t.dummies.size≤t.mask:=by
  rw[h1.dm]
  exact⟨z.trans h2.symm,by show t.place.size+0≤t.mask;omega⟩
 unfold SetTable.fits SetTable.fill
 simp only[Bool.and_eq_true,beq_iff_eq,decide_eq_true_eq]
 rw[h1.dm]at key ⊢
 exact⟨key.1,key.2⟩
theorem GSet.fits(R:GSet knd s.heap a L es ep t):t.fits es.size=true:=by
 have h2:=I0 R.r
 have h3:=R.m
 exact NO R.b h2 (by omega)
end
end L2
namespace L2
open PySem PySem.Spec PyProof.Rows
end L2
namespace L2
open PySem PySem.Spec PyProof.Rows
end L2
namespace SrtO
open PySem PyProof.Rows Srt L2
section
variable{prog:Program}{w:World}{A:Around}{E:Value→Shared→Prop}{s:Shared}
def Jd(h:Heap)(v:Value)(x:PySem.Str×PySem.Str):Prop:=∃ a o t u n,v=.ref a∧h.get? a=some o∧o.cls=.type "tuple"∧o.data=.seq #[.str x.1 t,.str x.2 u] n
theorem Jd.keeps{h h':Heap}{v:Value}{x:PySem.Str×PySem.Str}(p:Jd h v x)(k:∀ b o,h.get? b=some o→o.cls=.type "tuple"→h'.get? b=some o):Jd h' v x:=by
 obtain⟨a,o,t,u,n,e,ho,hc,hd⟩:=p
 exact⟨a,o,t,u,n,e,k _ _ ho hc,hc,hd⟩
end
end SrtO
namespace L2
open PySem PySem.Spec PyProof.Rows
end L2
namespace Vw
open PySem L2 PyProof.Rows
end Vw
namespace Vw
open PySem L2 PyProof.Rows
end Vw
namespace Vw
open PySem L2 PyProof.Rows
end Vw
namespace Vw
open PySem L2 PyProof.Rows
end Vw
namespace Vw
open PySem L2 PyProof.Rows
end Vw
namespace Vw
open PySem L2 PyProof.Rows
end Vw
namespace L2
open PySem PySem.Spec PyProof.Rows
end L2
namespace Vw
open PySem L2 PyProof.Rows
end Vw
namespace Vw
open PySem L2 PyProof.Rows
def NM(x:Str):Prop:=(x==("__debug__":Str))=false∧(x==("__classdict__":Str))=false
section
variable{C:Cst}{X:Cx}{e a b:Expr}{es:List Expr}{pos:Pos}{f fa fb:State→Res RV}{fr:List (State→Res RV)}
theorem va{i:Nat}{x:Str}(n:NM x)(hN:X.N[i]? =some x:=by exact rfl)(hv:X.env.scope.names.lookup x=some .local:=by exact rfl):PE X (.Name x pos) (au C (ae i)):=v_var hN (.inl hv) n.1 n.2
theorem vb{i:Nat}{x:Str}(n:NM x)(hN:X.N[i]? =some x:=by exact rfl)(hv:X.env.scope.names.lookup x=some .cell:=by exact rfl):PE X (.Name x pos) (au C (ae i)):=v_var hN (.inr (.inl hv)) n.1 n.2
theorem vi{i:Int}{j:Nat}:PE X (.Constant (.int i) j pos) (au C (fD (.int i))):=su pe_int fun _=>rfl
theorem vt{i:Bool}{j:Nat}:PE X (.Constant (.bool i) j pos) (au C (fD (.bl i))):=su pe_bl fun _=>rfl
theorem vn{j:Nat}:PE X (.Constant .none j pos) (au C (fD .non)):=su pe_non fun _=>rfl
theorem vc(h:PE X e (au C f))(hr:PA X es (cV C (aw fr)))(hs:notStar e=true:=by exact rfl):PA X (e::es) (cV C (aw (f::fr))):=OF h hr hs
theorem tn{i:Nat}{x:Str}(hN:X.N.Nodup)(hi:X.N[i]? =some x:=by exact rfl)(hx:X.env.scope.names.lookup x=some .local:=by exact rfl):PG X (.Name x pos) (qC C (.nm i)):=RB hN hi (.inl hx) (.inr hx)
theorem vg{i:Nat}{x:Str}{p:Pos}(hN:X.N.Nodup)(h:PE X e (au C f))(hi:X.N[i]? =some x:=by exact rfl)(hx:X.env.scope.names.lookup x=some .local:=by exact rfl)(hc:j6 e=true:=by exact rfl):PS X (.Assign [.Name x p] e pos) (dj C (aJ i f)):=Cf hN hi (.inl hx) (.inr hx) h hc
theorem vx(hu:X.A.units+64<cLine)(ha:PE X a (au C fa))(hb:PE X b (au C fb))(hs:p0 b=true:=by exact rfl):PE X (.Subscript a b pos) (au C (ao fa fb bJ)):=SO hu ha hb hs
theorem gp{N P:List Str}{sc:Scope}(h1:sc.kind=.function:=by exact rfl)(h2:sc.isCoroutine=false:=by exact rfl)(h3:sc.isGenerator=false:=by exact rfl)(h4:N.Nodup:=by decide+kernel)(h5:N.take P.length=P:=by exact rfl)(h6:∀ x∈P,sc.names.lookup x=some .local∨sc.names.lookup x=some .cell:=by decide+kernel)(h7:∀ y∈sc.names,y.2≠ .free:=by decide+kernel):FnScope N P sc:=⟨h1,h2,h3,h4,h5,h6,h7⟩
end
end Vw
namespace Vw
open PySem L2 PyProof.Rows
end Vw
namespace Vw
open PySem L2 PyProof.Rows
section
variable{C:Cst}{Z Z' Zc Zd:Hp}{loc loc' l':List Addr}{s s':State}{sv sv':L2.St}{H H':Hp}
variable{X:Cx}{e a b c o:Expr}{es:List Expr}{p pos apos:Pos}{f fa fb fc fo fi fv:State→Res RV}
def sB(f:State→Res RV)(k:D→State→Res (List Val))(s:State):Res (List Val):=(ev f s).bind fun r s1=>match kj s1 r with
 | .val (.r n)=>(match s1.st[n]? with
  | some (.dic true l)=>(match toDK l with
   | some ds=>k (.dic ds) s1
   | none=>.stuck)
  | _=>.stuck)
 | _=>(nG r s1).bind k
end
end Vw
namespace Vw
open PySem L2 PyProof.Rows
end Vw
namespace Vw
open PySem L2 PyProof.Rows
end Vw
namespace Vw
open PySem L2 PyProof.Rows
end Vw
namespace Vw
open PySem L2 PyProof.Rows
def FZ(t:List Nat):Option Int:=match PySem.intText? ⟨t.toArray⟩with
 | some n=>if t.length≤640 then some n else none
 | none=>none
def yC(rs:List RV)(s:State):Res RV:=
 match rs with
 | [x]=>match dv s x with
  | some (.str t)=>(match FZ t with
   | some n=>aS (.int n) s
   | none=>.stuck)
  | _=>.stuck
 | _=>.stuck
section
variable{C:Cst}{Z Z' Zc:Hp}{loc loc' l':List Addr}{s s':State}{sv sv':L2.St}{H H':Hp}
theorem EJ:sJ C yC (fun xs H Q=>∃ a n,xs=[.str a]∧PySem.intText? a=some n∧a.length≤640∧Q (.int n) H):=by
 intro Z loc s sv H rs vs Q r q h
 unfold yC at h
 split at h
 ·split at h
  ·rename_i t e
   obtain⟨v,rfl,rfl⟩:=E5 r q e
   split at h
   ·rename_i n hn
    unfold FZ at hn
    split at hn
    ·rename_i m hm
     split at hn
     ·rename_i hl
      cases hn
      exact⟨_,n,rfl,hm,by simpa [Str.length]using hl,h.aS r rfl⟩
     ·cases hn
    ·cases hn
   ·exact h.elim
  ·exact h.elim
 ·exact h.elim
end
end Vw
namespace Vw
open PySem L2 PyProof.Rows
def sW(a b:List Nat):List (List Nat):=(Txt.split (Vw.st a) (Vw.st b)).map fun x=>x.cps.toList
def u0(o:RV)(rs:List RV)(s:State):Res RV:=
 match rs with
 | [x]=>match dv s o,dv s x with
  | some (.str a),some (.str b)=>if b≠[]∧a.length+2≤sizeLine then .ok (.new (.lst ((sW a b).map fun t=>.d (.str t)))) s else .stuck
  | _,_=>.stuck
 | _=>.stuck
def p7(a b:List Nat):List Nat×List Nat×List Nat:=((Txt.partition (Vw.st a) (Vw.st b)).1.cps.toList,(Txt.partition (Vw.st a) (Vw.st b)).2.1.cps.toList,(Txt.partition (Vw.st a) (Vw.st b)).2.2.cps.toList)
def kU(o:RV)(rs:List RV)(s:State):Res RV:=
 match rs with
 | [x]=>match dv s o,dv s x with
  | some (.str a),some (.str b)=>if b≠[]∧a.length≤sizeLine then .ok (.val (iY [.d (.str (p7 a b).1),.d (.str (p7 a b).2.1),.d (.str (p7 a b).2.2)])) s else .stuck
  | _,_=>.stuck
 | _=>.stuck
def xS(rs:List RV)(s:State):Res RV:=
 match rs with
 | [x]=>match lv s x with
  | some l=>.ok (.val (iY l)) s
  | none=>.stuck
 | _=>.stuck
def C1(x y z:List Nat):List Nat:=(Txt.replace (Vw.st x) (Vw.st y) (Vw.st z)).cps.toList
def yJ(i:Nat)(y z:List Nat)(s:State):Res RV:=match s.sg[i]? with
 | some (some (.v (.d (.str x))))=>if x.length+(x.length+1)*z.length≤16777216 then aS (.str (C1 x y z)) s else .stuck
 | _=>.stuck
section
variable{C:Cst}{Z Z' Zc:Hp}{loc loc' l':List Addr}{s s':State}{sv sv':L2.St}{H H':Hp}
variable{X:Cx}{e a b c o tg:Expr}{es:List Expr}{p pos apos:Pos}{f fa fb fc fo fi fv:State→Res RV}
theorem Ds(x:Str):(⟨x.cps.toList.toArray⟩:Str)=x:=by simp
theorem wX{cA:String→Addr}:∀ l:List Str,aY cA Z loc (l.map fun x=>Val.d (.str x.cps.toList)) (l.map V.str)
 | []=>rfl
 | x::l=>⟨_,_,rfl,by show V.str x=V.str _;rw[Ds],wX l⟩
theorem AE:MtS C u0 (fun x xs H Q=>∃ a b,x=.str a∧xs=[.str b]∧(b.length==0)=false∧a.length+2≤sizeLine∧rNewStrs (Txt.split a b) H Q):=by
 intro Z loc s sv H o v rs vs Q r q qs h
 unfold u0 at h
 split at h
 ·split at h
  ·rename_i a b e1 e2
   split at h
   ·rename_i hl
    have qa:v=.str ⟨a.toArray⟩:=r.dv q e1
    obtain⟨w,rfl,qb⟩:=E5 r qs e2
    have qb:w=.str ⟨b.toArray⟩:=qb
    subst qa qb
    refine⟨_,_,rfl,rfl,?_,by simpa [Str.length]using hl.2,fun p np=>h.new r np (by simp) ⟨_,upd_same,?_⟩⟩
    ·cases b with
     | nil=>exact absurd rfl hl.1
     | cons c b=>simp[Str.length]
    ·unfold sW
     rw[List.map_map]
     exact wX _
   ·exact h.elim
  ·exact h.elim
 ·exact h.elim
theorem tX:MtS C kU (fun x xs H Q=>∃ a b,x=.str a∧xs=[.str b]∧(b.length==0)=false∧a.length≤sizeLine∧
  ∀ p,H p=none→Q (.ref p) (upd H p (.tup [.str (Txt.partition a b).1,.str (Txt.partition a b).2.1,.str (Txt.partition a b).2.2]))):=by
 intro Z loc s sv H o v rs vs Q r q qs h
 unfold kU at h
 split at h
 ·split at h
  ·rename_i a b e1 e2
   split at h
   ·rename_i hl
    have qa:v=.str ⟨a.toArray⟩:=r.dv q e1
    obtain⟨w,rfl,qb⟩:=E5 r qs e2
    have qb:w=.str ⟨b.toArray⟩:=qb
    subst qa qb
    refine⟨_,_,rfl,rfl,?_,by simpa [Str.length]using hl.2,fun p np=>h.tup r ?_ np⟩
    ·cases b with
     | nil=>exact absurd rfl hl.1
     | cons c b=>simp[Str.length]
    ·exact wX (Z:=Z) (loc:=loc) (cA:=C.cA) [_,_,_]
   ·exact h.elim
  ·exact h.elim
 ·exact h.elim
theorem IW(K:PySem.W.Frag):sJ C xS (fun xs H Q=>∃ p ys,xs=[.ref p]∧((SqL K H p ys∧∀ l,H l=none→Q (.ref l) (upd H l (.tup ys)))∨(SqT K H p ys∧Q (.ref p) H))):=by
 intro Z loc s sv H rs vs Q r q h
 unfold xS at h
 split at h
 ·obtain⟨v,t,rfl,st,q1,q2⟩:=q
  cases q2
  split at h
  ·rename_i l e
   obtain⟨a,xs,rfl,h1,h2⟩:=r.lv q1 e
   exact⟨a,xs,rfl,.inl ⟨.inl h1,fun p np=>h.tup r h2 np⟩⟩
  ·exact h.elim
 ·exact h.elim
def wH(X:Cx)(e:Expr)(t:TE):Prop:=
 ∀ (pins:List (Addr×Obj)) (s:Shared) (σ:L2.St) (H:Hp) (Q:VK),Inv X pins σ H s→t σ H Q→wpAny (model X.prog X.w) X.A (eval e X.env) (fun u s'=>1≤s'.toks∧EP X pins σ Q u s') X.xe s
theorem DQ{t t':TE}(h:wH X e t)(m:∀ sv H Q,t' sv H Q→t sv H Q):wH X e t':=fun pins s σ H Q I q=>h pins s σ H Q I (m _ _ _ q)
theorem Ji{t t':TE}(h:PET X e t)(m:∀ sv H Q,t' sv H Q→t sv H Q):PET X e t':=fun pins s σ H Q k I q=>h pins s σ H Q k I (m _ _ _ q)
theorem LQ{x:Str}{j:Nat}{pos:Pos}:wH X (.Constant (.str x) j pos) (tC (.str x)):=fun pins s σ H Q I h=>Calls.Constant_str ⟨Nat.le_add_left ..,.str x,H,I.tok _,⟨_,rfl⟩,h⟩
theorem NP{x:Str}{j:Nat}{pos:Pos}{t:List Nat}(ht:x=⟨t.toArray⟩):wH X (.Constant (.str x) j pos) (au C (fD (.str t))):=
 DQ LQ fun sv H Q ⟨Z,loc,s,r,h⟩=>EPost.aS h r (by subst ht;rfl)
theorem OY{op:Operator}{r:R2}{ta tb:TE}(ho:OpR X (binaryOp op) r)(ha:PE X a ta)(hb:wH X b tb):wH X (.BinOp a op b pos) (tOp r ta tb):=fun pins s σ H Q I h=>by
 refine wpAny_BinOp (thn (ha.run pins s σ H _ I h) fun v s1 ⟨x,H1,I1,r1,q1⟩=>?_)
 refine thn (hb pins s1 σ H1 _ I1 q1) fun u s2 ⟨hk,y,H2,I2,r2,q2⟩=>?_
 exact wpAny_mono (PySem.wpAny_toks_of hk (ho pins s2 σ H2 x y v u Q I2 r1 r2 q2)) (fun _ _ z=>z) fun _ _ z=>z.2
theorem NY{op:Operator}{r:R2}{ta tb:TE}(ho:OpR X (binaryOp op) r)(ha:wH X a ta)(hb:PET X b tb):PE X (.BinOp a op b pos) (tOp r ta tb):=by
 refine⟨fun pins s σ H Q I h=>?_⟩
 refine wpAny_BinOp (thn (ha pins s σ H _ I h) fun v s1 ⟨hk,x,H1,I1,r1,q1⟩=>?_)
 refine thn (hb pins s1 σ H1 _ hk I1 q1) fun u s2 ⟨y,H2,I2,r2,q2⟩=>?_
 exact ho pins s2 σ H2 x y v u Q I2 r1 r2 q2
theorem Nw(ha:PE X a (au C fa))(hb:wH X b (au C fb)):wH X (.BinOp a .Add b pos) (au C (ao fa fb (binop .add))):=by
 obtain⟨r,ho,hs⟩:=CC (C:=C) (X:=X) .add
 exact DQ (OY ho ha hb) fun sv H Q h=>vT hs h
theorem Mo(ha:wH X a (au C fa))(hb:PET X b (au C fb)):PE X (.BinOp a .Add b pos) (au C (ao fa fb (binop .add))):=by
 obtain⟨r,ho,hs⟩:=CC (C:=C) (X:=X) .add
 exact bq (NY ho ha hb) fun sv H Q h=>vT hs h
def Q9(ik:Nat)(y z:Str):TE:=fun σ H Q=>∃ x,σ[ik]? =some (some (.str x))∧x.length+(x.length+1)*z.length≤16777216∧Q (.str (Txt.replace x y z)) H
theorem Jz{ik:Nat}{kx y z:Str}{j0 j1:Nat}{p1 c0 c1 apos pos:Pos}(hNk:X.N[ik]? =some kx)(hvk:Vis X.env.scope kx)(hdk:(kx==("__debug__":Str))=false)(hck:(kx==("__classdict__":Str))=false)(hyz:(y==z)=false)
  (hst:starEach [.Constant (.str y) j0 c0,.Constant (.str z) j1 c1] X.env=[(false,eval (.Constant (.str y) j0 c0) X.env),(false,eval (.Constant (.str z) j1 c1) X.env)])
  (hbase:attributeBase (.Name kx p1) "replace" X.env (eval (.Name kx p1) X.env)=eval (.Name kx p1) X.env) (hline:(apos.endLine==pos.line)=true):
  PET X (.Call (.Attribute (.Name kx p1) "replace" apos) [.Constant (.str y) j0 c0,.Constant (.str z) j1 c1] [] pos) (Q9 ik y z):=by
 intro pins s σ H Q hk I h
 obtain⟨x,hx,hb,q⟩:=h
 refine PySem.Call_method2 hbase hst hline (raw_name hNk hvk I hx (fun v r=>?_) hdk hck)
 obtain⟨tx,e⟩:=r
 subst e
 refine⟨"str",_,F.plainAttrs_str,F.slot_str_replace,F.type_str_replace,typeIs_str _ _ _,(fun _ e=>nomatch e),Calls.callWith_builtin rfl (Calls.evalArgs_plain (Calls.spliced_cons ?_))⟩
 refine Calls.Constant_str ?_
 refine Calls.spliced_cons (Calls.Constant_str ?_)
 refine Calls.spliced_nil ?_
 exact PySem.SC.replace (by show s.toks≠0;omega) (by show s.toks+1≠0;omega) (by show s.toks≠s.toks+1;omega) hyz hb fun t' k=>⟨.str (Txt.replace x y z),H,I.tok k,⟨t',rfl⟩,q⟩
theorem P5{ik:Nat}{kx y z:Str}{ty tz:List Nat}{j0 j1:Nat}{p1 c0 c1 apos pos:Pos}(hNk:X.N[ik]? =some kx)(hvk:Vis X.env.scope kx)(hdk:(kx==("__debug__":Str))=false)(hck:(kx==("__classdict__":Str))=false)(hyz:(y==z)=false)
  (hy:y=⟨ty.toArray⟩) (hz:z=⟨tz.toArray⟩)
  (hst:starEach [.Constant (.str y) j0 c0,.Constant (.str z) j1 c1] X.env=[(false,eval (.Constant (.str y) j0 c0) X.env),(false,eval (.Constant (.str z) j1 c1) X.env)])
  (hbase:attributeBase (.Name kx p1) "replace" X.env (eval (.Name kx p1) X.env)=eval (.Name kx p1) X.env) (hline:(apos.endLine==pos.line)=true):
  PET X (.Call (.Attribute (.Name kx p1) "replace" apos) [.Constant (.str y) j0 c0,.Constant (.str z) j1 c1] [] pos) (au C (yJ ik ty tz)):=by
 subst hy hz
 refine Ji (Jz hNk hvk hdk hck hyz hst hbase hline) fun sv H Q ⟨Z,loc,s,r,h⟩=>?_
 unfold yJ at h
 split at h
 ·rename_i x e
  split at h
  ·rename_i hl
   obtain⟨v,h1,h2⟩:=r.vl ik _ e
   have h2:v=.str ⟨x.toArray⟩:=h2
   subst h2
   refine⟨_,h1,by simpa [Str.length]using hl,h.aS r ?_⟩
   show V.str _=V.str _
   unfold C1 Vw.st
   rw[Ds]
  ·exact h.elim
 ·exact h.elim
end
end Vw
namespace Vw
open PySem L2 PyProof.Rows
section
variable{X:Cx}{C:Cst}{e:Expr}{es:List Expr}{p pos pos':Pos}{f:State→Res RV}
theorem Tn{CX:CXT}{x:Str}{cl fI:Addr}{k:Nat}{fd:FuncData}{ps:List Str}{sp:Sp}{ta:TA}(T:OexC X.K cl)(iC:PySem.W.findIn X.K (.ref cl) "__init__"=some (some (.ref fI)))(tI:PySem.W.typeIn X.K (.ref fI)=some (.type "function"))
  (F:FnOk X.prog X.w X.K X.mg X.base CX k fI fd ps sp) (hr:Room (k+1) X.A) (hb:Binds X.K fd ps []) (hx:Passes CX X E0) (hg:Gl X x) (hm:X.mg x=some (.ref cl)) (ha:PA X (e::es) ta) (hdb:(x==("__debug__":Str))=false)
  (he:starEach (e::es) X.env=(false,eval e X.env)::starEach es X.env) (hpl:(backTo pos (starEach es X.env)).any (·.1)=false):L2N.PMk X (.Call (.Name x p) (e::es) [] pos) (tMkO cl sp [] ta):=fun pins s σ H Q I h=>by
 obtain⟨_,_,_,_,bm,_,_,_,_,_,_,_,_,_,_,hC,hbm⟩:=T.cls
 refine wpAny_Call_Name_kw (ld_glob I hg hm (PySem.W.callWith_K (h₀:=X.base) I.ok.mod.kin T.kC (thn (ha.run pos pins s σ H _ I h) fun us s1 q=>?_) he hpl) hdb)
 obtain⟨vs,H1,J,rv,hz,hq⟩:=q
 refine⟨J.kIn,?_⟩
 obtain⟨hp,gn,dr,tk,os⟩:=s1
 obtain⟨n,en⟩:∃ n,n=hp.objs.size:=⟨_,rfl⟩
 have hge:hp.objs.size≤n+1:=by omega
 have q1:=hq (n+1) (J.hok.fresh hge)
 rw[List.append_nil]at q1
 obtain⟨h2,eh2⟩:∃ h2,h2=(hp.push (PySem.W.kdv_tup us)).push (PySem.HandSPX.excO cl n):=⟨_,rfl⟩
 have keep:∀ b o,hp.get? b=some o→h2.get? b=some o:=fun b o z=>by rw[eh2];exact Heap.get?_push_of_some _ (Heap.get?_push_of_some _ z)
 have got:h2.get? (n+1)=some (PySem.HandSPX.excO cl n):=by rw[eh2,en];heap_get
 have J2:Inv X pins σ (upd H1 (n+1) (exo (n+1) cl none)) ⟨h2,gn,dr,tk,os⟩:=J.laid (t':=tk) (a:=n+1) (o:=exo (n+1) cl none) (h':=h2) keep hge (exo_ok got)
 have rv2:Vals (V.ref (n+1)::vs) (Value.ref (n+1)::us):=.cons rfl rv
 have hlen:(Value.ref (n+1)::us++[]).length=ps.length:=by rw[List.append_nil,←F.len _ _ _ _ q1,rv2.length]
 have hsz:us.length≤sizeLine:=by rw[sizeLine_eq,←Paired.length rv];omega
 have hbs:=hb _ (Value.ref (n+1)::us) J2.kIn hlen
 rw[List.append_nil]at hbs
 subst eh2
 subst en
 exact wpAny_call (PySem.HandSPX.call_own PySem.F.excBase_ValueError (fun Y=>PySem.HandSPX.refsVE_contains Y bm hbm) (J.kIn _ _ hC) (PySem.W.looks_findIn J.kIn iC) (fun self=>PySem.W.bind_fn J.kIn self tI) hsz
  (codeAny_mono (F.run _ X.stack _ _ ⟨Value.ref (hp.objs.size+1)::us,[]⟩ (Value.ref (hp.objs.size+1)::us) _ _ E0 (hr.make cl us []) (J2.env0.make cl us []) hbs rv2 q1) fun r s' hq'=>by
   cases r with
   | error er=>exact hx pins σ _ _ er s' J2 hq'
   | ok fl=>
    cases fl with
    | ret u=>
     obtain⟨v,H2,os2,LJ,un2,hok2,rvv,ev,d,fs,ea,ed,hd1,q2⟩:=hq'
     subst ev
     obtain⟨h3,g3,d3,t3,os3⟩:=s'
     obtain⟨t0,G,JG,kG,ge,hoe,na⟩:=mk_end0 (d2:=d3) (t2:=t3) J hge keep un2 hok2 os2 LJ ea ed hd1
     exact⟨rvv,_,_,_,⟨G,g3,d3,t3,os3⟩,_,.ref cl,some d,rfl,JG,kG,ge,hoe,⟨rfl,rfl,fun vs hv=>by cases hv;rfl⟩,rfl,rfl,na,rfl,LJ,raises_own T.exC T.tyC,q2⟩
    | next=>exact False.elim hq'
    | brk=>exact False.elim hq'
    | cont=>exact False.elim hq'))
theorem IL{x:String}{cA:String→Addr}{fI:Addr}{fd:FuncData}(hC:C.cA=cA)(hc:X.calm=true)(tk:L2N.Takes X C.W)(hr:Room 2 X.A)(F:OinF X.prog X.w X.K X.mg X.base (cA x) fI fd)(gC:X.mg (Str.ofString x)=some (.ref (cA x)))(hg:Gl X (Str.ofString x))(he:PE X e (au C f))
  (hs:notStar e=true) (hdb:((Str.ofString x)==("__debug__":Str))=false):
  PS X (.Raise (some (.Call (.Name (Str.ofString x) p) [e] [] pos)) none pos') (dj C (vK x f)):=by
 subst hC
 refine gb (L2N.ps_raise hc tk (Tn F.T F.iC F.tI F.F hr F.B pass0 hg gC (pa_cons he pa_nil (bx hs)) hdb (bx hs) (by rfl))) fun D sv H ⟨Z,loc,s,r,h⟩=>?_
 refine au.Fy (PO:=fun Z loc (t:Res Fl)=>bS C Z loc t D) r h (fun Z' l' t g q=>q.ext g) (fun y s' q Z' l' H' c d g r' x'=>q Z' l' sv H' c d g r' x') (fun z=>z) ?_
 ·intro v H1 ⟨Z1,l1,s1,y,g1,r1,st1,q1,h1⟩
  cases ec:cf y s1 with
  | stuck=>rw[ec]at h1;exact h1.elim
  | exc _ _=>rw[ec]at h1;exact h1.elim
  | ok x1 s2=>
   rw[ec]at h1
   cases x1 with
   | r n=>exact h1.elim
   | tp l=>exact h1.elim
   | d d=>
    obtain⟨Z2,g2,r2,q2⟩:=r1.cf q1 ec
    refine⟨by simp,fun a na=>⟨a,v,rfl,F.T,F.no,upd_same,fun dx h2 h3=>⟨rfl,dx,[(Str.ofString "place",v)],upd_same,by rw[upd_ne h3,upd_same],by rw[upd_ne h3]at h2;exact h2,?_⟩⟩⟩
    have nd:H1 dx=none:=by rw[upd_ne h3]at h2;exact h2
    have eH:upd (L2.del (upd (upd (upd H1 a (exo a (C.cA x) none)) dx (exd dx [(Str.ofString "place",v)])) a (exo a (C.cA x) (some dx))) a) dx (.xd [(Str.ofString "place",v)])=upd H1 dx (.xd [(Str.ofString "place",v)]):=by
     funext b
     by_cases hb:b=dx
     ·subst hb;rw[upd_same,upd_same]
     ·rw[upd_ne hb,upd_ne hb]
      by_cases hba:b=a
      ·subst hba;rw[L2.del_same,na]
      ·rw[L2.del_ne hba,upd_ne hba,upd_ne hb,upd_ne hba]
    rw[eH]
    have f3:=r2.free nd
    have g3:=bI (o:=.xd [(Str.ofString "place",v)]) f3.z
    have r3:=(r2.grow (bI (o:=.xd [(Str.ofString "place",v)]) nd)).vB upd_same f3
    exact h1 _ l1 sv _ _ _ (g2.trans (Ext.z g3)) r3 ⟨rfl,dx,v,rfl,upd_same,bK.mono g3 d q2⟩
theorem N2{P:Program}{w:World}{K:PySem.W.Frag}{mg:Str→Option Value}{base:Heap}{x qual:Str}{params:Arguments}{body:List Stmt}{scope:Scope}{f:Addr}{fd:FuncData}{N ps:List Str}{cA:String→Addr}{b:State→Res Fl}{k n m:Nat}
  (F:FunD K x qual params body scope [] [] f fd) (S:FnScope N ps scope) (hn:ps.length=n) (hm:N.length=m)
  (hb:∀ (cdv:Value) (A:Around) (outer:List Env) (s:Shared) (H:Hp) (E:XK) (C:Cst),Room k (A.deeper (envOfC qual scope s.heap.objs.size f cdv))→C.cA=cA→L2N.Takes (cxOf (L2N.CX P w) P w K mg base N qual scope f cdv A outer s H E) C.W→PSs (cxOf (L2N.CX P w) P w K mg base N qual scope f cdv A outer s H E) body (dj C b)):
  FnOk P w K mg base (L2N.CX P w) (k+1) f fd ps (bP cA n (cW m b)):=by
 subst hn hm
 refine F.ok S sj fun cdv A outer s H vs Q E hr h=>?_
 obtain⟨Fr,H0,Z,loc,args,st,r,q,hl,h⟩:=h
 exact⟨_,hb cdv A outer s H E (fX cA Fr H0 E) hr rfl (L2N.takes_of rfl rfl rfl rfl),qN (ps:=ps) r q hl h fun _ _ _ z=>z⟩
theorem AV{fA:Addr}{ps:List Str}{g:Fn}{fs:State→Res (List RV)}{ta:TA}{sv:L2.St}{H:Hp}{Q:VK}(h0:∀ R,cV C fs sv H R→ta sv H R)(h:au C (cK ps.length fs g) sv H Q):tCallS (bP C.cA ps.length g) (WE C.W) (cV C fs) sv H Q:=(cV.at h).imp fun vs H1 ⟨Z,loc,s,xs,r,q,h⟩=>by
 cases e1:bc xs s with
 | stuck=>rw[e1]at h;exact h.elim
 | exc x s1=>exact absurd e1 ie
 | ok args s1=>
  rw[e1]at h
  simp only[Res.bind]at h
  obtain⟨Z1,g1,r1,q1⟩:=r.bc q e1
  split at h
  ·rename_i hn
   exact C6 r1 q1 hn (EPost.ext h g1)
  ·exact h.elim
theorem JO{k n:Nat}{fA:Addr}{fd:FuncData}{ps:List Str}{x:Str}{g:Fn}{fs:State→Res (List RV)}{cA:String→Addr}(hC:C.cA=cA)(tk:L2N.Takes X C.W)(F:FnOk X.prog X.w X.K X.mg X.base (L2N.CX X.prog X.w) k fA fd ps (bP cA n g))(hr:Room k X.A)(hg:Gl X x)(hm:X.mg x=some (.ref fA))(hk:PySem.W.keepIn X.K (.ref fA)=true)
  (hb:Binds X.K fd ps []) (hn:ps.length=n) (ha:PA X (e::es) (cV C fs)) (hdb:(x==("__debug__":Str))=false) (hs:(e::es).all notStar=true):
  PE X (.Call (.Name x p) (e::es) [] pos) (au C (cK n fs g)):=by
 subst hn hC
 have hs':=hs
 simp only[List.all_cons,Bool.and_eq_true]at hs
 exact bq (pe_callS F hr hg hm hk hb (fun σ=>L2N.passAt tk σ) ha hdb (bx hs.1) (eW hs.2)) fun sv H Q h=>AV (fA:=fA) (fun _ h=>h) h
theorem QD{P:Program}{w:World}{K:PySem.W.Frag}{mg:Str→Option Value}{base:Heap}{x qual:Str}{params:Arguments}{body:List Stmt}{scope:Scope}{f:Addr}{fd:FuncData}{N ps:List Str}{cA:String→Addr}{b:State→Res Fl}{k n m:Nat}
  (F:FunD K x qual params body scope [] [] f fd) (S:FnScope N ps scope) (hn:ps.length=n) (hm:N.length=m)
  (hb:∀ (cdv:Value) (A:Around) (outer:List Env) (s:Shared) (H:Hp) (E:XK) (C:Cst) (p:Addr×Obj),L2H.RoomH k (A.deeper (envOfC qual scope s.heap.objs.size f cdv))→C.cA=cA→L2H.HotC (L2H.cxH (L2.CX P w) P w K mg base N qual scope f cdv A outer s H E p)→L2.Takes (L2H.cxH (L2.CX P w) P w K mg base N qual scope f cdv A outer s H E p) C.W→PSs (L2H.cxH (L2.CX P w) P w K mg base N qual scope f cdv A outer s H E p) body (dj C b)):
  L2H.FnH P w K mg base (L2.CX P w) (k+1) f fd ps (bP cA n (cW m b)):=by
 subst hn hm
 obtain⟨oc,od,dV,kV,doc,pm,an,cdv,ct,osl,rfl,lk,hcd,_,_⟩:=F.ex
 refine L2H.fn_ofH lk hcd S sj fun A outer s H vs Q E p hot hr h=>?_
 obtain⟨Fr,H0,Z,loc,args,st,r,q,hl,h⟩:=h
 exact⟨_,hb cdv A outer s H E (fX cA Fr H0 E) p hr rfl ⟨p,hot,List.mem_cons_self⟩ (takes_of rfl rfl rfl rfl),qN (ps:=ps) r q hl h fun _ _ _ z=>z⟩
theorem Jx{x:String}{m:Str}{j:Nat}{cA:String→Addr}{p2:Pos}(hC:C.cA=cA)(hc:L2H.HotC X)(tk:L2.Takes X C.W)(F:ExF X.K (cA x))(gC:X.mg (Str.ofString x)=some (.ref (cA x)))(hg:Gl X (Str.ofString x))(hdb:((Str.ofString x)==("__debug__":Str))=false):
  PS X (.Raise (some (.Call (.Name (Str.ofString x) p) [.Constant (.str m) j p2] [] pos)) none pos') (dj C (sr x)):=by
 subst hC
 refine gb (L2H.ps_raiseH hc tk (L2N.pmk_own PySem.F.excBase_ValueError F.ei gC F.kC (raises_own F.sB F.tC) hg hdb)) fun D sv H ⟨Z,loc,s,r,h⟩=>?_
 exact h Z loc sv H _ _ (Ext.refl _ _) r ⟨rfl,rfl⟩
theorem Ma{k n:Nat}{fA:Addr}{fd:FuncData}{ps:List Str}{x:Str}{g:Fn}{fs:State→Res (List RV)}{cA:String→Addr}(hC:C.cA=cA)(tk:L2.Takes X C.W)(F:L2H.FnH X.prog X.w X.K X.mg X.base (L2.CX X.prog X.w) k fA fd ps (bP cA n g))(hr:L2H.RoomH k X.A)(hc:L2H.HotC X)(hg:Gl X x)(hm:X.mg x=some (.ref fA))(hk:PySem.W.keepIn X.K (.ref fA)=true)
  (hb:Binds X.K fd ps []) (hn:ps.length=n) (ha:PA X (e::es) (cV C fs)) (hdb:(x==("__debug__":Str))=false) (hs:(e::es).all notStar=true):
  PE X (.Call (.Name x p) (e::es) [] pos) (au C (cK n fs g)):=by
 subst hn hC
 have hs':=hs
 simp only[List.all_cons,Bool.and_eq_true]at hs
 exact bq (L2H.pe_callH F hr hc hg hm hk hb (fun σ=>passAt tk σ) ha hdb (bx hs.1) (eW hs.2)) fun sv H Q h=>AV (fA:=fA) (fun _ h=>h) h
theorem Pg{N:List String}{T:String}{x:Str}{cv:Value}{body suite:List Stmt}{b₀:Stmt}{np:Pos}{cA:String→Addr}{u:State→Res Fl}{f:State→Res Fl}(hC:C.cA=cA)(hs:X.stack=X.env::X.outer)(hf:X.env.frame=some X.env.locals)(hc:Names X x cv)(em:EM N X.K cA T cv)
  (hpa:∀ hd:Option Value,PassesOwnAt (model X.prog X.w) (X.A.mark hd) X.A X.env X.xe) (tk:L2.Takes X C.W)
  (hb:∀ (C':Cst) (pn:List (Addr×Obj)) (xe:Value→Shared→Prop),C'.cA=cA→L2N.Takes (X.tr pn xe) C'.W→PSs (X.tr pn xe) body (dj C' f))
  (hsu:∀ (a:Addr) (oe:Obj) (pn:List (Addr×Obj)),L2.Takes (L2H.suiteX X a ((a,oe)::pn)) C.W→L2H.HotC (L2H.suiteX X a ((a,oe)::pn))→PSs (L2H.suiteX X a ((a,oe)::pn)) (b₀::suite) (dj C u)):
  PS X (.Try body [.ExceptHandler (some (.Name x np)) none (b₀::suite) pos'] [] [] pos) (dj C (zH N T f u)):=by
 subst hC
 refine gb (L2H.ps_try_onlyX (tb:=fun W=>dj { C with W:=W } f) (ts:=fun _ _ _=>dj C u) (Wout:=C.W) hs hf hc hpa tk (fun W pn xe t _ po=>hb _ pn xe rfl t) (fun a oe _ _ pn _ _ t h=>hsu a oe pn t h)) fun D sv H ⟨Z,loc,s,r,h⟩=>?_
 refine⟨Z,loc,s,r.w _,?_⟩
 unfold zH at h
 cases e:f s with
 | stuck=>rw[e]at h;exact h
 | ok k s1=>
  rw[e]at h
  cases k with
  | nx=>exact fun Z' l' sv' H' g r'=>h Z' l' sv' H' g r'.og
  | brk=>exact fun Z' l' sv' H' g r'=>h Z' l' sv' H' g r'.og
  | cnt=>exact fun Z' l' sv' H' g r'=>h Z' l' sv' H' g r'.og
  | ret rv=>
   intro Z' l' sv' H' v g r' q
   refine h Z' l' sv' H' v g r'.og ?_
   cases rv with
   | val x=>exact q
   | own i=>exact q
   | new o=>
    obtain⟨a,q1,q2,q3,q4⟩:=q
    exact⟨a,q1,q2,q3,⟨q4.z,q4.f,q4.l,q4.o⟩⟩
 | exc x s1=>
  rw[e]at h
  intro Z' l' sv' H' c d g r' q
  have q':ke C Z' H' x c d:=q
  cases eb:jz N x.c T with
  | none=>
   dsimp only at h
   rw[eb]at h
   exact h.elim
  | some b=>
   refine⟨b,?_,fun hb=>?_,fun hb=>?_⟩
   ·rw[q'.1];exact em _ _ eb
   ·subst hb
    dsimp only at h
    rw[eb]at h
    intro a na
    refine⟨Z',l',s1,r'.og,?_⟩
    cases eu:u s1 with
    | stuck=>rw[eu]at h;exact h.elim
    | exc y s2=>
     rw[eu]at h
     exact fun Z2 l2 sv2 H2 c2 d2 g2 r2 q2=>h Z2 l2 sv2 H2 c2 d2 (g.trans g2) r2 q2
    | ok k s2=>
     rw[eu]at h
     cases k with
     | nx=>exact fun Z2 l2 sv2 H2 g2 r2=>h Z2 l2 sv2 H2 (g.trans g2) r2
     | brk=>exact fun Z2 l2 sv2 H2 g2 r2=>h Z2 l2 sv2 H2 (g.trans g2) r2
     | cnt=>exact fun Z2 l2 sv2 H2 g2 r2=>h Z2 l2 sv2 H2 (g.trans g2) r2
     | ret rv=>exact fun Z2 l2 sv2 H2 v g2 r2 q2=>h Z2 l2 sv2 H2 v (g.trans g2) r2 q2
   ·subst hb
    dsimp only at h
    rw[eb]at h
    exact h Z' l' sv' H' c d g r'.og q'
end
end Vw
namespace Vw
open PySem L2 PyProof.Rows
def Et(a b:List Nat)(i:Int):Int:=Txt.find3 (Vw.st a) (Vw.st b) i
def ya(o:RV)(rs:List RV)(s:State):Res RV:=
 match rs with
 | [x,y]=>match dv s o,dv s x,dv s y with
  | some (.str a),some (.str b),some (.int i)=>.ok (.val (.d (.int (Et a b i)))) s
  | _,_,_=>.stuck
 | _=>.stuck
section
variable{C:Cst}
theorem Ir:MtS C ya (fun x xs H Q=>∃ (a b:Str) (i:Int),x=.str a∧xs=[.str b,.int i]∧Q (.int (Txt.find3 a b i)) H):=by
 intro Z loc s sv H o v rs vs Q r q qs h
 unfold ya at h
 split at h
 ·split at h
  ·rename_i a b i e1 e2 e3
   have qa:v=.str ⟨a.toArray⟩:=r.dv q e1
   obtain⟨w,t,rfl,st,q1,w2,t2,rfl,st2,q2,q3⟩:=qs
   cases q3
   have qb:w=.str ⟨b.toArray⟩:=r.dv q1 e2
   have qc:w2=.int i:=r.dv q2 e3
   subst qa qb qc
   exact⟨_,_,_,rfl,rfl,h.aS r rfl⟩
  ·exact h.elim
 ·exact h.elim
theorem QY{k:Nat}{A:Around}(r:L2.Room k A)(h:Option Value):L2H.RoomH k (A.mark h):=⟨r.dp,r.un⟩
end
end Vw
namespace Vw
open PySem L2 PyProof.Rows
end Vw
namespace Vw
open PySem L2 PyProof.Rows
end Vw
namespace Vw
open PySem L2 PyProof.Rows
end Vw
namespace Vw
open PySem L2 PyProof.Rows
end Vw
namespace Vw
open PySem L2 PyProof.Rows
section
open PySem.HandSPX
theorem GH{M:Model}{A:Around}{E:Value→Shared→Prop}{s:Shared}{Z:Obj→Prop}{base:Heap}{env:Env}{outer:List Env}{L L' e:Addr}{Q:Unit→Shared→Prop}(hZ:Steady Z)(hfr:A.frames=some (env::outer))(hf:env.frame=some L)(hne:L'≠L)(hfl:HeldZ base (env::outer) e Z L' s.heap)
  (hQ:∀ h',HeldZ base (env::outer) e Z L h'→s.heap.UpToSlots h'→Q () { s with heap:=h' }):wpAny M A (noteFrame (.ref e) env) Q E s:=by
 obtain⟨hkb,hen,hl,oe,vs,T,oT,ts,he,hz,hd,h1,hnT,hTe,hT,hdT,h3⟩:=hfl
 unfold noteFrame
 simp only[hf]
 refine wpAny_bind (wpAny_field he hd h1 ?_)
 rw[if_pos (show(Value.ref T != Value.none)=true from by simp)]
 refine wpAny_bind (wpAny_field hT hdT h3 ?_)
 rw[if_neg (show ¬ ((rawInt L'==rawInt L)=true)from fun z=>hne (by simp[rawInt]at z;exact_mod_cast z))]
 refine wpAny_bind (wpAny_setField hT hdT (Array.getElem?_eq_some_iff.mp h3).1 ?_)
 have other:∀ b,b≠T→(s.heap.update T (Obj.mapFields (·.setIfInBounds 3 Value.none))).get? b=s.heap.get? b:=fun b hb=>Heap.get?_update_other _ _ (Ne.symm hb)
 have noRecord:∀ b o,s.heap.get? b=some o→(∀ vs,o.data≠ .fields vs)→b≠T:=fun b o hb hnf q=>by
  rw[q,hT]at hb;injection hb with hb;subst hb;exact hnf ts hdT
 refine wpAny_entryZ hZ hfr (hl.of_keeps fun b o hb hnf=>⟨o,(other b (noRecord b o hb hnf)).trans hb,rfl⟩) hf ((other e (Ne.symm hTe)).trans he)
  (fun b o hbo=>(other b fun q=>by rw[q,hnT]at hbo;cases hbo).trans (hkb b o hbo)) hen hd (Array.getElem?_eq_some_iff.mp h1).1 hz fun h' hN=>?_
 obtain⟨x1,x2,x3,x4⟩:=hN
 exact hQ h' ⟨x1,hen,x2,x3⟩ fun b o hb hnf=>x4 b o ((other b (noRecord b o hb hnf)).trans hb) hnf
end
abbrev uS(X:Cx)(ce:Env):Value→Shared→Prop:=notedBy (model X.prog X.w) X.A ce (CompFails (model X.prog X.w) X.A X.xe ce)
theorem HB{X:Cx}{W:WX}{pins:List (Addr×Obj)}{σ:L2.St}{H3:Hp}{s3:Shared}{fp:List Addr}{scope:Scope}{ce:Env}(hs:X.stack=X.env::X.outer)(hf:X.env.frame=some X.env.locals)(tk:L2.Takes X W)(I3:Inv X pins σ H3 s3)
  (f3:∀ b∈fp,FpOk X pins H3 b) (hC:ce.locals=s3.heap.objs.size) (hcf:ce.frame=X.env.frame):L2.Takes ((X.blk s3 H3 scope ce fp).tr [] (uS X ce)) (fun c d _ H'=>W c d σ H'):=by
 rintro u s' ⟨a,B,sI,pins',σ',H',cls,d,rfl,I,nb,up,sky,na,os,ag,w⟩
 have I7:Inv X pins σ H' sI:=I3.call' (ch:=fp) I.os I.base I.hok I.bare fun b hb=>⟨(f3 b hb).2.2.2.1,(f3 b hb).2.1,(f3 b hb).2.2.2.2.1,(f3 b hb).2.2.2.2.2⟩
 have nC:H' ce.locals=none:=I.free
 obtain⟨m,hn,_⟩:=I.loc
 have hn:sI.heap.Ns ce.locals m:=hn
 obtain⟨oC,esC,epC,gC,dC,_⟩:=id hn
 have hCs:ce.locals∉frs X.stack:=fun hm=>by
  obtain⟨_,o,e,_⟩:=I3.stack.mem hm
  rw[hC]at e
  exact absurd (Heap.lt_size e) (Nat.lt_irrefl _)
 have hBC:B.get? ce.locals=some oC:=nb _ _ gC hCs
 have hCL:ce.locals≠X.env.locals:=by rw[hC];exact Nat.ne_of_gt I3.lt
 have hfr:X.A.frames=some (X.env::X.outer):=by rw[I3.ok.frames,hs]
 have sky:Sky B X.stack a (Zc cls d) ce.locals s'.heap:=sky
 rw[hs]at sky
 have key:∀ h1,HandSPX.HeldZ B (X.env::X.outer) a (Zc cls d) X.env.locals h1→s'.heap.UpToSlots h1→CompFails (model X.prog X.w) X.A X.xe ce (.ref a) { s' with heap:=h1 }:=fun h1 hh up1=>by
  refine⟨m,(up.trans up1).ns hn,fun h2 m2 hn2 hs2=>?_⟩
  obtain⟨o2,es2,ep2,g2,d2,_⟩:=id hn2
  obtain⟨b1,b0,f1,oe,vs,T,oT,ts,he,hz,hd,k1,hnT,hTe,hT,hdT,k3⟩:=hh
  have haC:a≠ce.locals:=fun z=>by rw[z,hBC]at b0;cases b0
  have hTC:T≠ce.locals:=fun z=>by rw[z,hBC]at hnT;cases hnT
  have fr2:o2.isFreed=false:=by
   obtain⟨c,dd,dt,sl⟩:=o2
   dsimp only at d2
   subst d2
   rfl
  obtain⟨B2,eB2⟩:∃ B2,B2=B.update ce.locals (fun _=>o2):=⟨_,rfl⟩
  have B2C:B2.get? ce.locals=some o2:=by rw[eB2];exact Heap.get?_update_self (fun _=>o2) hBC fr2
  have B2o:∀ b,b≠ce.locals→B2.get? b=B.get? b:=fun b hb=>by rw[eB2];exact Heap.get?_update_other _ _ (Ne.symm hb)
  have st2:B2.StaysIn h2:=fun b o hb=>by
   by_cases e:b=ce.locals
   ·subst e;rw[B2C]at hb;cases hb;exact g2
   ·rw[B2o b e]at hb
    exact(hs2.2 b e).trans (b1 b o hb)
  have ff2:h2.FunFrames B2 (X.env::X.outer):=funFrames_none (Heap.FunFrames.sameBut hs2 hn2 f1) fun b hb=>by
   have z:=(f1.mem hb).1
   have hbC:b≠ce.locals:=fun e=>by rw[e,hBC]at z;cases z
   rw[B2o b hbC];exact z
  have he2:h2.get? a=some oe:=(hs2.2 a haC).trans he
  unfold PySem.passOn
  refine wpAny_bind (wpAny_field he2 hd k1 ?_)
  rw[if_neg (show ¬ ((Value.ref T==Value.none)=true)from by simp)]
  rw[hcf,hf]
  refine wpAny_bind (HandSPX.setFlight_anyZ (l:=X.env::X.outer) (Z:=Zc cls d) (fl:=rawInt X.env.locals) st2 ff2 ⟨oe,vs,T,oT,ts,he2,hz,hd,k1,by rw[B2o T hTC];exact hnT,hTe,(hs2.2 T hTC).trans hT,hdT,k3⟩ fun h3 st3 ff3 tr3 up3=>?_)
  refine wpAny_throw ?_
  obtain⟨f0,fa1,f2,fa3,f4,f5⟩:=I3.fpOk (H':=H') (Nat.le_refl _) (hC▸nC)
  have I8:Inv X pins σ H' { sI with heap:=sI.heap.update ce.locals (fun _=>o2) }:=by
   have z:=I7.turned (t':=sI.toks) (h':=sI.heap.update ce.locals (fun _=>o2)) (it:=ce.locals) (fun b o hb e=>(Heap.get?_update_other _ _ (Ne.symm hb)).trans e) nC (hC▸fa1) (hC▸fa3) (hC▸f4) (hC▸f5)
   exact z
  have sC:(sI.heap.update ce.locals (fun _=>o2)).get? ce.locals=some o2:=Heap.get?_update_self (fun _=>o2) gC fr2
  have sO:∀ b,b≠ce.locals→(sI.heap.update ce.locals (fun _=>o2)).get? b=sI.heap.get? b:=fun b hb=>Heap.get?_update_other _ _ (Ne.symm hb)
  refine tk _ _ ⟨a,B2,{ sI with heap:=sI.heap.update ce.locals (fun _=>o2) },pins,σ,H',cls,d,rfl,I8,fun b o e hb=>?_,fun b o e hnf=>?_,.inr (.inr ?_),na,os,ag,w⟩
  ·by_cases q:b=ce.locals
   ·subst q
    have e:(sI.heap.update ce.locals (fun _=>o2)).get? ce.locals=some o:=e
    rw[sC]at e;cases e;exact B2C
   ·have e:(sI.heap.update ce.locals (fun _=>o2)).get? b=some o:=e
    rw[sO b q]at e
    rw[B2o b q]
    exact nb b o e hb
  ·have e:(sI.heap.update ce.locals (fun _=>o2)).get? b=some o:=e
   by_cases q:b=ce.locals
   ·subst q
    rw[sC]at e;cases e
    exact up3 _ _ g2 hnf
   ·rw[sO b q]at e
    obtain⟨sl,e1⟩:=(up.trans up1) b o e hnf
    obtain⟨sl3,e3⟩:=up3 b _ ((hs2.2 b q).trans e1) hnf
    exact⟨sl3,e3⟩
  ·rw[hs]
   exact⟨st3,by rw[B2o a haC];exact b0,ff3,tr3⟩
 show wpAny _ _ (noteFrame (.ref a) ce) _ _ s'
 rw[noteFrame_env _ hcf]
 rcases sky with⟨hB,hnB,hl,oe,vs,he,hz,hd,h1⟩ | fl | hh
 ·exact HandSPX.look_newZ Zc.steady hfr hl hf he hB hnB hd h1 hz key
 ·exact HandSPX.looks_onZ Zc.steady hfr hf fl key
 ·exact GH Zc.steady hfr hf hCL hh key
theorem Nz{X:Cx}{pins:List (Addr×Obj)}{σ:L2.St}{H:Hp}{s:Shared}(I:Inv X pins σ H s)(hp:X.pn=[])(xe:Value→Shared→Prop):Inv (X.tr [] xe) pins σ H s:=
 ⟨I.ok.toTry _ _,I.os,I.bare,I.base,I.loc,I.cell,I.free,I.freeC,fun p h=>I.pin p (by rw[hp];exact h),I.hok,I.len⟩
abbrev Cx.kL(X:Cx)(s:Shared)(H:Hp)(scope:Scope)(ce:Env)(fp:List Addr)(xe:Value→Shared→Prop):Cx:=(X.blk s H scope ce fp).tr [] xe
section
variable{X:Cx}
theorem Jl{W:WX}{pins:List (Addr×Obj)}{s:Shared}{σ:L2.St}{H:Hp}{Q:VK}{elt tg iter:Expr}{ifs:List Expr}{scope:Scope}{own:List (Str×Nat)}{pos pos':Pos}{wi:TI}{g:TG}{tt:TT}{te:TE}{use:Option (Value→Sem Unit)}{Qf:Value→Shared→Prop}
  (hst:X.stack=X.env::X.outer) (hfrm:X.env.frame=some X.env.locals) (tk:L2.Takes X W)
  (hc:X.calm=true) (hN:X.N.Nodup) (I:Inv X pins σ H s) (hi:PI X tg iter wi) (ok:BlkOk X.N X.env.scope scope own)
  (hg:∀ (s:Shared) (H:Hp) (C:Addr) (cl:List (Str×Addr)) (fp:List Addr) (xe:Value→Shared→Prop),L2.Takes (Cx.kL X s H scope (compEnvC scope cl C X.env) fp xe) (fun c d _ H'=>W c d σ H')→PG (Cx.kL X s H scope (compEnvC scope cl C X.env) fp xe) tg g∧PTs (Cx.kL X s H scope (compEnvC scope cl C X.env) fp xe) ifs tt∧PE (Cx.kL X s H scope (compEnvC scope cl C X.env) fp xe) elt te)
  (hs:∀ x,foldedSetIterable iter X.env x=pure x)
  (h:tLc wi g tt te (own.map (·.2)) σ H Q)
  (hRR:∀ D ce s' m H',Inv X pins σ H' s'→Q (.ref D) H'→s'.heap.Ns ce.locals m→FpOk X pins H' ce.locals→compEnds (model X.prog X.w) X.A X.xe use Qf (.ref D) ce (.ok .next) s'):
  wpAny (model X.prog X.w) X.A (comprehension (.ListComp elt [⟨tg,iter,ifs,0⟩] scope pos) scope X.env pos' (newList []) false (eval iter X.env) use) Qf X.xe s:=by
 have hfree:∀ y∈scope.names,y.2=.free→∃ c,X.env.cells.lookup y.1=some c:=fun y hy e=>by
  rcases ok.free y hy e with k | k
  ·exact I.ok.has _ (.inl k)
  ·exact I.ok.has _ (.inr k)
 refine comprehension_at (use:=use) rfl hs (closure_ok hfree) ok.kind (fun y hy e=>by rw[ok.uniq y hy,e])
  (thn (hi.run pins s σ H _ I h) fun xv s1 hx=>thn hx fun itv s2 h2=>?_)
 obtain⟨it,fp,tn,J,H2,e,I2,T,st2,f2,q⟩:=h2
 subst e
 refine wpAny_newObj_type (newEnv_comp ?_) (by show 0≤sizeLine;decide)
 generalize hD:s2.heap.objs.size=D
 have hDn:H2 D=none:=I2.hok.fresh (Nat.le_of_eq hD)
 obtain⟨W0,⟨m0,w0⟩,turn⟩:=q D hDn
 generalize hs3:({ s2 with heap:=s2.heap.push { cls:=.type "list",data:=.seq ([]:List Value).toArray } }:Shared)=s3
 have I3:Inv X pins σ (upd H2 D (.lst [])) s3:=by
  rw[←hs3]
  refine I2.laid (t':=s2.toks) (fun b o e=>Heap.get?_push_of_some _ e) (Nat.le_of_eq hD) ⟨Nat.zero_le _,[],0,.nil,?_⟩
  rw[←hD]
  exact Heap.get?_push_size _ rfl
 have h3:s3.heap=s2.heap.push { cls:=.type "list",data:=.seq ([]:List Value).toArray }:=by rw[←hs3]
 have sz:∀ b∈fp,b<s2.heap.objs.size:=fun b hb=>by
  obtain⟨o,e,_⟩:=T.obj _ _ st2 b hb
  exact Heap.lt_size e
 have f3:∀ b∈fp,FpOk X pins (upd H2 D (.lst [])) b∧b<s3.heap.objs.size:=fun b hb=>by
  have hlt:=sz b hb
  refine⟨⟨?_,(f2 b hb).2⟩,by rw[h3,Heap.size_push];exact Nat.lt_succ_of_lt hlt⟩
  rw[upd_ne (by rw[←hD];exact Nat.ne_of_lt hlt)]
  exact(f2 b hb).1
 have st3:tn 0 s3.heap:=T.keep _ _ _ st2 fun b _ o e=>by rw[h3];exact Heap.get?_push_of_some _ e
 have I4:=block_start I3 ok hN f3
 have pa:=hg s3 (upd H2 D (.lst [])) s3.heap.objs.size (cellsFrom (s3.heap.objs.size+1) scope.names (cloFrom X.env.cells scope.names [])) fp
 show codeAny _ _ (.compStart (.ListComp elt [⟨tg,iter,ifs,0⟩] scope pos) 0 (.ref it) (.ref D) (compEnvC scope (cellsFrom (s3.heap.objs.size+1) scope.names (cloFrom X.env.cells scope.names [])) s3.heap.objs.size X.env)) (compEnds (model X.prog X.w) X.A X.xe use Qf (.ref D) (compEnvC scope (cellsFrom (s3.heap.objs.size+1) scope.names (cloFrom X.env.cells scope.names [])) s3.heap.objs.size X.env)) { s3 with heap:=pushCells (s3.heap.push { cls:=.type "dict",data:=.dict #[] }) scope.names }
 have nfp:∀ b∈fp,(upd H2 D (.lst [])) b=none:=fun b hb=>(f3 b hb).1.1
 generalize hce:compEnvC scope (cellsFrom (s3.heap.objs.size+1) scope.names (cloFrom X.env.cells scope.names [])) s3.heap.objs.size X.env=ce at I4 pa ⊢
 have cL:ce.locals=s3.heap.objs.size:=by subst hce;rfl
 have cF:ce.frame=X.env.frame:=by subst hce;rfl
 obtain⟨pg,pt,pe⟩:=pa _ (HB (scope:=scope) hst hfrm tk I3 (fun b hb=>(f3 b hb).1) cL cF)
 have I4:=Nz I4 rfl (uS X ce)
 generalize hH3:upd H2 D (.lst [])=H3 at I3 I4 pg pt pe w0 nfp f3
 generalize hs4:({ s3 with heap:=pushCells (s3.heap.push { cls:=.type "dict",data:=.dict #[] }) scope.names }:Shared)=s4 at I4 ⊢
 have st4:tn 0 s4.heap:=T.keep _ _ _ st3 fun b _ o e=>by rw[←hs4];exact pushCells_keeps _ _ _ _ (Heap.get?_push_of_some _ e)
 have stat:∀ {σ':L2.St} {H':Hp} {s':Shared},Inv (Cx.kL X s3 H3 scope ce fp (uS X ce)) [] σ' H' s'→(∀ b∈fp,H' b=none)→∀ b∈fp,FpOk (Cx.kL X s3 H3 scope ce fp (uS X ce)) [] H' b:=fun {σ' H' s'} I' hn b hb=>
  ⟨hn b hb,(I'.ok.exf b hb).1,I'.ok.exfs b hb,.inl hb,fun x c e=>(I'.ok.exf b hb).2 x c e,fun p hp=>absurd (show p∈([]:List (Addr×Obj))++[]from hp) (by simp)⟩
 have thx:∀ {α:Type} {t:Sem α} {P P':α→Shared→Prop} {s:Shared},wpAny (model X.prog X.w) X.A t P (uS X ce) s→(∀ a s,P a s→P' a s)→wpAny (model X.prog X.w) X.A t P' (notedBy (model X.prog X.w) X.A ce fun e s'=>compEnds (model X.prog X.w) X.A X.xe use Qf (.ref D) ce (.error e) s') s:=fun h hq=>
  wpAny_mono h hq fun e s' z=>wpAny_mono z (fun _ s'' z=>by cases use<;> exact z) fun e s'' z=>by cases use<;> exact z
 have loop:codeAny (model X.prog X.w) X.A (.compLoop (.ListComp elt [⟨tg,iter,ifs,0⟩] scope pos) 0 (.ref it) (.ref D) ce) (compEnds (model X.prog X.w) X.A X.xe use Qf (.ref D) ce) s4:=by
  refine compLoop_any (fun n s'=>∃ i H',Inv (Cx.kL X s3 H3 scope ce fp (uS X ce)) [] (wipe σ (own.map (·.2))) H' s'∧tn i s'.heap∧(∀ b∈fp,H' b=none)∧W0 i n H') ?_ m0 ⟨0,H3,I4,st4,nfp,w0⟩
  rintro n s5 ⟨i,H5,I5,st5,n5,w5⟩
  rcases turn i n H5 w5 with⟨stop,qq⟩ | ⟨go,Nx,hNx,step⟩
  ·have td:=T.done (Cx.kL X s3 H3 scope ce fp (uS X ce)) rfl rfl rfl hc i [] s5 _ H5 (fun _ _=>False) I5 (stat I5 n5) st5 stop
   refine thnF td fun r s6 ⟨hr,I6⟩=>?_
   subst hr
   have I7:Inv X pins σ H5 s6:=I3.call' (ch:=fp) I6.os I6.base I6.hok I6.bare fun b hb=>⟨(f3 b hb).1.2.2.2.1,(f3 b hb).1.2.1,(f3 b hb).1.2.2.2.2.1,(f3 b hb).1.2.2.2.2.2⟩
   have nC:H5 ce.locals=none:=I6.free
   obtain⟨m,hn,_⟩:=I6.loc
   have hn:s6.heap.Ns ce.locals m:=hn
   exact hRR D ce s6 m H5 I7 qq hn (cL▸I3.fpOk (Nat.le_refl _) (cL▸nC))
  ·have ti:=T.item (Cx.kL X s3 H3 scope ce fp (uS X ce)) rfl rfl rfl hc i [] s5 _ H5 (fun _ _=>False) I5 (stat I5 n5) st5 go
   refine thnF ti fun r s6 ⟨u,hr,h6⟩=>?_
   subst hr
   refine thnF h6 fun _ s7 ⟨x,H7,I7,r7,y7,st7,n7⟩=>?_
   have I7':=I7.pinned (stat I7 n7) (T.obj _ _ st7)
   refine thx (pg.run _ s7 _ H7 x u _ I7' r7 (step x H7 y7)) fun _ s8 ⟨σ8,H8,I8,hw8,q8⟩=>?_
   refine thx (pt.run _ s8 σ8 H8 _ I8 q8) fun b s9 ⟨H9,I9,q9⟩=>?_
   have fin:∀ {s':Shared} {H':Hp},Inv (Cx.kL X s3 H3 scope ce fp (uS X ce)) ([]++pinsAt fp s7.heap) σ8 H' s'→Nx H'→∃ m,m<n∧∃ i H',Inv (Cx.kL X s3 H3 scope ce fp (uS X ce)) [] (wipe σ (own.map (·.2))) H' s'∧tn i s'.heap∧(∀ b∈fp,H' b=none)∧W0 i m H':=fun {s' H'} I' nx=>by
    obtain⟨m',hm,w'⟩:=hNx H' nx
    have pin':∀ b∈fp,∀ o,s7.heap.get? b=some o→s'.heap.get? b=some o∧H' b=none:=fun b hb o e=>
     let z:=I'.pin (b,o) (List.mem_append_right _ (List.mem_append_right _ (mem_pinsAt hb e)))
     ⟨z.1,z.2.1⟩
    have hl:(wipe σ (own.map (·.2))).length=σ8.length:=by rw[←hw8,wipe_length]
    refine⟨m',hm,i+1,H',(I'.unpinned (pins:=[])).weak hl (fun j v e=>?_),T.keep _ _ _ st7 fun b hb o e=>(pin' b hb o e).1,fun b hb=>?_,w'⟩
    ·rw[←hw8]at e
     exact(wipe_some e).1
    ·obtain⟨o,e,_⟩:=T.obj _ _ st7 b hb
     exact(pin' b hb o e).2
   cases b with
   | false=>
    simp only[Bool.false_eq_true,if_false]at q9 ⊢
    exact fin I9 q9
   | true=>
    simp only[if_true]at q9 ⊢
    refine thx (pe.run _ s9 σ8 H9 _ I9 q9) fun z s10 ⟨yv,H10,I10,r10,acc,hD10,hz10,nx⟩=>?_
    exact app_ok (X:=Cx.kL X s3 H3 scope ce fp (uS X ce)) I10 hD10 hz10 r10 fun s11 I11=>fin I11 nx
 exact codeAny_compStart_list loop (T.self X.A 0 _ _ _ st4 loop)
end
section
variable{X:Cx}
abbrev RK(X:Cx)(W:WX)(elt tg:Expr)(ifs:List Expr)(scope:Scope)(g:TG)(tt:L2.St→TT)(te:L2.St→TE):Prop:=
 ∀ (σ:L2.St) (s:Shared) (H:Hp) (C:Addr) (cl:List (Str×Addr)) (fp:List Addr) (xe:Value→Shared→Prop),L2.Takes (Cx.kL X s H scope (compEnvC scope cl C X.env) fp xe) (fun c d _ H'=>W c d σ H')→PG (Cx.kL X s H scope (compEnvC scope cl C X.env) fp xe) tg g∧PTs (Cx.kL X s H scope (compEnvC scope cl C X.env) fp xe) ifs (tt σ)∧PE (Cx.kL X s H scope (compEnvC scope cl C X.env) fp xe) elt (te σ)
theorem Ib{W:WX}{i:Nat}{y:Str}{py:Pos}{elt tg iter:Expr}{ifs:List Expr}{scope:Scope}{own:List (Str×Nat)}{pos spos:Pos}{wi:TI}{g:TG}{tt:L2.St→TT}{te:L2.St→TE}(hst:X.stack=X.env::X.outer)(hfrm:X.env.frame=some X.env.locals)(tk:L2.Takes X W)(hc:X.calm=true)(hN:X.N.Nodup)(hy:X.N[i]? =some y)(hyl:X.env.scope.names.lookup y=some .local)
  (hsw:swapsWith (.ListComp elt [⟨tg,iter,ifs,0⟩] scope pos) (some (.Name y py)) spos.line X.env=pure true) (hi:PI X tg iter wi) (ok:BlkOk X.N X.env.scope scope own)
  (hg:RK X W elt tg ifs scope g tt te) (hs:∀ x,foldedSetIterable iter X.env x=pure x:=by intro _;rfl):
  PS X (.Assign [.Name y py] (.ListComp elt [⟨tg,iter,ifs,0⟩] scope pos) spos) (tAsg (fun σ H Q=>tLc wi g (tt σ) (te σ) (own.map (·.2)) σ H Q) (gName i)):=by
 refine⟨fun pins s σ H D I h=>?_⟩
 rw[exec_Assign_Name_used _ _ _ _ hsw]
 refine wpAny_bind (wpAny_standAt (wpAny_bind ?_))
 show wpAny _ X.A (do let _ ←comprehension (.ListComp elt [⟨tg,iter,ifs,0⟩] scope pos) scope X.env (firstIterPos [⟨tg,iter,ifs,0⟩] pos) (newList []) false (eval iter X.env) (some (assign (.Name y py) X.env))) _ _ s
 have h:tLc wi g (tt σ) (te σ) (own.map (·.2)) σ H (fun x H1=>gName i x σ H1 D.nx):=h
 refine wpAny_bind (thn (Jl (Qf:=fun _ s'=>SP X pins D .next s') hst hfrm tk hc hN I hi ok (hg σ) hs h fun L ce s' m H' I' q hn f=>?_) fun _ s' hq=>wpAny_pure (wpAny_pure hq))
 show wpAny _ _ (assign (.Name y py) X.env (.ref L)) _ _ _
 refine wpAny_assign_Name (store_ok2 (v:=V.ref L) I' hN hy (.inl hyl) rfl (fun s2 I2 ⟨a,sb,ha⟩=>?_) (.inr hyl))
 obtain⟨f0,f1,f2,f3,f4,f5⟩:=f
 have haC:ce.locals≠a:=by
  rcases ha with z | z
  ·rw[z];exact f1
  ·exact fun e=>f4 y a z e.symm
 refine⟨m,hn.sameBut sb haC,fun h3 sb3=>?_⟩
 exact⟨_,H',I2.turned (t':=s2.toks) (fun b o hb e=>(sb3.2 b hb).trans e) f0 f1 f3 f4 f5,q⟩
end
def n6(vs:List Nat)(t:Tg)(ft:State→Res Bool)(fe:State→Res RV):List Val→List Val→State→Res (List Val)
 | [],acc,s=>.ok acc s
 | x::l,acc,s=>match gE t x (bG vs s)with
  | none=>.stuck
  | some s=>match ft s with
   | .ok true s=>match fe s with
    | .ok rv s=>match cf rv s with
     | .ok y s=>if acc.length<sizeLine then n6 vs t ft fe l (acc++[y]) (bG vs s)else .stuck
     | _=>.stuck
    | .exc x s=>.exc x (bG vs s)
    | .stuck=>.stuck
   | .ok false s=>n6 vs t ft fe l acc (bG vs s)
   | _=>.stuck
def DY(vs:List Nat)(t:Tg)(src:State→Res (List Val))(ft:State→Res Bool)(fe:State→Res RV)(s:State):Res RV:=(src s).bind fun l s=>(n6 vs t ft fe l [] (bG vs s)).bind A0
def Gq(C C':Cst)(D:Addr)(o:HO)(sv:L2.St):Cst:={ oq C' D o with W:=fun c d _ H'=>C.W c d sv H' }
section
variable{C:Cst}{Z Z' Zc:Hp}{loc loc':List Addr}{s s':State}{sv sv':L2.St}{H H':Hp}
variable{X:Cx}{elt tg iter:Expr}{ifs:List Expr}{scope:Scope}{own:List (Str×Nat)}{p pos:Pos}{f fa fb fc fo fi fv fe:State→Res RV}{ft:State→Res Bool}
abbrev Gh(C:Cst)(ft:State→Res Bool)(σ:L2.St):TT:=fun sv H Q=>∃ C',C'.cA=C.cA∧C'.W=(fun c d _ H'=>C.W c d σ H')∧dM C' ft sv H Q
abbrev GO(C:Cst)(fe:State→Res RV)(σ:L2.St):TE:=fun sv H Q=>∃ C',C'.cA=C.cA∧C'.W=(fun c d _ H'=>C.W c d σ H')∧au C' fe sv H Q
theorem Md{t:Tg}{src:State→Res (List Val)}{vs:List Nat}{Q:VK}(hv:∀ i∈wD t,i∈vs)(h:au C (DY vs t src ft fe) sv H Q):tLc (lD C src) (AR C t) (Gh C ft sv) (GO C fe sv) vs sv H Q:=by
 obtain⟨Z,loc,s,r,q⟩:=h
 refine⟨Z,loc,s,r,?_⟩
 unfold DY at q
 cases e:src s with
 | stuck=>rw[e]at q;exact q
 | exc x s1=>rw[e]at q;exact q
 | ok l s1=>
  rw[e]at q
  simp only[Res.aa]at q
  intro Z1 l1 H1 C' J G Y cle g1 r1 wk D hD
  have hf:=((r1.wipe vs).free hD)
  have cF:C'.Fr D=none:=hf.f
  refine lc_it (g:=AR C t) (tt:=Gh C ft sv) (te:=GO C fe sv) (vs:=vs) (σ:=sv) wk.w (fun i H=>∃ Z2 l2 s2 acc xs,Ext Z1 l1 Z2 l2∧SR C' Z2 l2 s2 (L2.wipe sv vs) H∧H D=some (.lst xs)∧Free C' Z2 l2 s2 (L2.wipe sv vs) D∧aY C'.cA Z2 l2 acc xs∧EPost C Z2 l2 sv ((n6 vs t ft fe (l.drop i) acc s2).bind A0) Q)
   ⟨Z1,l1,bG vs s1,[],[],Ext.refl _ _,(r1.wipe vs).grow (bI hD),upd_same,hf,rfl,EPost.ext q g1⟩ (fun i H _ ⟨Z2,l2,s2,acc,xs,g2,r2,_⟩=>wk.g Z2 l2 s2 _ H g2 r2) ?_ ?_
  ·rintro i v H2 H3 hi ⟨Z2,l2,s2,acc,xs,g2,r2,hx,f2,ra,q2⟩ hy
   rw[List.drop_eq_getElem_cons hi]at q2
   obtain⟨Z3,g3,gr,r3,q3⟩:=wk.y Z2 l2 s2 _ H2 i l[i] v H3 g2 r2 (by simp[hi]) hy
   have f3:=(f2.O6 hx gr).wipe vs
   rw[qP]at f3
   have r3':=r3.wipe vs
   rw[qP]at r3'
   have hx3:=gr.1 D _ hx
   refine⟨Gq C C' D (.lst xs) sv,cle.ca,Z3,l2,bG vs s2,l[i],(r3'.hold hx3 f3).w _,q3,?_⟩
   unfold n6 at q2
   cases e1:gE t l[i] (bG vs s2)with
   | none=>rw[e1]at q2;exact q2
   | some s3=>
    rw[e1]at q2
    intro sv4 off r4
    have we:=xl off hv
    refine⟨we,Gq C C' D (.lst xs) sv,cle.ca,rfl,Z3,l2,s3,r4,?_⟩
    dsimp only at q2
    have q2':=EPost.ext q2 g3
    cases e2:ft s3 with
    | stuck=>rw[e2]at q2';exact q2'
    | exc x s4=>rw[e2]at q2';exact False.elim q2'
    | ok b s4=>
     rw[e2]at q2'
     intro Z5 l5 H5 g5 r5
     cases b with
     | false=>
      obtain⟨r5',hx5,f5⟩:=r5.og.held cF
      have r6:=r5'.wipe vs
      have f6:=f5.wipe vs
      rw[we]at r6 f6
      exact⟨Z5,l5,bG vs s4,acc,xs,g2.trans (g3.trans g5),r6,hx5,f6,aY.mono (g3.trans g5) _ ra,EPost.ext q2' g5⟩
     | true=>
      refine⟨Gq C C' D (.lst xs) sv,cle.ca,rfl,Z5,l5,s4,r5,?_⟩
      dsimp only at q2'
      cases e3:fe s4 with
      | stuck=>rw[e3]at q2';exact q2'
      | exc x s5=>
       rw[e3]at q2'
       have q2'':∀ Z' loc' H' c d,Ext Z3 l2 Z' loc'→SR C Z' loc' (bG vs s5) sv H'→ke C Z' H' x c d→C.W c d sv H':=q2'
       intro Z6 l6 H6 c d g6 r6 q6
       obtain⟨r7,hx7,f7⟩:=r6.og.held cF
       have r8:=r7.wipe vs
       rw[we]at r8
       refine q2'' Z6 l6 H6 c d (g5.trans g6) (SR.le cle r8).DO ?_
       have q6:c=.ref (C'.cA x.c)∧match x.p with
        | none=>d=none
        | some p=>∃ dd v,d=some dd∧Z6 dd=some (.xd [(Str.ofString "place",v)])∧bK C'.cA Z6 p v:=q6
       rw[cle.ca]at q6
       exact q6
      | ok rv s5=>
       rw[e3]at q2'
       dsimp only at q2'
       intro Z6 l6 H6 v6 g6 r6 q6
       cases e4:cf rv s5 with
       | stuck=>rw[e4]at q2';exact False.elim q2'
       | exc x s6=>rw[e4]at q2';exact False.elim q2'
       | ok y s6=>
        rw[e4]at q2'
        dsimp only at q2'
        obtain⟨Z7,g7,r7,q7⟩:=r6.cf q6 e4
        obtain⟨r8,hx8,f8⟩:=r7.og.held cF
        have gg:=g3.trans (g5.trans (g6.trans g7))
        have ra':=aY.mono gg _ ra
        split at q2'
        ·rename_i hlt
         refine⟨xs,hx8,by rw[←b7 ra];exact hlt,?_⟩
         have r9:=(r8.Lb (u:=.lst (xs++[v6])) hx8 (fun _ _ z=>nomatch z) f8).wipe vs
         have f9:=f8.wipe vs
         rw[we]at r9 f9
         exact⟨Z7,l6,bG vs s6,acc++[y],xs++[v6],g2.trans gg,r9,upd_same,f9,m6 ra' ⟨v6,[],rfl,q7,rfl⟩,EPost.ext q2' (g5.trans (g6.trans g7))⟩
        ·exact False.elim q2'
  ·rintro H2 ⟨Z2,l2,s2,acc,xs,g2,r2,hx,f2,ra,q2⟩
   rw[List.drop_length]at q2
   refine q2 Z2 l2 H2 (.ref D) (Ext.refl _ _) (SR.le cle r2).DO ⟨D,rfl,by simp,⟨xs,hx,by rw[←cle.ca];exact ra⟩,f2.z,by rw[←cle.fr];exact f2.f,f2.l,fun i o h e=>?_⟩
   obtain⟨b,q1,_⟩:=r2.ow i o h
   have e1:=(wipe_some q1).1
   rw[e]at e1
   cases e1
   exact f2.o i o h q1
abbrev RU(X:Cx)(cA:String→Addr)(elt tg:Expr)(ifs:List Expr)(scope:Scope)(t:Tg)(ft:State→Res Bool)(fe:State→Res RV):Prop:=
 ∀ (s:Shared) (H:Hp) (D:Addr) (cl:List (Str×Addr)) (fp:List Addr) (xe:Value→Shared→Prop) (C':Cst),C'.cA=cA→L2.Takes (Cx.kL X s H scope (compEnvC scope cl D X.env) fp xe) C'.W→PG (Cx.kL X s H scope (compEnvC scope cl D X.env) fp xe) tg (qC C' t)∧PTs (Cx.kL X s H scope (compEnvC scope cl D X.env) fp xe) ifs (dM C' ft)∧PE (Cx.kL X s H scope (compEnvC scope cl D X.env) fp xe) elt (au C' fe)
theorem PN{t:Tg}(hb:RU X C.cA elt tg ifs scope t ft fe):RK X C.W elt tg ifs scope (AR C t) (Gh C ft) (GO C fe):=by
 refine fun σ s H D cl fp xe tk'=>⟨⟨fun pins s0 sv H0 v u Q I r ⟨C',c,q⟩=>?_⟩,⟨fun pins s0 sv H0 Q I ⟨C',c,w,q⟩=>?_⟩,⟨fun pins s0 sv H0 Q I ⟨C',c,w,q⟩=>?_⟩⟩
 ·obtain⟨Z,l,s1,x,r1,q1,q2⟩:=q
  exact(hb s H D cl fp xe { C' with W:=fun c d _ H'=>C.W c d σ H' } c tk').1.run pins s0 sv H0 v u Q I r ⟨Z,l,s1,x,r1.w _,q1,by
   cases e:gE t x s1 with
   | none=>rw[e]at q2;exact q2
   | some s2=>
    rw[e]at q2
    exact fun sv' off r'=>q2 sv' off r'.og⟩
 ·exact(hb s H D cl fp xe C' c (w▸tk')).2.1.run pins s0 sv H0 Q I q
 ·exact(hb s H D cl fp xe C' c (w▸tk')).2.2.run pins s0 sv H0 Q I q
theorem Jg{cA:String→Addr}{t:Tg}{src:State→Res (List Val)}{i:Nat}{y:Str}{py spos:Pos}(hC:C.cA=cA)(hst:X.stack=X.env::X.outer)(hfrm:X.env.frame=some X.env.locals)(tk:L2.Takes X C.W)(own:List (Str×Nat)){vs:List Nat}(hvs:own.map (·.2)=vs)(hc:X.calm=true)(hN:X.N.Nodup)(hy:X.N[i]? =some y)(hyl:X.env.scope.names.lookup y=some .local)(hk:X.env.scope.kind=.function)
  (hl:(py.line==pos.line)=true) (ha:(scope.names.any fun(n,k)=>n==y&&(k== .local||k== .cell))=false) (hi:PI X tg iter (lD C src)) (ok:blkC X.N X.env.scope scope own=true)
  (hb:RU X cA elt tg ifs scope t ft fe) (hs:cw iter=true) (hv:∀ i∈wD t,i∈vs):PS X (.Assign [.Name y py] (.ListComp elt [⟨tg,iter,ifs,0⟩] scope pos) spos) (dj C (aJ i (DY vs t src ft fe))):=by
 subst hvs hC
 refine sT (Ib (i:=i) (g:=AR C t) (tt:=Gh C ft) (te:=GO C fe) hst hfrm tk hc hN hy hyl (sw_true hk hyl hl ha) hi (blkOk_by ok) (PN hb) (fold_ok hs)) fun D sv H hl h=>?_
 exact Md hv (C5 (by rw[hl];exact(List.getElem?_eq_some_iff.mp hy).1) h)
end
end Vw
namespace K34
open PySem L2 PyProof.Rows Vw
abbrev gv(K:PySem.W.Frag)(x q:Str)(st:Stmt)(f:Addr)(fd:FuncData):Prop:=FunD K x q (defArgs st) (defBody st) (defScope st) [] [] f fd
def mx:=aJ 3 (ao (iP (ae 0) .no (.ex (fD (.int 63)))) (bU [(ae 1)]) (binop .add))
def mz:=aJ 4 (bU [])
def lI:=ao (ae 10) (fD (.int 100000)) (binop .fdiv)
def lb:=ai [(aJ 9 (ao (ae 5) (bW (aw [(ae 6)]) de) (binop .mod))),(bC (aM (ao (ae 5) (ae 1) (aD .ge))) (ai [(bY (fY "list" (ae 4) (aw [(ao (ao (ae 6) (ae 9) bJ) (fD (.int 2147483587)) (binop .mod))]) bAppend dZ))]) (ai [])),(yY (ae 6) (ae 9) (ao (ao (ae 6) (ae 9) bJ) (fD (.int 2147483587)) (binop .fdiv)))]
def mu:=bC (aM (ao (ao (ao (ao (ae 3) (fD (.int 0)) bJ) (fD (.int 50000)) (binop .fdiv)) (fD (.int 2)) (binop .mod)) (fD (.int 1)) (aD .eq))) (ai [(aJ 6 (jZ [10] (.nm 10) (sD (ae 3) itemsOf) eD lI)),(gD (.nm 5) (gV (aw [(ao (ae 1) (ae 2) (binop .add))]) fL) lb),(aN (ae 4))]) (ai [])
def kP:=ai [(aJ 7 (ao (ao (ao (ao (ae 5) (ae 1) (binop .add)) (ao (ae 5) (ae 1) (binop .add)) (binop .mul)) (fD (.int 7919)) (binop .mul)) (fD (.int 104729)) (binop .add))),(aJ 8 (ao (ao (ao (ao (ao (ae 3) (ao (ae 5) (bW (aw [(ae 3)]) de) (binop .mod)) bJ) (fD (.int 2147483647)) (binop .mod)) (ae 7) (binop .add)) (fD (.int 48271)) (binop .mul)) (fD (.int 2147483647)) (binop .mod))),(aJ 8 (ao (ao (ao (ae 8) (ae 8) (binop .mul)) (ao (fD (.int 69621)) (ae 5) (binop .mul)) (binop .add)) (fD (.int 2147483629)) (binop .mod))),(bY (fY "list" (ae 4) (aw [(ao (ao (ae 8) (ae 8) (binop .mul)) (fD (.int 2147483587)) (binop .mod))]) bAppend dZ))]
def l9:=gD (.nm 5) (gV (aw [(ae 2)]) fL) kP
def my:=aN (ae 4)
def lK:=ai [mx,mz,mu,l9,my]
def iK:Fn:=cW 11 lK
def pH:=bC (aM (ao (ae 0) (bU []) (aD .eq))) (ai [(aN (fD (.int 0)))]) (ai [])
def p4:=aN (fY "list" (ae 0) (aw []) zo dZ)
def oE:=ai [pH,p4]
def bp:Fn:=cW 1 oE
def DZ:=aJ 1 (bU [(fD (.str (sS ""))),(fD (.str (sS " "))),(fD (.str (sS "put"))),(fD (.str (sS "put "))),(fD (.str (sS "put none "))),(fD (.str (sS "put  none"))),(fD (.str (sS "put nones"))),(fD (.str (sS "put a:''"))),(fD (.str (sS "put a:'")))])
def C4:=aJ 1 (ao (ae 1) (bU [(fD (.str (sS "put a:'''"))),(fD (.str (sS "put a:''''"))),(fD (.str (sS "put a:'x'b:'y'"))),(fD (.str (sS "put a:'x'  b:'y'"))),(fD (.str (sS "put b:'x' a:'y'")))]) (binop .add))
def Eb:=aJ 1 (ao (ae 1) (bU [(fD (.str (sS "put a:'x' a:'y'"))),(fD (.str (sS "put A:'x'"))),(fD (.str (sS "put :'x'")))]) (binop .add))
def Dl:=aJ 1 (ao (ae 1) (bU [(fD (.str (sS "put abcdefghijklm:'x'"))),(fD (.str (sS "put abcdefghijkl:'x'"))),(fD (.str (sS "put a:'x' "))),(fD (.str (sS "put a:'x' none"))),(fD (.str (sS "put a1:'x'")))]) (binop .add))
def Dc:=aJ 1 (ao (ae 1) (bU [(fD (.str (sS "change 1"))),(fD (.str (sS "change 1 "))),(fD (.str (sS "change none"))),(fD (.str (sS "change 01 none"))),(fD (.str (sS "change 1 none"))),(fD (.str (sS "change  1 none")))]) (binop .add))
def EH:=aJ 1 (ao (ae 1) (bU [(fD (.str (sS "take"))),(fD (.str (sS "take "))),(fD (.str (sS "take 1 2"))),(fD (.str (sS "take 1 "))),(fD (.str (sS "take -1"))),(fD (.str (sS "take +1"))),(fD (.str (sS "take 1_0"))),(fD (.str (sS "take 00"))),(fD (.str (sS "take 0")))]) (binop .add))
def DJ:=aJ 1 (ao (ae 1) (bU [(ao (fD (.str (sS "take "))) (ao (fD (.str (sS "1"))) (fD (.int 60)) (binop .mul)) (binop .add)),(ao (fD (.str (sS "take "))) (ao (fD (.str (sS "1"))) (fD (.int 61)) (binop .mul)) (binop .add)),(fD (.str (sS "pour 1"))),(fD (.str (sS "pour 1 2 3"))),(fD (.str (sS "pour 1  2"))),(fD (.str (sS "stamp "))),(fD (.str (sS " stamp")))]) (binop .add))
def EF:=aJ 1 (ao (ae 1) (bU [(fD (.str (sS "Stamp"))),(fD (.str (sS "seal 1"))),(fD (.str (sS "thin"))),(fD (.str (sS "drop now"))),(fD (.str (sS "pack a"))),(fD (.str (sS "ask now a:b"))),(fD (.str (sS "stamps"))),(fD (.str (sS "take 1."))),(fD (.str (sS "put none:''")))]) (binop .add))
def Ee:=aN (ao (ae 1) (ao (ae 0) (bW (aw [(ae 1)]) de) (binop .mod)) bJ)
def xZ:=ai [DZ,C4,Eb,Dl,Dc,EH,DJ,EF,Ee]
def kQ:Fn:=cW 2 xZ
def Ba:=aJ 2 (bh 1 (aw [(ae 1)]) bp)
def Bb:=aJ 3 (ao (bh 1 (aw [(ae 1)]) bp) (ao (bW (aw [(ae 0)]) de) (fD (.int 1)) (binop .add)) (binop .mod))
def Be:=aJ 4 (bh 1 (aw [(ae 1)]) bp)
def A7:=aJ 5 (ao (ao (bU [(fD (.str (sS " '':0189"))),(fD (.str (sS "abzAZ.,-~\"#")))]) (ao (ae 4) (fD (.int 2)) (binop .mod)) bJ) (ao (ao (ae 4) (fD (.int 2)) (binop .fdiv)) (fD (.int 8)) (binop .mod)) bJ)
def A9:=aJ 6 (ao (ae 2) (fD (.int 9)) (binop .mod))
def BE:=bC (aM (ao (ae 6) (fD (.int 2)) (aD .lt))) (ai [(aN (ao (ao (iP (ae 0) .no (.ex (ae 3))) (ae 5) (binop .add)) (iP (ae 0) (.ex (ae 3)) .no) (binop .add)))]) (ai [])
def Bm:=bC (aM (ao (ae 6) (fD (.int 4)) (aD .lt))) (ai [(aN (ao (ao (iP (ae 0) .no (.ex (ae 3))) (ae 5) (binop .add)) (iP (ae 0) (.ex (ao (ae 3) (fD (.int 1)) (binop .add))) .no) (binop .add)))]) (ai [])
def BN:=bC (aM (ao (ae 6) (fD (.int 4)) (aD .eq))) (ai [(aN (ao (iP (ae 0) .no (.ex (ae 3))) (iP (ae 0) (.ex (ao (ae 3) (fD (.int 1)) (binop .add))) .no) (binop .add)))]) (ai [])
def BY:=bC (aM (ao (ae 6) (fD (.int 5)) (aD .eq))) (ai [(aJ 7 (ao (iP (ae 0) (.ex (ao (ae 3) (fD (.int 1)) (binop .add))) (.ex (ao (ae 3) (fD (.int 2)) (binop .add)))) (iP (ae 0) (.ex (ae 3)) (.ex (ao (ae 3) (fD (.int 1)) (binop .add)))) (binop .add))),(aN (ao (ao (iP (ae 0) .no (.ex (ae 3))) (ae 7) (binop .add)) (iP (ae 0) (.ex (ao (ae 3) (fD (.int 2)) (binop .add))) .no) (binop .add)))]) (ai [])
def By:=bC (aM (ao (ae 6) (fD (.int 6)) (aD .eq))) (ai [(aN (iP (ae 0) .no (.ex (ae 3))))]) (ai [])
def zu:=bC (aM (ao (ae 6) (fD (.int 7)) (aD .eq))) (ai [(aN (bh 1 (aw [(ae 4)]) kQ))]) (ai [])
def y9:=aN (ae 0)
def wU:=ai [Ba,Bb,Be,A7,A9,BE,Bm,BN,BY,By,zu,y9]
def jm:Fn:=cW 8 wU
def BX:=aJ 1 (ao (ae 0) (fD (.int 0)) bJ)
def zB:=ai [(aJ 1 (ao (ao (ae 1) (ae 5) (binop .add)) (ao (bU [(fD (.str (sS ""))),(fD (.str (sS "'")))]) (bW (aw [(ao (ae 5) (fD (.str (sS "'"))) (aD .eq))]) xD) bJ) (binop .add)))]
def zI:=ai [(aJ 1 (ao (ao (ao (ae 1) (fD (.str (sS " "))) (binop .add)) (ae 3) (binop .add)) (fD (.str (sS ":'"))) (binop .add))),(gD (.nm 5) (sD (ae 4) itemsOf) zB),(aJ 1 (ao (ae 1) (fD (.str (sS "'"))) (binop .add)))]
def zN:=ai [(bC (aM (gP "int" (ae 2))) (ai [(aJ 1 (ao (ao (ae 1) (fD (.str (sS " "))) (binop .add)) (bW (aw [(ae 2)]) xP) (binop .add)))]) (ai [(bC (aM (ao (ae 2) (bU []) (aD .eq))) (ai [(aJ 1 (ao (ae 1) (fD (.str (sS " none"))) (binop .add)))]) (ai [(gD (.tp [(.nm 3),(.nm 4)]) (sD (ae 2) itemsOf) zI)]))]))]
def BC:=gD (.nm 2) (sD (iP (ae 0) (.ex (fD (.int 1))) .no) itemsOf) zN
def BO:=aN (ae 1)
def wQ:=ai [BX,BC,BO]
def gI:Fn:=cW 6 wQ
def Aa:=aJ 1 (fD (.str (sS "abcdefghijklmnopqrstuvwxyz")))
def zw:=aJ 2 Gm
def ye:=ao (ae 1) (ao (ao (ao (ae 4) (fD (.int 13)) (binop .fdiv)) (ao (ao (ae 6) (ae 6) (binop .mul)) (fD (.int 7)) (binop .mul)) (binop .add)) (fD (.int 26)) (binop .mod)) bJ
def yx:=ai [(aJ 4 (bh 1 (aw [(ae 0)]) bp)),(aJ 5 (fY "str" (fD (.str (sS ""))) (aw [(jZ [6] (.nm 6) (gV (aw [(ao (fD (.int 1)) (ao (ae 4) (fD (.int 11)) (binop .mod)) (binop .add))]) fL) eD ye)]) qA ky)),(yY (ae 2) (ao (ao (ae 1) (ao (ao (ae 4) (fD (.int 500)) (binop .fdiv)) (fD (.int 26)) (binop .mod)) bJ) (ae 5) (binop .add)) (fD (.bl true)))]
def zy:=gD (.nm 3) (gV (aw [(ao (bU [(fD (.int 0)),(fD (.int 1)),(fD (.int 2)),(fD (.int 3)),(fD (.int 1)),(fD (.int 2))]) (ao (bh 1 (aw [(ae 0)]) bp) (fD (.int 6)) (binop .mod)) bJ)]) fL) yx
def zP:=aN (bW (aw [(ae 2)]) v9)
def uz:=ai [Aa,zw,zy,zP]
def jP:Fn:=cW 7 uz
def nU:=aJ 1 (fD (.str (sS " !\"#$&'()*+,-./0123456789:;<=>?@ABCDEFGHIJKLMNOPQRSTUVWXYZ[\\]^_`abcdefghijklmnopqrstuvwxyz{|}~")))
def nY:=aJ 2 (fD (.str (sS "")))
def l8:=ai [(aJ 4 (bh 1 (aw [(ae 0)]) bp)),(aJ 5 (ao (bU [(ae 1),(fD (.str (sS "' a:"))),(fD (.str (sS "ab''")))]) (ao (ae 4) (fD (.int 3)) (binop .mod)) bJ)),(aJ 2 (ao (ae 2) (ao (ae 5) (ao (ao (ae 4) (fD (.int 3)) (binop .fdiv)) (bW (aw [(ae 5)]) de) (binop .mod)) bJ) (binop .add)))]
def nP:=gD (.nm 3) (gV (aw [(ao (bh 1 (aw [(ae 0)]) bp) (fD (.int 10)) (binop .mod))]) fL) l8
def n3:=aN (ae 2)
def mM:=ai [nU,nY,nP,n3]
def jl:Fn:=cW 6 mM
def uu:=iG [(ae 1),(bh 1 (aw [(ae 0)]) jl)]
def wu:=aN (jZ [1] (.nm 1) (sD (bh 1 (aw [(ae 0)]) jP) itemsOf) eD uu)
def qE:=ai [wu]
def eR:Fn:=cW 2 qE
def yF:=aJ 2 (bh 1 (aw [(ae 1)]) bp)
def yb:=aJ 3 (ao (iP (ae 0) .no (.ex (fD (.int 63)))) (bU [(ae 2)]) (binop .add))
def yg:=aN (ao (bU [(ao (ao (ae 2) (fD (.int 4)) (binop .fdiv)) (fD (.int 10)) (binop .mod)),(ao (ao (ae 2) (fD (.int 4)) (binop .fdiv)) (fD (.int 4)) (binop .mod)),(ao (ao (ae 3) (ao (ao (ae 2) (fD (.int 4)) (binop .fdiv)) (bW (aw [(ae 3)]) de) (binop .mod)) bJ) (ao (fD (.int 10)) (fD (.int 60)) (binop .pow)) (binop .mod)),(ao (ao (fD (.int 10)) (fD (.int 59)) (binop .pow)) (ae 2) (binop .add))]) (ao (ae 2) (fD (.int 4)) (binop .mod)) bJ)
def ub:=ai [yF,yb,yg]
def cX:Fn:=cW 4 ub
def Bv:=aJ 2 (bh 1 (aw [(ae 1)]) bp)
def BL:=aJ 3 (ao (bU [(fD (.str (sS "put"))),(fD (.str (sS "change"))),(fD (.str (sS "take"))),(fD (.str (sS "stamp"))),(fD (.str (sS "drop"))),(fD (.str (sS "seal"))),(fD (.str (sS "pour"))),(fD (.str (sS "thin"))),(fD (.str (sS "pack"))),(fD (.str (sS "put"))),(fD (.str (sS "change")))]) (ao (ae 2) (fD (.int 11)) (binop .mod)) bJ)
def BP:=bC (aM (ao (ae 3) (fD (.str (sS "put"))) (aD .eq))) (ai [(aN (iG [(ae 3),(bh 1 (aw [(ae 1)]) eR)]))]) (ai [])
def Bn:=bC (aM (ao (ae 3) (fD (.str (sS "change"))) (aD .eq))) (ai [(aN (iG [(ae 3),(bh 2 (aw [(ae 0),(ae 1)]) cX),(bh 1 (aw [(ae 1)]) eR)]))]) (ai [])
def BG:=bC (aM (ao (ae 3) (bU [(fD (.str (sS "stamp"))),(fD (.str (sS "seal"))),(fD (.str (sS "thin")))]) (aD .isin))) (ai [(aN (iG [(ae 3)]))]) (ai [])
def Bu:=bC (aM (ao (ae 3) (fD (.str (sS "pour"))) (aD .eq))) (ai [(aN (iG [(ae 3),(bh 2 (aw [(ae 0),(ae 1)]) cX),(bh 2 (aw [(ae 0),(ae 1)]) cX)]))]) (ai [])
def Bq:=aN (iG [(ae 3),(bh 2 (aw [(ae 0),(ae 1)]) cX)])
def wO:=ai [Bv,BL,BP,Bn,BG,Bu,Bq]
def gJ:Fn:=cW 4 wO
def xm:=aJ 2 (fD (.str (sS "")))
def wc:=ai [(bC (aM (ao (ao (ae 0) (ae 1) bJ) (fD (.str (sS "'"))) (aD .ne))) (ai [(aJ 2 (ao (ae 2) (ao (ae 0) (ae 1) bJ) (binop .add))),(aJ 1 (ao (ae 1) (fD (.int 1)) (binop .add)))]) (ai [(bC (aM (ao (iP (ae 0) (.ex (ae 1)) (.ex (ao (ae 1) (fD (.int 2)) (binop .add)))) (fD (.str (sS "''"))) (aD .eq))) (ai [(aJ 2 (ao (ae 2) (fD (.str (sS "'"))) (binop .add))),(aJ 1 (ao (ae 1) (fD (.int 2)) (binop .add)))]) (ai [(aN (iG [(ae 2),(ao (ae 1) (fD (.int 1)) (binop .add))]))]))]))]
def xy:=lZ ef (aM (ao (iP (ae 0) (.ex (ae 1)) (.ex (ao (ae 1) (fD (.int 1)) (binop .add)))) (fD (.str (sS ""))) (aD .ne))) wc
def xk:=aN (fD .non)
def rW:=ai [xm,xy,xk]
def iO:Fn:=cW 3 rW
def tP:=bC (aM (ao (ae 0) (fD (.str (sS "none"))) (aD .eq))) (ai [(aN (bU []))]) (ai [])
def tL:=aJ 1 (bU [])
def tF:=aJ 2 (fD (.int 0))
def rJ:=aM (ao (ae 6) (fD (.str (sS "abcdefghijklmnopqrstuvwxyz"))) (aD .notin))
def rR:=ai [(bC (iL [(aM (ao (ae 1) (bU []) (aD .ne))),(aM (ao (ao (ae 0) (ae 2) bJ) (fD (.str (sS " "))) (aD .ne)))]) (ai [(aN (fD .non))]) (ai [])),(aJ 2 (ao (ae 2) (bW (aw [(ao (ae 1) (bU []) (aD .ne))]) xD) (binop .add))),(aJ 3 (fY "str" (ae 0) (aw [(fD (.str (sS ":'"))),(ae 2)]) ya ky)),(aJ 4 (bh 2 (aw [(ae 0),(ao (ae 3) (fD (.int 2)) (binop .add))]) iO)),(bC (lU [(aM (ao (ae 3) (fD (.int 0)) (aD .lt))),(aM (ao (ae 4) (fD .non) (aD .is))),(jy (aM (wI (fD (.int 1)) (ao (ae 3) (ae 2) (binop .sub)) (fD (.int 12)) (aD .le) (aD .le))))]) (ai [(aN (fD .non))]) (ai [])),(aJ 5 (iP (ae 0) (.ex (ae 2)) (.ex (ae 3)))),(bC (aM (ao (jZ [6] (.nm 6) (sD (ae 5) itemsOf) rJ (ae 6)) (bU []) (aD .ne))) (ai [(aN (fD .non))]) (ai [])),(bC (iL [(aM (ao (ae 1) (bU []) (aD .ne))),(aM (ao (ae 5) (ao (ao (ae 1) (Du (fD (.int 1))) bJ) (fD (.int 0)) bJ) (aD .le)))]) (ai [(aN (fD .non))]) (ai [])),(bY (fY "list" (ae 1) (aw [(iG [(ae 5),(ao (ae 4) (fD (.int 0)) bJ)])]) bAppend dZ)),(aJ 2 (ao (ae 4) (fD (.int 1)) bJ))]
def tE:=lZ ef (lU [(aM (ao (ae 1) (bU []) (aD .eq))),(aM (ao (ae 2) (bW (aw [(ae 0)]) de) (aD .lt)))]) rR
def tw:=aN (ae 1)
def m7:=ai [tP,tL,tF,tE,tw]
def dq:Fn:=cW 7 m7
def vq:=bC (lU [(aM (ao (ae 0) (fD (.str (sS ""))) (aD .eq))),(aM (ao (bW (aw [(ae 0)]) de) (fD (.int 60)) (aD .gt))),(iL [(aM (ao (ao (ae 0) (fD (.int 0)) bJ) (fD (.str (sS "0"))) (aD .eq))),(aM (ao (ae 0) (fD (.str (sS "0"))) (aD .ne)))])]) (ai [(aN (fD .non))]) (ai [])
def ud:=ai [(bC (aM (ao (ae 1) (fD (.str (sS "0123456789"))) (aD .notin))) (ai [(aN (fD .non))]) (ai []))]
def vz:=gD (.nm 1) (sD (ae 0) itemsOf) ud
def vu:=aN (bW (aw [(ae 0)]) yC)
def p8:=ai [vq,vz,vu]
def bZ:Fn:=cW 2 p8
def xt:=bC (aM (ao (ae 0) (bU [(fD (.str (sS "stamp"))),(fD (.str (sS "seal"))),(fD (.str (sS "thin")))]) (aD .isin))) (ai [(aN (iG [(ae 0)]))]) (ai [])
def xj:=aJ 1 (fY "str" (ae 0) (aw [(fD (.str (sS " ")))]) u0 ky)
def xw:=bC (aM (ao (ao (ae 1) (fD (.int 0)) bJ) (fD (.str (sS "put"))) (aD .eq))) (ai [(aJ 2 (iG [(fD (.str (sS "put"))),(bh 1 (aw [(iP (ae 0) (.ex (fD (.int 4))) .no)]) dq)]))]) (ai [(bC (iL [(aM (ao (ao (ae 1) (fD (.int 0)) bJ) (fD (.str (sS "change"))) (aD .eq))),(aM (ao (bW (aw [(ae 1)]) de) (fD (.int 2)) (aD .gt)))]) (ai [(aJ 2 (iG [(fD (.str (sS "change"))),(bh 1 (aw [(ao (ae 1) (fD (.int 1)) bJ)]) bZ),(bh 1 (aw [(iP (ae 0) (.ex (ao (bW (aw [(ao (ae 1) (fD (.int 1)) bJ)]) de) (fD (.int 8)) (binop .add))) .no)]) dq)]))]) (ai [(bC (iL [(aM (ao (ao (ae 1) (fD (.int 0)) bJ) (fD (.str (sS "pour"))) (aD .eq))),(aM (ao (bW (aw [(ae 1)]) de) (fD (.int 3)) (aD .eq)))]) (ai [(aJ 2 (iG [(fD (.str (sS "pour"))),(bh 1 (aw [(ao (ae 1) (fD (.int 1)) bJ)]) bZ),(bh 1 (aw [(ao (ae 1) (fD (.int 2)) bJ)]) bZ)]))]) (ai [(bC (iL [(aM (ao (ao (ae 1) (fD (.int 0)) bJ) (bU [(fD (.str (sS "take"))),(fD (.str (sS "drop"))),(fD (.str (sS "pack")))]) (aD .isin))),(aM (ao (bW (aw [(ae 1)]) de) (fD (.int 2)) (aD .eq)))]) (ai [(aJ 2 (iG [(ao (ae 1) (fD (.int 0)) bJ),(bh 1 (aw [(ao (ae 1) (fD (.int 1)) bJ)]) bZ)]))]) (ai [(aN (fD .non))]))]))]))])
def xi:=bC (aM (ao (fD .non) (ae 2) (aD .isin))) (ai [(aN (fD .non))]) (ai [])
def xh:=aN (ae 2)
def rN:=ai [xt,xj,xw,xi,xh]
def iM:Fn:=cW 3 rN
def ot:=B3 fT "line" (ae 0) (ae 1)
def oB:=B3 fT "at" (ae 0) (fD (.int 0))
def kc:=ai [ot,oB]
def hM:Fn:=cW 2 kc
def nH:=aJ 1 (ly fT "at" (ae 0))
def m4:=ai [(mP fT "at" .add (ae 0) (fD (.int 1)))]
def nW:=lZ ef (iL [(aM (ao (ly fT "at" (ae 0)) (bW (aw [(ly fT "line" (ae 0))]) de) (aD .lt))),(aM (ao (ao (ly fT "line" (ae 0)) (ly fT "at" (ae 0)) bJ) (fD (.str (sS "abcdefghijklmnopqrstuvwxyz"))) (aD .isin)))]) m4
def nO:=aN (iP (ly fT "line" (ae 0)) (.ex (ae 1)) (.ex (ly fT "at" (ae 0))))
def jS:=ai [nH,nW,nO]
def gO:Fn:=cW 2 jS
def JF:=bC (jy (aM (ae 0))) (ai [(sr "NoLine")]) (ai [])
def Eu:=ai [JF]
def fw:Fn:=cW 1 Eu
def rm:=aN (iP (ly fT "line" (ae 0)) (.ex (ly fT "at" (ae 0))) (.ex (ao (ly fT "at" (ae 0)) (ae 1) (binop .add))))
def kR:=ai [rm]
def cn:Fn:=cW 2 kR
def tc:=bY (cK 1 (aw [(ao (gW fm "FieldReader" "ahead" 2 (ae 0) (aw [(bW (aw [(ae 1)]) de)]) cn) (ae 1) (aD .eq))]) fw)
def tD:=mP fT "at" .add (ae 0) (bW (aw [(ae 1)]) de)
def ny:=ai [tc,tD]
def eB:Fn:=cW 2 ny
def nQ:=bY (gW gF "FieldReader" "eat" 2 (ae 0) (aw [(fD (.str (sS "'")))]) eB)
def nS:=aJ 1 (bU [])
def nr:=ai [(bY (cK 1 (aw [(ao (gW fm "FieldReader" "ahead" 2 (ae 0) (aw [(fD (.int 1))]) cn) (fD (.str (sS ""))) (aD .ne))]) fw)),(bY (fY "list" (ae 1) (aw [(gW fm "FieldReader" "ahead" 2 (ae 0) (aw [(fD (.int 1))]) cn)]) bAppend dZ)),(mP fT "at" .add (ae 0) (ao (fD (.int 1)) (bW (aw [(ao (gW fm "FieldReader" "ahead" 2 (ae 0) (aw [(fD (.int 1))]) cn) (fD (.str (sS "'"))) (aD .eq))]) xD) (binop .add)))]
def nT:=lZ ef (lU [(aM (ao (gW fm "FieldReader" "ahead" 2 (ae 0) (aw [(fD (.int 1))]) cn) (fD (.str (sS "'"))) (aD .ne))),(aM (ao (gW fm "FieldReader" "ahead" 2 (ae 0) (aw [(fD (.int 2))]) cn) (fD (.str (sS "''"))) (aD .eq)))]) nr
def n9:=bY (gW gF "FieldReader" "eat" 2 (ae 0) (aw [(fD (.str (sS "'")))]) eB)
def nN:=aN (fY "str" (fD (.str (sS ""))) (aw [(ae 1)]) qA ky)
def jT:=ai [nQ,nS,nT,n9,nN]
def gT:Fn:=cW 2 jT
def m8:=aJ 1 (gW fm "FieldReader" "next_name" 1 (ae 0) (aw []) gO)
def ni:=bY (gW gF "FieldReader" "eat" 2 (ae 0) (aw [(fD (.str (sS ":")))]) eB)
def nt:=aN (iG [(ae 1),(gW gF "FieldReader" "next_text" 1 (ae 0) (aw []) gT)])
def jC:=ai [m8,ni,nt]
def eF:Fn:=cW 2 jC
def Dg:=ao (ae 1) (fD (.str (sS "abcdefghijklmnopqrstuvwxyz"))) (aD .isin)
def ET:=aN (fN [(wI (fD (.int 0)) (bW (aw [(ae 0)]) de) (fD (.int 12)) (aD .lt) (aD .le)),(bW (aw [(jZ [1] (.nm 1) (sD (ae 0) itemsOf) eD Dg)]) GC)])
def AQ:=ai [ET]
def mY:Fn:=cW 2 AQ
def tf:=aJ 1 (fD (.str (sS "")))
def rZ:=ai [(bC (lU [(jy (aM (bh 1 (aw [(ae 3)]) mY))),(aM (ao (ae 3) (ae 1) (aD .le)))]) (ai [(vK "NoField" (ae 2))]) (ai [])),(aJ 1 (ae 3))]
def sL:=gD (.tp [(.nm 2),(.tp [(.nm 3),(.nm 4)])]) (sD (ae 0) p9) rZ
def nc:=ai [tf,sL]
def fU:Fn:=cW 5 nc
def wg:=bC (aM (ao (ae 0) (fD (.str (sS "none"))) (aD .eq))) (ai [(aN (bU []))]) (ai [])
def wq:=aJ 1 (KD fm "FieldReader" 2 (aw [(ae 0)]) hM)
def wj:=aJ 2 (bU [(gW gF "FieldReader" "next_field" 1 (ae 1) (aw []) eF)])
def uQ:=ai [(bY (gW gF "FieldReader" "eat" 2 (ae 1) (aw [(fD (.str (sS " ")))]) eB)),(bY (fY "list" (ae 2) (aw [(gW gF "FieldReader" "next_field" 1 (ae 1) (aw []) eF)]) bAppend dZ))]
def wt:=lZ ef (aM (ao (ly fT "at" (ae 1)) (bW (aw [(ae 0)]) de) (aD .lt))) uQ
def uw:=ai [(bY (cK 1 (aw [(ae 2)]) fU))]
def wd:=zH cM "NoField" uw (ai [(bY (cK 1 (aw [(fD (.bl false))]) fw))])
def wo:=aN (ae 2)
def qF:=ai [wg,wq,wj,wt,wd,wo]
def dU:Fn:=cW 3 qF
def Bi:=bY (cK 1 (aw [(fN [(wI (fD (.int 0)) (bW (aw [(ae 0)]) de) (fD (.int 60)) (aD .lt) (aD .le)),(mE [(ao (ao (ae 0) (fD (.int 0)) bJ) (fD (.str (sS "0"))) (aD .ne)),(ao (ae 0) (fD (.str (sS "0"))) (aD .eq))])])]) fw)
def zq:=ai [(bY (cK 1 (aw [(ao (ae 1) (fD (.str (sS "0123456789"))) (aD .isin))]) fw))]
def Bt:=gD (.nm 1) (sD (ae 0) itemsOf) zq
def Br:=aN (bW (aw [(ae 0)]) yC)
def wR:=ai [Bi,Bt,Br]
def iz:Fn:=cW 2 wR
def BB:=B5 (.tp [(.nm 2),(.nm 3),(.nm 4)]) (fY "str" (ae 0) (aw [(fD (.str (sS " ")))]) kU ky)
def Bo:=bC (aM (ao (ae 2) (fD (.str (sS "put"))) (aD .eq))) (ai [(aN (iG [(fD (.str (sS "put"))),(mT 1 (aw [(ae 4)]) dU)]))]) (ai [])
def Bz:=bC (aM (ao (ae 2) (fD (.str (sS "change"))) (aD .eq))) (ai [(B5 (.tp [(.nm 5),(.nm 3),(.nm 6)]) (fY "str" (ae 4) (aw [(fD (.str (sS " ")))]) kU ky)),(aN (iG [(fD (.str (sS "change"))),(cK 1 (aw [(ae 5)]) iz),(mT 1 (aw [(ae 6)]) dU)]))]) (ai [])
def Bl:=bC (aM (ao (ae 0) (bU [(fD (.str (sS "stamp"))),(fD (.str (sS "seal"))),(fD (.str (sS "thin")))]) (aD .isin))) (ai [(aN (iG [(ae 0)]))]) (ai [])
def BV:=bY (cK 1 (aw [(ao (ae 2) (bU [(fD (.str (sS "take"))),(fD (.str (sS "drop"))),(fD (.str (sS "pack"))),(fD (.str (sS "pour")))]) (aD .isin))]) fw)
def Aj:=cK 1 (aw [(ae 7)]) iz
def Bh:=aJ 1 (DY [7] (.nm 7) (sD (fY "str" (ae 4) (aw [(fD (.str (sS " ")))]) u0 ky) itemsOf) eD Aj)
def BF:=bY (cK 1 (aw [(ao (bW (aw [(ae 1)]) de) (ao (fD (.int 1)) (bW (aw [(ao (ae 2) (fD (.str (sS "pour"))) (aD .eq))]) xD) (binop .add)) (aD .eq))]) fw)
def Bp:=aN (bW (aw [(ao (bU [(ae 2)]) (ae 1) (binop .add))]) xS)
def wJ:=ai [BB,Bo,Bz,Bl,BV,Bh,BF,Bp]
def d4:Fn:=cW 8 wJ
def BQ:=aJ 1 (bU [])
def BK:=bC (aM (lg cM "NoField" (ae 0))) (ai [(aJ 1 (ao (ae 1) (bU [(fD (.str (sS "field"))),(Ld Ii (ae 0))]) (binop .add)))]) (ai [])
def BD:=bC (aM (lg cM "NoMake" (ae 0))) (ai [(aJ 1 (ao (ae 1) (bU [(fD (.str (sS "make"))),(Ld Ii (ae 0))]) (binop .add)))]) (ai [])
def BR:=bC (aM (lg cM "NoBytes" (ae 0))) (ai [(bY (fY "list" (ae 1) (aw [(fD (.str (sS "bytes")))]) bAppend dZ))]) (ai [])
def Bf:=bC (aM (lg cM "NoDocument" (ae 0))) (ai [(bY (fY "list" (ae 1) (aw [(fD (.str (sS "document")))]) bAppend dZ))]) (ai [])
def Bc:=bC (aM (lg cM "NoStamp" (ae 0))) (ai [(bY (fY "list" (ae 1) (aw [(fD (.str (sS "stamp")))]) bAppend dZ))]) (ai [])
def BM:=bC (aM (lg cM "NoPiece" (ae 0))) (ai [(bY (fY "list" (ae 1) (aw [(fD (.str (sS "piece")))]) bAppend dZ))]) (ai [])
def Bw:=bC (aM (lg cM "NoPattern" (ae 0))) (ai [(bY (fY "list" (ae 1) (aw [(fD (.str (sS "pattern")))]) bAppend dZ))]) (ai [])
def BJ:=bC (aM (lg cM "NoLine" (ae 0))) (ai [(bY (fY "list" (ae 1) (aw [(fD (.str (sS "line")))]) bAppend dZ))]) (ai [])
def BI:=bC (aM (lg cM "NoText" (ae 0))) (ai [(bY (fY "list" (ae 1) (aw [(fD (.str (sS "text")))]) bAppend dZ))]) (ai [])
def zO:=bC (iL [(aM (ao (ae 0) (fD .non) (aD .isn))),(jy (aM (lg cM "ValueError" (ae 0))))]) (ai [(bY (fY "list" (ae 1) (aw [(fD (.str (sS "no value")))]) bAppend dZ))]) (ai [])
def Ac:=bC (iL [(aM (ao (bW (aw [(ae 1)]) de) (fD (.int 2)) (aD .eq))),(aM (gP "bool" (ao (ae 1) (fD (.int 1)) bJ)))]) (ai [(bY (fY "list" (ae 1) (aw [(fD (.str (sS "truth")))]) bAppend dZ))]) (ai [])
def y0:=aN (ae 1)
def wF:=ai [BQ,BK,BD,BR,Bf,Bc,BM,Bw,BJ,BI,zO,Ac,y0]
def eP:Fn:=cW 2 wF
def xu:=aJ 1 (fD .non)
def gu:=ai [(bY (mT 1 (aw [(ae 0)]) d4))]
def du:=i6 cM "FindError" 2 1 gu
def dy:=aN (bh 1 (aw [(ae 1)]) eP)
def mj:=ai [xu,du,dy]
def dG:Fn:=cW 3 mj
def dD(rec:Fn):=bC (aM (gP "str" (ae 1))) (ai [(aN (fN [(gP "str" (ae 0)),(ao (ae 0) (ae 1) (aD .eq))]))]) (ai [])
def fF(rec:Fn):=bC (aM (gP "int" (ae 1))) (ai [(aN (fN [(gP "int" (ae 0)),(B7 (gP "bool" (ae 0))),(ao (ae 0) (ae 1) (aD .eq))]))]) (ai [])
def iN(rec:Fn):=bC (aM (gP "list" (ae 1))) (ai [(bC (jy (aM (gP "list" (ae 0)))) (ai [(aN (fD (.bl false)))]) (ai []))]) (ai [(bC (jy (aM (gP "tuple" (ae 0)))) (ai [(aN (fD (.bl false)))]) (ai []))])
def iR(rec:Fn):=bC (aM (ao (bW (aw [(ae 0)]) de) (bW (aw [(ae 1)]) de) (aD .ne))) (ai [(aN (fD (.bl false)))]) (ai [])
def ip(rec:Fn):=ai [(bC (jy (aM (qG 2 (aw [(ao (ae 0) (ae 2) bJ),(ao (ae 1) (ae 2) bJ)]) rec))) (ai [(aN (fD (.bl false)))]) (ai []))]
def iF(rec:Fn):=gD (.nm 2) (gV (aw [(bW (aw [(ae 1)]) de)]) fL) (ip rec)
def iJ(rec:Fn):=aN (fD (.bl true))
def gQ(rec:Fn):=ai [(dD rec),(fF rec),(iN rec),(iR rec),(iF rec),(iJ rec)]
def bj:Nat→Fn
 | 0=>fun _ _=>.stuck
 | k+1=>cW 3 (gQ (bj k))
def zd:=aN (ao (ao (ao (ae 0) (fD (.str (sS ":'"))) (binop .add)) (yJ 1 (sS "'") (sS "''")) (binop .add)) (fD (.str (sS "'"))) (binop .add))
def uJ:=ai [zd]
def jQ:Fn:=cW 2 uJ
def wx:=bC (aM (ao (bW (aw [(ae 0)]) de) (fD (.int 0)) (aD .eq))) (ai [(aN (fD (.str (sS "none"))))]) (ai [])
def uD:=bh 2 (aw [(ae 1),(ae 2)]) jQ
def wm:=aN (fY "str" (fD (.str (sS " "))) (aw [(jZ [1,2] (.tp [(.nm 1),(.nm 2)]) (sD (ae 0) itemsOf) eD uD)]) qA ky)
def rf:=ai [wx,wm]
def il:Fn:=cW 3 rf
def BW:=aJ 1 (bU [(ao (ae 0) (fD (.int 0)) bJ)])
def zA:=ai [(bC (aM (gP "list" (ae 2))) (ai [(bY (fY "list" (ae 1) (aw [(bh 1 (aw [(ae 2)]) il)]) bAppend dZ))]) (ai [(bY (fY "list" (ae 1) (aw [(bW (aw [(ae 2)]) xP)]) bAppend dZ))]))]
def Bk:=gD (.nm 2) (sD (iP (ae 0) (.ex (fD (.int 1))) .no) itemsOf) zA
def BZ:=aN (fY "str" (fD (.str (sS " "))) (aw [(ae 1)]) qA ky)
def wN:=ai [BW,Bk,BZ]
def kg:Fn:=cW 3 wN
def MX:=aJ 1 (yB (bh 3 (aw [(ae 0),(fD (.int 2)),(fD (.int 70))]) iK))
def mn:=bh 1 (aw [(ae 1)]) bp
def Mf:=aJ 2 (bh 2 (aw [(bh 1 (aw [(bh 2 (aw [(ae 0),(ae 1)]) gJ)]) gI),(yB (jZ [5] (.nm 5) (gV (aw [(fD (.int 3))]) fL) eD mn))]) jm)
def vP:=aJ 3 (bh 1 (aw [(ae 2)]) iM)
def vR:=bC (aM (ao (ae 3) (fD .non) (aD .is))) (ai [(aN (ao (cK 1 (aw [(ae 2)]) dG) (bU [(fD (.str (sS "line")))]) (aD .eq)))]) (ai [])
def wb:=bC (aM (ao (cK 1 (aw [(ae 2)]) dG) (bU []) (aD .ne))) (ai [(aN (fD (.bl false)))]) (ai [])
def vM:=aJ 4 (mT 1 (aw [(ae 2)]) d4)
def vO:=aN (fN [(x6 6 2 (aw [(ae 4),(ae 3)]) (bj 8)),(ao (bh 1 (aw [(ae 4)]) kg) (ae 2) (aD .eq))])
def G3:=ai [MX,Mf,vP,vR,wb,vM,vO]
def xK:Fn:=cW 6 G3
end K34
namespace Sh
open PySem L2 PyProof.Rows Vw
def pH:State→Res Fl:=(bC (aM (ao (ae 0) (bU []) (aD .eq))) (ai [(aN (fD (.int 0)))]) (ai []))
def p4:State→Res Fl:=(aN (fY "list" (ae 0) (aw []) zo dZ))
def oE:State→Res Fl:=(ai [pH,p4])
def bp:Fn:=cW 1 oE
def y5:State→Res Fl:=(aN (fD (.str (sS " !\"#$&'()*+,-./0123456789:;<=>?@ABCDEFGHIJKLMNOPQRSTUVWXYZ[\\]^_`abcdefghijklmnopqrstuvwxyz{|}~"))))
def CN:State→Res Fl:=(ai [y5])
def Ex:Fn:=cW 0 CN
def nU:State→Res Fl:=(aJ 2 (bh 1 (aw [(ae 0)]) bp))
def nY:State→Res Fl:=(aJ 3 (fD (.str (sS ""))))
def l8:State→Res Fl:=(ai [(aJ 5 (bh 1 (aw [(ae 0)]) bp)),(aJ 6 (ao (bU [(bh 0 (aw []) Ex),(fD (.str (sS "abA19 "))),(fD (.str (sS "abzAZ09 ' ")))]) (ao (ae 5) (fD (.int 3)) (binop .mod)) bJ)),(aJ 3 (ao (ae 3) (ao (ae 6) (ao (ao (ae 5) (fD (.int 3)) (binop .fdiv)) (bW (aw [(ae 6)]) de) (binop .mod)) bJ) (binop .add)))])
def nP:State→Res Fl:=(gD (.nm 4) (gV (aw [(ao (ae 2) (ao (ae 1) (fD (.int 1)) (binop .add)) (binop .mod))]) fL) l8)
def n3:State→Res Fl:=(aN (ae 3))
def mM:State→Res Fl:=(ai [nU,nY,nP,n3])
def jl:Fn:=cW 7 mM
def mx:State→Res Fl:=(aJ 3 (ao (iP (ae 0) .no (.ex (fD (.int 63)))) (bU [(ae 1)]) (binop .add)))
def mz:State→Res Fl:=(aJ 4 (bU []))
def lI:State→Res RV:=(ao (ae 10) (fD (.int 100000)) (binop .fdiv))
def lb:State→Res Fl:=(ai [(aJ 9 (ao (ae 5) (bW (aw [(ae 6)]) de) (binop .mod))),(bC (aM (ao (ae 5) (ae 1) (aD .ge))) (ai [(bY (fY "list" (ae 4) (aw [(ao (ao (ae 6) (ae 9) bJ) (fD (.int 2147483587)) (binop .mod))]) bAppend dZ))]) (ai [])),(yY (ae 6) (ae 9) (ao (ao (ae 6) (ae 9) bJ) (fD (.int 2147483587)) (binop .fdiv)))])
def mu:State→Res Fl:=(bC (aM (ao (ao (ao (ao (ae 3) (fD (.int 0)) bJ) (fD (.int 50000)) (binop .fdiv)) (fD (.int 2)) (binop .mod)) (fD (.int 1)) (aD .eq))) (ai [(aJ 6 (jZ [10] (.nm 10) (sD (ae 3) itemsOf) eD lI)),(gD (.nm 5) (gV (aw [(ao (ae 1) (ae 2) (binop .add))]) fL) lb),(aN (ae 4))]) (ai []))
def kP:State→Res Fl:=(ai [(aJ 7 (ao (ao (ao (ao (ae 5) (ae 1) (binop .add)) (ao (ae 5) (ae 1) (binop .add)) (binop .mul)) (fD (.int 7919)) (binop .mul)) (fD (.int 104729)) (binop .add))),(aJ 8 (ao (ao (ao (ao (ao (ae 3) (ao (ae 5) (bW (aw [(ae 3)]) de) (binop .mod)) bJ) (fD (.int 2147483647)) (binop .mod)) (ae 7) (binop .add)) (fD (.int 48271)) (binop .mul)) (fD (.int 2147483647)) (binop .mod))),(aJ 8 (ao (ao (ao (ae 8) (ae 8) (binop .mul)) (ao (fD (.int 69621)) (ae 5) (binop .mul)) (binop .add)) (fD (.int 2147483629)) (binop .mod))),(bY (fY "list" (ae 4) (aw [(ao (ao (ae 8) (ae 8) (binop .mul)) (fD (.int 2147483587)) (binop .mod))]) bAppend dZ))])
def l9:State→Res Fl:=(gD (.nm 5) (gV (aw [(ae 2)]) fL) kP)
def my:State→Res Fl:=(aN (ae 4))
def lK:State→Res Fl:=(ai [mx,mz,mu,l9,my])
def iK:Fn:=cW 11 lK
def dD(rec:Fn):State→Res Fl:=(bC (aM (gP "str" (ae 1))) (ai [(aN (fN [(gP "str" (ae 0)),(ao (ae 0) (ae 1) (aD .eq))]))]) (ai []))
def fF(rec:Fn):State→Res Fl:=(bC (aM (gP "int" (ae 1))) (ai [(aN (fN [(gP "int" (ae 0)),(B7 (gP "bool" (ae 0))),(ao (ae 0) (ae 1) (aD .eq))]))]) (ai []))
def iN(rec:Fn):State→Res Fl:=(bC (aM (gP "list" (ae 1))) (ai [(bC (jy (aM (gP "list" (ae 0)))) (ai [(aN (fD (.bl false)))]) (ai []))]) (ai [(bC (jy (aM (gP "tuple" (ae 0)))) (ai [(aN (fD (.bl false)))]) (ai []))]))
def iR(rec:Fn):State→Res Fl:=(bC (aM (ao (bW (aw [(ae 0)]) de) (bW (aw [(ae 1)]) de) (aD .ne))) (ai [(aN (fD (.bl false)))]) (ai []))
def ip(rec:Fn):State→Res Fl:=(ai [(bC (jy (aM (qG 2 (aw [(ao (ae 0) (ae 2) bJ),(ao (ae 1) (ae 2) bJ)]) rec))) (ai [(aN (fD (.bl false)))]) (ai []))])
def iF(rec:Fn):State→Res Fl:=(gD (.nm 2) (gV (aw [(bW (aw [(ae 1)]) de)]) fL) (ip rec))
def iJ(rec:Fn):State→Res Fl:=(aN (fD (.bl true)))
def gQ(rec:Fn):State→Res Fl:=(ai [(dD rec),(fF rec),(iN rec),(iR rec),(iF rec),(iJ rec)])
def bj:Nat→Fn
 | 0=>fun _ _=>.stuck
 | k+1=>cW 3 (gQ (bj k))
@[simp] theorem T1(a b:List D)(s:State):sG (.val (.d (.lst a))) (.val (.d (.lst b))) s=(if a.length+b.length≤sizeLine then .ok (.new (.lst (a.map .d++b.map .d))) s else .stuck):=by
 show(if(a.map Val.d).length+(b.map Val.d).length≤sizeLine then _ else _)=_
 rw[List.length_map,List.length_map]
@[simp] theorem LV(a b:List Nat)(s:State):sG (.val (.d (.str a))) (.val (.d (.str b))) s=(if a.length+b.length≤sizeLine then .ok (.val (.d (.str (a++b)))) s else .stuck):=id rfl
theorem Ih{α:Type}(l:List α)(b:Nat):cz l none (some (b:Int))=l.take b:=by
 have h:=sU l 0 b
 simpa [cz,HT.sIx]using h
theorem FI{n:Nat}{i:Int}(h0:0≤i)(h1:i<n):ixN n i=some i.toNat:=by
 unfold ixN
 rw[if_pos h0,if_pos h1]
@[simp] theorem TV(l:List D):fH (.lst l) (.lst [])=l.isEmpty:=by
 show PyData.eqv (.list (dS l)) (.list (dS []))=_
 cases l<;> simp[dS,PyData.eqv,PyData.eqvAll]
theorem QQ{a b x:D}{g:Vw.Fn}{s s1 s2:State}{ra rb:RV}{fs:State→Res (List RV)}(h:fs s=.ok [ra,rb] s1)(h1:Cp s1 ra=some a)(h2:Cp s1 rb=some b)(hg:g [.d a,.d b] []=.ok (.val (.d x)) s2)(hx:scal x=true):
  qG 2 fs g s=.ok (.val (.d x)) s1:=by
 have e:rD s1 [ra,rb]=some [a,b]:=by simp[rD,h1,h2]
 unfold qG
 rw[h,Res.aa,e]
 have e2:g ([a,b].map Val.d) []=.ok (.val (.d x)) s2:=hg
 simp only[e2,hx,List.length_cons,List.length_nil,if_true]
mutual
def m5:D→Bool
 | .int _=>true
 | .str _=>true
 | .tup l=>decide (l.length≤100000)&&kX l
 | .lst l=>decide (l.length≤100000)&&kX l
 | _=>false
def kX:List D→Bool
 | []=>true
 | x::r=>m5 x&&kX r
end
theorem xg:∀ {l:List D} {k:Nat} (h:k<l.length),kX l=true→m5 l[k]=true
 | x::r,0,h,p=>by
  have p:m5 x=true∧kX r=true:=by simpa [kX]using p
  exact p.1
 | x::r,k+1,h,p=>by
  have p:m5 x=true∧kX r=true:=by simpa [kX]using p
  exact xg (l:=r) (by simpa using h) p.2
theorem xB:∀ {n:Nat} {l:List D} {k:Nat} (h:k<l.length),fB n l=true→fG n l[k]=true
 | n,x::r,0,h,p=>by
  have p:fG n x=true∧fB n r=true:=by simpa [fB]using p
  exact p.1
 | n,x::r,k+1,h,p=>by
  have p:fG n x=true∧fB n r=true:=by simpa [fB]using p
  exact xB (l:=r) (by simpa using h) p.2
theorem FC(rec:Vw.Fn)(d:D)(l:List D)(hd:d=.lst l∨d=.tup l)(hr:∀ k (h:k<l.length),∃ s,rec [.d l[k],.d l[k]] []=.ok (.val (.d (.bl true))) s):∀ (ks:List Nat) (x2:Option Sl),(∀ k∈ks,k<l.length)→
  ∃ y2,jB (.nm 2) (ip rec) (ks.map fun(k:Nat)=>vI k) ⟨[sd d,sd d,x2],[]⟩=.ok .nx ⟨[sd d,sd d,y2],[]⟩
 | [],x2,_=>⟨x2,rfl⟩
 | k::ks,x2,h=>by
  have hk:=h k (by simp)
  obtain⟨s,hs⟩:=hr k hk
  have hat:atI l (k:Int)=some l[k]:=by rw[so (by omega) (by omega)];simp[hk]
  have hev:aw [(ao (ae 0) (ae 2) bJ),(ao (ae 1) (ae 2) bJ)] ⟨[sd d,sd d,si k],[]⟩=.ok [.val (.d l[k]),.val (.d l[k])] ⟨[sd d,sd d,si k],[]⟩:=by
   rcases hd with rfl | rfl<;> simp[hat]
  have hl:=QQ (g:=rec) hev (a:=l[k]) (b:=l[k]) (by rfl) (by rfl) hs rfl
  have hT:jy (aM (qG 2 (aw [(ao (ae 0) (ae 2) bJ),(ao (ae 1) (ae 2) bJ)]) rec)) ⟨[sd d,sd d,si k],[]⟩=.ok false ⟨[sd d,sd d,si k],[]⟩:=by
   rw[GS,Gi,rp,hl]
   simp
  have key:ip rec ⟨[sd d,sd d,si k],[]⟩=.ok .nx ⟨[sd d,sd d,si k],[]⟩:=by
   have:bC (jy (aM (qG 2 (aw [(ao (ae 0) (ae 2) bJ),(ao (ae 1) (ae 2) bJ)]) rec))) (ai [(aN (fD (.bl false)))]) (ai []) ⟨[sd d,sd d,si k],[]⟩=.ok .nx ⟨[sd d,sd d,si k],[]⟩:=by
    rw[Eg,hT,Res.aa,if_neg (by simp),HA]
   exact(jc this).trans (HA _)
  obtain⟨y2,e⟩:=FC rec d l hd hr ks (si k) fun k hk=>h k (by simp[hk])
  refine⟨y2,?_⟩
  simp only[List.map_cons,CL,OK,List.set_cons_zero,List.set_cons_succ]
  rw[key,Ai,e]
theorem AA(n:Nat)(d:D)(l:List D)(hd:d=.lst l∨d=.tup l)(hz:l.length≤100000)(hr:∀ k (h:k<l.length),∃ s,bj n [.d l[k],.d l[k]] []=.ok (.val (.d (.bl true))) s):
  ∃ s,bj (n+1) [.d d,.d d] []=.ok (.val (.d (.bl true))) s:=by
 generalize hg:bj n=rec at hr
 obtain⟨y2,e⟩:=FC rec d l hd hr (List.range l.length) none fun k hk=>List.mem_range.mp hk
 have hlen:∀ x2,aw [(bW (aw [(ae 1)]) de)] ⟨[sd d,sd d,x2],[]⟩=.ok [.val (.d (.int l.length))] ⟨[sd d,sd d,x2],[]⟩:=fun x2=>by
  rcases hd with rfl | rfl<;> simp
 have t0:dD rec ⟨[sd d,sd d,none],[]⟩=.ok .nx ⟨[sd d,sd d,none],[]⟩:=by
  rcases hd with rfl | rfl<;> simp[dD,tq]
 have t1:fF rec ⟨[sd d,sd d,none],[]⟩=.ok .nx ⟨[sd d,sd d,none],[]⟩:=by
  rcases hd with rfl | rfl<;> simp[fF,tq]
 have t2:iN rec ⟨[sd d,sd d,none],[]⟩=.ok .nx ⟨[sd d,sd d,none],[]⟩:=by
  rcases hd with rfl | rfl<;> simp[iN,tq]
 have t3:iR rec ⟨[sd d,sd d,none],[]⟩=.ok .nx ⟨[sd d,sd d,none],[]⟩:=by
  rcases hd with rfl | rfl<;> simp[iR]
 have t4:iF rec ⟨[sd d,sd d,none],[]⟩=.ok .nx ⟨[sd d,sd d,y2],[]⟩:=by
  have hsrc:gV (aw [(bW (aw [(ae 1)]) de)]) fL ⟨[sd d,sd d,none],[]⟩=.ok ((List.range l.length).map fun(k:Nat)=>vI k) ⟨[sd d,sd d,none],[]⟩:=by
   rw[NR,hlen,Res.aa,N5,Ip (by omega)]
  rw[iF,GG,hsrc,Res.aa,e]
 have t5:iJ rec ⟨[sd d,sd d,y2],[]⟩=.ok (.ret (.val (.d (.bl true)))) ⟨[sd d,sd d,y2],[]⟩:=by simp[iJ]
 have hS:=(jc t0).trans ((jc t1).trans ((jc t2).trans ((jc t3).trans ((jc t4).trans (rP (r:=[]) t5)))))
 refine⟨⟨[],[]⟩,?_⟩
 rw[bj,hg]
 exact Gy (n:=3) (b:=gQ rec) (args:=[.d d,.d d]) (st:=[]) rfl hS rfl
theorem yw(n:Nat)(d:D)(hd:(∃ i,d=.int i)∨∃ t,d=.str t):∃ s,bj (n+1) [.d d,.d d] []=.ok (.val (.d (.bl true))) s:=by
 generalize hg:bj n=rec
 have hp:fh d=true∧fG 0 d=true:=by rcases hd with⟨i,rfl⟩ | ⟨t,rfl⟩<;> exact⟨rfl,rfl⟩
 have heq:=JW 0 (by omega) hp.1 hp.2
 rcases hd with⟨i,rfl⟩ | ⟨t,rfl⟩
 ·have t0:dD rec ⟨[sd (.int i),sd (.int i),none],[]⟩=.ok .nx ⟨[sd (.int i),sd (.int i),none],[]⟩:=by simp[dD,tq]
  have t1:fF rec ⟨[sd (.int i),sd (.int i),none],[]⟩=.ok (.ret (.val (.d (.bl true)))) ⟨[sd (.int i),sd (.int i),none],[]⟩:=by simp[fF,tq,B7]
  refine⟨⟨[],[]⟩,?_⟩
  rw[bj,hg]
  exact Gy (n:=3) (b:=gQ rec) (args:=[.d (.int i),.d (.int i)]) (st:=[]) rfl ((jc t0).trans (rP t1)) rfl
 ·have t0:dD rec ⟨[sd (.str t),sd (.str t),none],[]⟩=.ok (.ret (.val (.d (.bl true)))) ⟨[sd (.str t),sd (.str t),none],[]⟩:=by simp[dD,tq,Cd,heq]
  refine⟨⟨[],[]⟩,?_⟩
  rw[bj,hg]
  exact Gy (n:=3) (b:=gQ rec) (args:=[.d (.str t),.d (.str t)]) (st:=[]) rfl (rP t0) rfl
theorem alike:∀ (n:Nat) (d:D),m5 d=true→fG n d=true→∃ s,bj (n+1) [.d d,.d d] []=.ok (.val (.d (.bl true))) s
 | n,.int i,_,_=>yw n _ (.inl ⟨i,rfl⟩)
 | n,.str t,_,_=>yw n _ (.inr ⟨t,rfl⟩)
 | 0,.lst l,_,h=>by simp[fG]at h
 | 0,.tup l,_,h=>by simp[fG]at h
 | n+1,.lst l,p,h=>by
  have p:l.length≤100000∧kX l=true:=by simpa [m5]using p
  have h:fB n l=true:=by simpa [fG]using h
  exact AA (n+1) _ l (.inl rfl) p.1 fun k hk=>alike n l[k] (xg hk p.2) (xB hk h)
 | n+1,.tup l,p,h=>by
  have p:l.length≤100000∧kX l=true:=by simpa [m5]using p
  have h:fB n l=true:=by simpa [fG]using h
  exact AA (n+1) _ l (.inr rfl) p.1 fun k hk=>alike n l[k] (xg hk p.2) (xB hk h)
 | n,.non,p,_=>by simp[m5]at p
 | n,.bl _,p,_=>by simp[m5]at p
 | n,.dic _,p,_=>by simp[m5]at p
 | n,.dit _,p,_=>by simp[m5]at p
 | n,.ins _ _,p,_=>by simp[m5]at p
end Sh
namespace Vw
open PySem L2 PyProof.Rows
def DK(sg:Slots)(r:Res RV):Res RV:=
 match r with
 | .ok r s2=>.ok r ⟨sg,s2.st⟩
 | .exc x s2=>.exc x ⟨sg,s2.st⟩
 | .stuck=>.stuck
def Ot(N:List String)(T:String)(i j:Nat)(r:Res Fl):Res Fl:=
 match r with
 | .exc x s=>match jz N x.c T with
  | some true=>.ok .nx { s with sg:=((s.sg.set i none).set j (some (.v (.d (G9 x))))).set i none }
  | some false=>.exc x s
  | none=>.stuck
 | r=>r
def Aq(r:Res Fl):Res Fl:=
 match r with
 | .ok .cnt s=>.ok .nx s
 | r=>r
def Ue(t:Tg)(b:State→Res Fl)(v:Val)(s:State):Res Fl:=
 match gE t v s with
 | some s=>Aq (b s)
 | none=>.stuck
section
variable(sg:Slots)(st:List Ob)(s s':State)(i j n:Nat)(d d':D)(x y:Val)(o:Ob)(f g h fa fb fc fo:State→Res RV)(fs:State→Res (List RV))(r r':RV)(N:List String)(T c:String)(e:Exn)(k:Fl)(gg:Fn)(b:State→Res Fl)(t:Tg)(args:List Val)
@[simp] theorem RO:DK sg (.ok r s)=.ok r ⟨sg,s.st⟩:=id rfl
@[simp] theorem P7:DK sg (.exc e s)=.exc e ⟨sg,s.st⟩:=id rfl
@[simp] theorem TJ:gF gg args ⟨sg,st⟩=DK sg (gg args st):=id rfl
@[simp] theorem SA:cK n fs gg s=(fs s).bind fun rs s=>(bc rs s).bind fun args s=>if args.length=n then gF gg args s else .stuck:=id rfl
@[simp] theorem TX:sr c s=.exc ⟨c,none⟩ s:=id rfl
@[simp] theorem SD:vK c f s=(ev f s).bind fun r s=>match cf r s with
 | .ok (.d x) s=>.exc ⟨c,some x⟩ s
 | _=>.stuck:=id rfl
@[simp] theorem R0:i6 N T i j b s=Ot N T i j (b s):=id rfl
@[simp] theorem TU:Ot N T i j (.ok k s)=.ok k s:=id rfl
@[simp] theorem Vl:lg N T f s=(ev f s).bind fun r s=>match dv s r with
 | some (.exc c _)=>(match jz N c T with
  | some b=>aS (.bl b) s
  | none=>.stuck)
 | some .non=>aS (.bl false) s
 | _=>.stuck:=id rfl
@[simp] theorem VB:Ld N f s=(ev f s).bind fun r s=>match dv s r with
 | some (.exc c [p])=>if N.contains c then aS p s else .stuck
 | _=>.stuck:=id rfl
@[simp] theorem U1:SX r r' s=(match dv s r,dv s r' with
 | some (.bl a),some (.bl b)=>aS (.bl (decide (a=b))) s
 | _,_=>.stuck):=id rfl
@[simp] theorem Tw:QW r r' s=(match dv s r,dv s r' with
 | some (.bl a),some (.bl b)=>aS (.bl (!decide (a=b))) s
 | _,_=>.stuck):=id rfl
@[simp] theorem Ub:Sn r r' s=(match lv s r,dv s r' with
 | some l,some (.int k)=>if-(2^63)≤k∧k<2^63∧l.length*k.toNat≤sizeLine then .ok (.new (.lst (List.replicate k.toNat l).flatten)) s else .stuck
 | _,_=>.stuck):=id rfl
@[simp] theorem U2:Qc f s=(ev f s).bind fun r s=>match dv s r with
 | some (.str t)=>if t.length≤sizeLine then aS (.str t.reverse) s else .stuck
 | _=>match lv s r with
  | some l=>.ok (.new (.lst l.reverse)) s
  | none=>.stuck:=id rfl
@[simp] theorem US:El s (.val (.d d))=(match d with
 | .non=>some "NoneType" | .bl _=>some "bool" | .int _=>some "int" | .str _=>some "str" | .lst _=>some "list" | .tup _=>some "tuple" | .dic _=>some "dict" | _=>none):=by cases d<;> rfl
@[simp] theorem Uz:qA r [r'] s=(match dv s r,(sq s r').bind strsOf with
  | some (.str a),some ys=>if(ys.map (·.length)).sum+ys.length*a.length≤16777216 then aS (.str (tA a ys)) s else .stuck
  | _,_=>.stuck):=id rfl
@[simp] theorem Uc:ij .isin s (.val (.d (.str a))) (.val (.d (.str b')))=some (subIn a b'):=id rfl
@[simp] theorem TC:ij .notin s r r'=(inD s r r').map not:=id rfl
@[simp] theorem Ur:ij .isin s r r'=inD s r r':=id rfl
@[simp] theorem UD(a b:List Nat):inD s (.val (.d (.str a))) (.val (.d (.str b)))=some (subIn a b):=id rfl
@[simp] theorem UC:ij .isn s (.val (.d d)) (.val (.d .non))=some (match d with | .non=>false | _=>true):=by cases d<;> rfl
@[simp] theorem Vn:ij .is s (.val (.d d)) (.val (.d .non))=some (match d with | .non=>true | _=>false):=by cases d<;> rfl
@[simp] theorem Vi(s:State)(r:RV):ky s r=(match dv s r with | some (.str _)=>true | _=>false):=id rfl
@[simp] theorem UI(o x:List Nat)(s:State):bIndex (.val (.d (.str o))) [.val (.d (.str x))] s=(match Builtin.Str.occurrences (Vw.st o) (Vw.st x) 0 o.length 1 with | i::_=>.ok (.val (.d (.int (i:Nat)))) s | []=>.stuck):=id rfl
@[simp] theorem Tv(a:List Nat)(j:Int):zT (.val (.d (.str a))) (.val (.d (.int j))) s=if 0≤j∧j<1000000∧a.length*j.toNat≤1000000 then aS (.str (List.replicate j.toNat a).flatten) s else .stuck:=id rfl
@[simp] theorem T5:Aq (.ok .nx s)=.ok .nx s:=id rfl
@[simp] theorem Th:Aq (.ok .cnt s)=.ok .nx s:=id rfl
@[simp] theorem R6:Aq (.ok (.ret r) s)=.ok (.ret r) s:=id rfl
@[simp] theorem Sd:Aq (.exc e s)=.exc e s:=id rfl
@[simp] theorem Vq(v:Val):Ue t b v s=(match gE t v s with | some s=>Aq (b s) | none=>.stuck):=id rfl
end
@[simp] theorem Vy(s:State)(a b:List Nat):yS s (.val (.d (.str a))) (.val (.d (.str b)))=some (decide (a=b)):=by
 show(if fK (.str a) (.str b)then some (fH (.str a) (.str b))else none)=_
 rw[if_pos (by rfl)]
 show some (Vw.st a==Vw.st b)=_
 by_cases h:a=b
 ·subst h;simp
 ·have h':Vw.st a≠Vw.st b:=fun z=>h (by
   have:=congrArg (fun x:Str=>x.cps.toList) z
   simpa [Vw.st]using this)
  have:(Vw.st a==Vw.st b)=false:=beq_eq_false_iff_ne.mpr h'
  rw[this];simp[h]
def Jf(vs:List Nat)(r:Res Val):Res (Option Val):=
 match r with
 | .ok y s=>.ok (some y) (bG vs s)
 | _=>.stuck
def Rh(vs:List Nat)(t:Tg)(ft:State→Res Bool)(fe:State→Res RV)(v:Val)(s:State):Res (Option Val):=
 match gE t v (bG vs s)with
 | none=>.stuck
 | some s=>(ft s).bind fun b s=>if b=true then(fe s).bind fun r s=>Jf vs (cf r s)else .ok none (bG vs s)
@[simp] theorem TF(vs:List Nat)(t:Tg)(ft:State→Res Bool)(fe:State→Res RV)(v:Val)(s:State):Rh vs t ft fe v s=(match gE t v (bG vs s)with
 | none=>.stuck
 | some s=>(ft s).bind fun b s=>if b=true then(fe s).bind fun r s=>Jf vs (cf r s)else .ok none (bG vs s)):=id rfl
@[simp] theorem Tz(vs:List Nat)(y:Val)(s:State):Jf vs (.ok y s)=.ok (some y) (bG vs s):=id rfl
theorem E1(i j:Int):fH (.int i) (.int j)=decide (i=j):=by
 show(i==j)=_
 by_cases h:i=j<;> simp[h]
theorem FE(a b:List Nat):fH (.str a) (.str b)=decide (a=b):=by
 show(Vw.st a==Vw.st b)=_
 by_cases h:a=b
 ·subst h;simp
 ·have h':Vw.st a≠Vw.st b:=fun z=>h (by
   have:=congrArg (fun x:Str=>x.cps.toList) z
   simpa [Vw.st]using this)
  rw[beq_eq_false_iff_ne.mpr h'];simp[h]
theorem OX(a b:Bool):fH (.bl a) (.bl b)=decide (a=b):=by cases a<;> cases b<;> rfl
def rF(l:List D)(x:D):Option Bool:=if(pd x).plain&&PyData.plainAll (dS l)&&decide (min (PyData.depthAll (dS l)) (pd x).depth≤60)then some (l.any fun y=>fH y x)else none
def y6(m:List Val)(x:D):Option Bool:=(toDs m).bind fun l=>rF l x
theorem xf{α:Type}[DecidableEq α](F:α→D)(l:List α)(x:α)(p:∀ y,fh (F y)=true)(q:∀ y,fG 40 (F y)=true)(e:∀ y z,fH (F y) (F z)=decide (y=z)):rF (l.map F) (F x)=some (decide (x∈l)):=by
 unfold rF
 have h1:=o8 F l (fun y _=>p y)
 have h2:=rQ 40 _ h1 (pJ 40 F l fun y _=>q y)
 have h3:=uB 40 _ (p x) (q x)
 rw[if_pos (by simp[vY _ (p x),sy _ h1];omega)]
 congr 1
 induction l with
 | nil=>rfl
 | cons a l ih=>
  have h1':=o8 F l (fun y _=>p y)
  rw[List.map_cons,List.any_cons,ih h1' (rQ 40 _ h1' (pJ 40 F l fun y _=>q y)),e]
  by_cases h:a=x
  ·simp[h]
  ·have h':¬ x=a:=fun z=>h z.symm
   simp[h,h']
@[simp] theorem JN(l:List Int)(i:Int):rF (l.map .int) (.int i)=some (decide (i∈l)):=(xf D.int l i (fun _=>rfl) (fun _=>rfl) E1).trans (by congr)
@[simp] theorem Td(l:List (List Nat))(i:List Nat):rF (l.map .str) (.str i)=some (decide (i∈l)):=(xf D.str l i (fun _=>rfl) (fun _=>rfl) FE).trans (by congr)
@[simp] theorem TZ(l:List Bool)(i:Bool):rF (l.map .bl) (.bl i)=some (decide (i∈l)):=(xf D.bl l i (fun _=>rfl) (fun _=>rfl) OX).trans (by congr)
@[simp] theorem T4(l:List Int)(i:Int):y6 (l.map vI) (.int i)=some (decide (i∈l)):=by
 unfold y6;rw[toDs_vI];exact JN l i
@[simp] theorem UE(l:List D)(i:D):y6 (l.map .d) i=rF l i:=by
 unfold y6;rw[toDs_map];rfl
def Ts(s:State)(x:RV)(j:Nat):Option Bool:=inD s x (.own j)
@[simp] theorem Uq(s:State)(x:D)(l:List D):inD s (.val (.d x)) (.val (.d (.lst l)))=rF l x:=by
 cases x<;> rfl
@[simp] theorem UA(sg:Slots)(st:List Ob)(x:D)(j:Nat):inD ⟨sg,st⟩ (.val (.d x)) (.own j)=(match sg[j]? with | some (some (.own (.lst m)))=>y6 m x | some (some (.v (.d (.lst l))))=>rF l x | _=>Ts ⟨sg,st⟩ (.val (.d x)) j):=by
 split
 ·rename_i m e
  unfold inD mq oj wV
  simp only[GJ,Cb,rl,e,PD]
  unfold y6
  cases e3:toDs m with
  | none=>cases x<;> simp
  | some l=>cases x<;> simp[rF]
 ·rename_i l e
  unfold inD mq oj wV
  simp only[GJ,Cb,rl,e,PD]
  cases x<;> rfl
 ·rfl
theorem jV(c:Nat)(t:List Nat):subIn [c] t=decide (c∈t):=by
 have:=PySem.StrLaws.found_one (Vw.st t) c
 unfold subIn
 have e:(Vw.st t).length=t.length:=by simp[Vw.st,Str.length]
 rw[←e]
 have e2:Vw.st [c]=⟨#[c]⟩:=rfl
 rw[e2]
 rw[this]
 have h:c∈(Vw.st t).cps.toList↔c∈t:=by simp[Vw.st]
 by_cases hc:c∈t
 ·rw[decide_eq_true hc,decide_eq_true (h.mpr hc)]
 ·rw[decide_eq_false hc,decide_eq_false (fun z=>hc (h.mp z))]
theorem xE(a:List Nat)(ys:List (List Nat)):tA a ys=TL.joinL a ys:=by
 unfold tA
 rw[TL.join_eq]
 have h:=TL.tl_join (Vw.st a) (ys.map Vw.st)
 have e1:TL.tl (Vw.st a)=a:=by simp[TL.tl,Vw.st]
 have e2:(ys.map Vw.st).map TL.tl=ys:=by
  rw[List.map_map]
  have:(TL.tl∘Vw.st)=(id:List Nat→List Nat):=by funext x;simp[TL.tl,Vw.st]
  rw[this,List.map_id]
 rw[e1,e2]at h
 exact h
theorem AG:∀ ys:List (List Nat),TL.joinL [] ys=ys.flatten
 | []=>rfl
 | [x]=>by simp[TL.joinL]
 | x::y::r=>by
  rw[TL.joinL,AG (y::r)]
  simp
theorem AB(ys:List (List Nat)):tA [] ys=ys.flatten:=by rw[xE,AG]
end Vw
namespace Vw
open PySem L2
inductive M (α:Type) where
 | ok (a:α)
 | exc (x:Exn)
 | bad
def M.bind{α β:Type}:M α→(α→M β)→M β
 | .ok a,k=>k a
 | .exc x,_=>.exc x
 | .bad,_=>.bad
@[simp] theorem M.aa{α β:Type}(a:α)(k:α→M β):(M.ok a).bind k=k a:=id rfl
@[simp] theorem M.Dq{α β:Type}(x:Exn)(k:α→M β):(M.exc x:M α).bind k=.exc x:=id rfl
@[simp] theorem M.Si{α β:Type}(k:α→M β):(M.bad:M α).bind k=.bad:=id rfl
theorem M.bind_assoc{α β γ:Type}(m:M α)(k:α→M β)(l:β→M γ):(m.bind k).bind l=m.bind fun a=>(k a).bind l:=by cases m<;> rfl
def gd(b:Bool):M Unit:=if b then .ok ()else .bad
@[simp] theorem xq:gd true=.ok ():=id rfl
abbrev Pt:=List (Option Sl)
def Fits(p:Pt)(g:Slots):Prop:=p.length=g.length∧∀ (i:Nat) (s:Sl),p[i]? =some (some s)→g[i]? =some (some s)
def ek:Pt→Pt→Prop
 | [],[]=>True
 | none::p,_::q=>ek p q
 | some s::p,t::q=>t=some s∧ek p q
 | _,_=>False
theorem ek.imp:∀ {p q:Pt},ek p q→p.length=q.length∧∀ (i:Nat) (s:Sl),p[i]? =some (some s)→q[i]? =some (some s)
 | [],[],_=>⟨rfl,fun i s h=>by simp at h⟩
 | [],_::_,h=>by simp[ek]at h
 | none::p,[],h=>by simp[ek]at h
 | some s::p,[],h=>by simp[ek]at h
 | none::p,t::q,h=>by
  have ih:=ek.imp (p:=p) (q:=q) h
  refine⟨by simp[ih.1],fun i s e=>?_⟩
  cases i with
  | zero=>simp at e
  | succ i=>exact ih.2 i s (by simpa using e)
 | some s::p,t::q,h=>by
  have ih:=ek.imp (p:=p) (q:=q) h.2
  refine⟨by simp[ih.1],fun i s' e=>?_⟩
  cases i with
  | zero=>simp at e ⊢;rw[h.1,e]
  | succ i=>exact ih.2 i s' (by simpa using e)
theorem Fits.weak{p q:Pt}{g:Slots}(h:Fits q g)(w:ek p q):Fits p g:=⟨w.imp.1.trans h.1,fun i s e=>h.2 i s (w.imp.2 i s e)⟩
theorem Fits.set{p:Pt}{g:Slots}(h:Fits p g)(i:Nat)(s:Sl):Fits (p.set i (some s)) (g.set i (some s)):=by
 refine⟨by simp[h.1],fun j s' e=>?_⟩
 rw[List.getElem?_set]at e ⊢
 split at e
 ·rename_i hij
  rw[if_pos hij]
  split at e
  ·rename_i hl
   rw[if_pos (h.1▸hl)]
   exact e
  ·cases e
 ·rename_i hij
  rw[if_neg hij]
  exact h.2 j s' e
theorem Fits.wipe{p:Pt}{g:Slots}(h:Fits p g):∀ vs:List Nat,(vs.all fun v=>(p.getD v none).isNone)=true→Fits p (fQ g vs)
 | [],_=>h
 | v::vs,hv=>by
  have hv:(p.getD v none).isNone=true∧(vs.all fun v=>(p.getD v none).isNone)=true:=by simpa using hv
  have ih:=Fits.wipe h vs hv.2
  refine⟨by simp[fQ,ih.1],fun j s e=>?_⟩
  show((fQ g vs).set v none)[j]? =_
  rw[List.getElem?_set]
  split
  ·rename_i hvj
   subst hvj
   have:=hv.1
   rw[List.getD_eq_getElem?_getD,e]at this
   cases this
  ·exact ih.2 j s e
def Rn{α T:Type}(R:List Ob→Prop)(r:Res α)(m:M T)(post:T→α×Pt×List Ob):Prop:=
 match m with
 | .ok v=>∃ sg,r=.ok (post v).1 ⟨sg,(post v).2.2⟩∧Fits (post v).2.1 sg
 | .exc x=>∃ s,r=.exc x s∧R s.st
 | .bad=>True
def Ev{α T:Type}(R:List Ob→Prop)(p:Pt)(σ:List Ob)(f:State→Res α)(m:M T)(post:T→α×Pt×List Ob):Prop:=∀ sg,Fits p sg→Rn R (f ⟨sg,σ⟩) m post
section
variable{R:List Ob→Prop}{p p':Pt}{σ σ':List Ob}{α β γ T U W:Type}
theorem Ev.bind{f:State→Res α}{k:α→State→Res β}{m:M T}{mk:T→M U}{post:T→α×Pt×List Ob}{post2:U→β×Pt×List Ob}(h:Ev R p σ f m post)(hk:∀ v,Ev R (post v).2.1 (post v).2.2 (k (post v).1) (mk v) post2):Ev R p σ (fun s=>(f s).bind k) (m.bind mk) post2:=by
 intro sg hf
 have:=h sg hf
 cases m with
 | ok v=>
  obtain⟨sg',e,hf'⟩:=this
  have h2:=hk v sg' hf'
  simp only[M.aa]
  rw[e,Res.aa]
  exact h2
 | exc x=>
  obtain⟨s,e,r⟩:=this
  refine⟨s,?_,r⟩
  show(f ⟨sg,σ⟩).bind k=_
  rw[e];rfl
 | bad=>trivial
theorem Ev.gB{f:State→Res α}{k:α→State→Res β}{a:T}{m:M U}{post:T→α×Pt×List Ob}{post2:U→β×Pt×List Ob}(h:Ev R p σ f (.ok a) post)(hk:Ev R (post a).2.1 (post a).2.2 (k (post a).1) m post2):Ev R p σ (fun s=>(f s).bind k) m post2:=by
 intro sg hf
 obtain⟨sg',e,hf'⟩:=h sg hf
 have h2:=hk sg' hf'
 dsimp only
 rw[e,Res.aa]
 exact h2
theorem Ev.pure{a:T}{r:T→α}:Ev R p σ (fun s=>.ok (r a) s) (.ok a) (fun v=>(r v,p,σ)):=fun sg hf=>⟨sg,rfl,hf⟩
theorem Ev.map{f:State→Res α}{m:M T}{post:T→α×Pt×List Ob}(φ:T→U)(post2:U→α×Pt×List Ob)(h:Ev R p σ f m post)(e:∀ v,post v=post2 (φ v)):Ev R p σ f (m.bind fun v=>.ok (φ v)) post2:=by
 intro sg hf
 have:=h sg hf
 cases m with
 | ok v=>
  obtain⟨sg',e',hf'⟩:=this
  rw[e v]at e' hf'
  exact⟨sg',e',hf'⟩
 | exc x=>exact this
 | bad=>trivial
theorem Ev.bH{f:State→Res α}{a:T}{post:T→α×Pt×List Ob}{b:U}{post2:U→α×Pt×List Ob}(h:Ev R p σ f (.ok a) post)(e:post a=post2 b):Ev R p σ f (.ok b) post2:=by
 intro sg hf
 obtain⟨sg',e',hf'⟩:=h sg hf
 rw[e]at e' hf'
 exact⟨sg',e',hf'⟩
theorem Ev.weak{f:State→Res α}{m:M T}{post:T→α×Pt×List Ob}(h:Ev R p σ f m post)(w:ek p p'):Ev R p' σ f m post:=fun sg hf=>h sg (hf.weak w)
theorem Ev.is{f g:State→Res α}{m:M T}{post:T→α×Pt×List Ob}(h:Ev R p σ f m post)(e:∀ s,g s=f s):Ev R p σ g m post:=fun sg hf=>by rw[e];exact h sg hf
theorem Ev.bad{f:State→Res α}{post:T→α×Pt×List Ob}:Ev R p σ f .bad post:=fun _ _=>trivial
theorem Ev.at{f:State→Res α}{a:T}{r:T→α}(h:∀ sg,Fits p sg→f ⟨sg,σ⟩=.ok (r a) ⟨sg,σ⟩):Ev R p σ f (.ok a) (fun v=>(r v,p,σ)):=fun sg hf=>⟨sg,h sg hf,hf⟩
theorem Ev.gd{f:State→Res α}{a:T}{r:T→α}{b:Bool}(h:b=true→∀ sg,Fits p sg→f ⟨sg,σ⟩=.ok (r a) ⟨sg,σ⟩):Ev R p σ f ((gd b).bind fun _=>.ok a) (fun v=>(r v,p,σ)):=by
 intro sg hf
 cases b with
 | true=>exact⟨sg,h rfl sg hf,hf⟩
 | false=>trivial
theorem Ev.op{f:State→Res α}{o:Option T}{r:T→α}(h:∀ a,o=some a→∀ sg,Fits p sg→f ⟨sg,σ⟩=.ok (r a) ⟨sg,σ⟩):Ev R p σ f (match o with | some a=>.ok a | none=>.bad) (fun v=>(r v,p,σ)):=by
 intro sg hf
 cases o with
 | some a=>exact⟨sg,h a rfl sg hf,hf⟩
 | none=>trivial
end
abbrev eL{T:Type}(e:T→D):List T→D:=fun l=>.lst (l.map e)
abbrev aP{A B:Type}(a:A→D)(b:B→D):A×B→D:=fun p=>.tup [a p.1,b p.2]
abbrev RE{A B C:Type}(a:A→D)(b:B→D)(c:C→D):A×B×C→D:=fun p=>.tup [a p.1,b p.2.1,c p.2.2]
def eO{A:Type}(a:A→D):Option A→D
 | none=>.non
 | some x=>a x
abbrev eN:Unit→D:=fun _=>.non
abbrev eY:D→D:=fun d=>d
abbrev oL{T:Type}(e:T→D):List T→Ob:=fun l=>.lst (l.map fun x=>.d (e x))
abbrev qR{T:Type}(e:T→D):List (List Nat×T)→Ob:=fun l=>.dic false (l.map fun p=>(.s p.1,.d (e p.2)))
theorem bN{T:Type}(e:T→D)(l:List T):(oL e l).toD=some (eL e l):=by
 show(toDs _).map _=_
 rw[toDs_mapF];rfl
def Lv{T:Type}(p:Pt)(σ:List Ob)(r:RV)(e:T→D)(l:List T):Prop:=∀ sg,Fits p sg→lv ⟨sg,σ⟩ r=some (l.map fun x=>.d (e x))∧lV ⟨sg,σ⟩ r=some (eL e l)∧tv ⟨sg,σ⟩ r=none∧∀ k,mq ⟨sg,σ⟩ r k=none
end Vw
namespace Vw
open PySem L2
section
variable{R:List Ob→Prop}{p p':Pt}{σ σ':List Ob}{α β γ T U W:Type}{i j n:Nat}
theorem eI{e:T→D}{l:List T}:Lv p σ (.val (.d (eL e l))) e l:=fun sg _=>⟨by simp[Function.comp_def],rfl,rfl,fun k=>rfl⟩
theorem cb{e:T→D}{l:List T}(h:p[i]? =some (some (.own (oL e l)))):Lv p σ (.own i) e l:=fun sg hf=>by
 have h:=hf.2 _ _ h
 refine⟨by simp[h],by simp[h,Function.comp_def],?_,fun k=>?_⟩
 ·unfold tv;simp[h]
 ·unfold mq oj wV;simp[h]
theorem Pe{e:T→D}{l:List T}(h:σ[n]? =some (oL e l)):Lv p σ (.val (.r n)) e l:=fun sg hf=>by
 refine⟨by simp[h],by simp[h,Function.comp_def],?_,fun k=>?_⟩
 ·unfold tv;simp
 ·unfold mq oj wV;simp[h]
def Pv(p:Pt)(σ:List Ob)(r:RV)(d:D):Prop:=∀ sg,Fits p sg→lV ⟨sg,σ⟩ r=some d
theorem aL{d:D}:Pv p σ (.val (.d d)) d:=fun _ _=>rfl
theorem Lv.pv{e:T→D}{l:List T}{r:RV}(h:Lv p σ r e l):Pv p σ r (eL e l):=fun sg hf=>(h sg hf).2.1
theorem ax{a:T}{e:T→D}(h:p[i]? =some (some (.v (.d (e a))))):Ev R p σ (ae i) (.ok a) (fun v=>(.val (.d (e v)),p,σ)):=Ev.at (r:=fun v=>RV.val (Val.d (e v))) fun sg hf=>by
 rw[mH,hf.2 _ _ h]
theorem dg{a:T}{o:Ob}(h:p[i]? =some (some (.own o))):Ev R p σ (ae i) (.ok a) (fun _=>(.own i,p,σ)):=Ev.at (r:=fun _=>RV.own i) fun sg hf=>by
 rw[mH,hf.2 _ _ h]
theorem fW{a:T}(h:p[i]? =some (some (.v (.r n)))):Ev R p σ (ae i) (.ok a) (fun _=>(.val (.r n),p,σ)):=Ev.at (r:=fun _=>RV.val (Val.r n)) fun sg hf=>by
 rw[mH,hf.2 _ _ h]
theorem cD(e:T→D)(a:T):Ev R p σ (fD (e a)) (.ok a) (fun v=>(.val (.d (e v)),p,σ)):=Ev.at (r:=fun v=>RV.val (Val.d (e v))) fun sg hf=>rfl
theorem sv{f:State→Res RV}{m:M T}{x:T→Val}{P:T→Pt}{S:T→List Ob}(h:Ev R p σ f m (fun v=>(.val (x v),P v,S v))):Ev R p σ (ev f) m (fun v=>(.val (x v),P v,S v)):=fun sg hf=>by
 have:=h sg hf
 cases m with
 | ok v=>obtain⟨sg',e,hf'⟩:=this;exact⟨sg',by rw[rp,e];rfl,hf'⟩
 | exc x=>obtain⟨s,e,r⟩:=this;exact⟨s,by rw[rp,e];rfl,r⟩
 | bad=>trivial
theorem dc{f:State→Res RV}{m:M T}{P:T→Pt}{S:T→List Ob}(h:Ev R p σ f m (fun v=>(.own i,P v,S v))):Ev R p σ (ev f) m (fun v=>(.own i,P v,S v)):=fun sg hf=>by
 have:=h sg hf
 cases m with
 | ok v=>obtain⟨sg',e,hf'⟩:=this;exact⟨sg',by rw[rp,e];rfl,hf'⟩
 | exc x=>obtain⟨s,e,r⟩:=this;exact⟨s,by rw[rp,e];rfl,r⟩
 | bad=>trivial
theorem sn{f:State→Res RV}{m:M T}{o:T→Ob}{d:T→D}{P:T→Pt}{S:T→List Ob}(h:Ev R p σ f m (fun v=>(.new (o v),P v,S v)))(hd:∀ v,(o v).toD=some (d v)):Ev R p σ (ev f) m (fun v=>(.val (.d (d v)),P v,S v)):=fun sg hf=>by
 have:=h sg hf
 cases m with
 | ok v=>obtain⟨sg',e,hf'⟩:=this;exact⟨sg',by rw[rp,e,Res.aa,Ss,hd v],hf'⟩
 | exc x=>obtain⟨s,e,r⟩:=this;exact⟨s,by rw[rp,e];rfl,r⟩
 | bad=>trivial
theorem x2{fa fb:State→Res RV}{k:RV→RV→State→Res RV}{ma:M T}{mb:T→M U}{mk:T→U→M W}{pa:T→RV×Pt×List Ob}{pb:T→U→RV×Pt×List Ob}{post:W→RV×Pt×List Ob}(ha:Ev R p σ (ev fa) ma pa)(hb:∀ a,Ev R (pa a).2.1 (pa a).2.2 (ev fb) (mb a) (pb a))(hk:∀ a b,Ev R (pb a b).2.1 (pb a b).2.2 (k (pa a).1 (pb a b).1) (mk a b) post):Ev R p σ (ao fa fb k) (ma.bind fun a=>(mb a).bind fun b=>mk a b) post:=Ev.bind ha fun a=>Ev.bind (hb a) fun b=>hk a b
theorem x1{fa:State→Res RV}{k:RV→State→Res α}{ma:M T}{mk:T→M W}{pa:T→RV×Pt×List Ob}{post:W→α×Pt×List Ob}(ha:Ev R p σ (ev fa) ma pa)(hk:∀ a,Ev R (pa a).2.1 (pa a).2.2 (k (pa a).1) (mk a) post):Ev R p σ (fun s=>(ev fa s).bind k) (ma.bind mk) post:=Ev.bind ha hk
abbrev pD(e:T→D)(p:Pt)(σ:List Ob):T→RV×Pt×List Ob:=fun v=>(.val (.d (e v)),p,σ)
abbrev NW(e:T→D)(p:Pt)(σ:List Ob):List T→RV×Pt×List Ob:=fun v=>(.new (oL e v),p,σ)
def mulM(a b:Int):M Int:=(gd (Kd a b)).bind fun _=>.ok (a*b)
def lH(a b:Int):M Int:=(gd (decide (0<b))).bind fun _=>.ok (a%b)
def DX(a b:Int):M Int:=(gd (decide (0≤b∧b≤1000000∧a.natAbs<2^64))).bind fun _=>.ok (a^b.toNat)
theorem dI{a b:Int}:Ev R p σ (binop .add (.val (.d (.int a))) (.val (.d (.int b)))) (.ok (a+b)) (pD .int p σ):=Ev.at (r:=fun v=>RV.val (Val.d (D.int v))) fun sg _=>rfl
theorem QR{a b:Int}:Ev R p σ (binop .sub (.val (.d (.int a))) (.val (.d (.int b)))) (.ok (a-b)) (pD .int p σ):=Ev.at (r:=fun v=>RV.val (Val.d (D.int v))) fun sg _=>rfl
theorem qD{a b:Int}:Ev R p σ (binop .mul (.val (.d (.int a))) (.val (.d (.int b)))) (mulM a b) (pD .int p σ):=Ev.gd (r:=fun v=>RV.val (Val.d (D.int v))) fun h sg _=>by rw[Ll,Mc,if_pos h];rfl
theorem tM{a b:Int}:Ev R p σ (binop .mod (.val (.d (.int a))) (.val (.d (.int b)))) (lH a b) (pD .int p σ):=Ev.gd (r:=fun v=>RV.val (Val.d (D.int v))) fun h sg _=>by rw[FO,if_pos (of_decide_eq_true h)];rfl
theorem Lo{a b:Int}:Ev R p σ (binop .pow (.val (.d (.int a))) (.val (.d (.int b)))) (DX a b) (pD .int p σ):=Ev.gd (r:=fun v=>RV.val (Val.d (D.int v))) fun h sg _=>by rw[LZ,if_pos (of_decide_eq_true h)];rfl
theorem gA{a b:Int}(h:0<b):Ev R p σ (binop .mod (.val (.d (.int a))) (.val (.d (.int b)))) (.ok (a%b)) (pD .int p σ):=Ev.at (r:=fun v=>RV.val (Val.d (D.int v))) fun sg _=>by rw[FO,if_pos h];rfl
theorem km{a b:Int}(h:JD b=true):Ev R p σ (binop .fdiv (.val (.d (.int a))) (.val (.d (.int b)))) (.ok (a/b)) (pD .int p σ):=Ev.at (r:=fun v=>RV.val (Val.d (D.int v))) fun sg _=>by rw[Jo,if_pos h];rfl
theorem OP{f:State→Res RV}{m:M Int}{P:Pt}{S:List Ob}(h:Ev R p σ (ev f) m (pD .int P S)):Ev R p σ (Du f) (m.bind fun a=>.ok (-a)) (pD .int P S):=Ev.bind h fun a=>Ev.at (r:=fun v=>RV.val (Val.d (D.int v))) fun sg _=>rfl
def br(a b:List Nat):M (List Nat):=(gd (decide (a.length+b.length≤sizeLine))).bind fun _=>.ok (a++b)
def EI(a:List Nat)(j:Int):M (List Nat):=(gd (decide (0≤j∧j<1000000∧a.length*j.toNat≤1000000))).bind fun _=>.ok (List.replicate j.toNat a).flatten
def eU(a b:List T):M (List T):=(gd (decide (a.length+b.length≤sizeLine))).bind fun _=>.ok (a++b)
theorem dW{a b:List Nat}:Ev R p σ (binop .add (.val (.d (.str a))) (.val (.d (.str b)))) (br a b) (pD .str p σ):=Ev.gd (r:=fun v=>RV.val (Val.d (D.str v))) fun h sg _=>by rw[Ks,Sh.LV,if_pos (of_decide_eq_true h)]
theorem Lc{a:List Nat}{b:Int}:Ev R p σ (binop .mul (.val (.d (.str a))) (.val (.d (.int b)))) (EI a b) (pD .str p σ):=Ev.gd (r:=fun v=>RV.val (Val.d (D.str v))) fun h sg _=>by
 rw[Ll]
 unfold zT
 simp only[rl]
 rw[if_pos (of_decide_eq_true h)];rfl
theorem Nc{s:State}{x y:RV}{l m:List Val}(h1:lv s x=some l)(h2:lv s y=some m):sG x y s=if l.length+m.length≤sizeLine then .ok (.new (.lst (l++m))) s else .stuck:=by
 unfold sG
 have hx:∀ d,dv s x=some d→∃ l,d=.lst l:=fun d e=>by
  rw[Di,e]at h1
  cases d<;> simp at h1
  exact⟨_,rfl⟩
 split
 ·rename_i e _;obtain⟨_,z⟩:=hx _ e;cases z
 ·rename_i e _;obtain⟨_,z⟩:=hx _ e;cases z
 ·rw[h1,h2]
theorem add_l{e:T→D}{a b:List T}{x y:RV}(hx:Lv p σ x e a)(hy:Lv p σ y e b):Ev R p σ (binop .add x y) (eU a b) (NW e p σ):=Ev.gd (r:=fun v=>RV.new (oL e v)) fun h sg hf=>by
 rw[Ks,Nc (hx sg hf).1 (hy sg hf).1,if_pos (by simpa using of_decide_eq_true h),←List.map_append]
theorem ur{a b:Int}:Ev R p σ (aD .lt (.val (.d (.int a))) (.val (.d (.int b)))) (.ok (decide (a<b))) (pD .bl p σ):=Ev.at (r:=fun v=>RV.val (Val.d (D.bl v))) fun sg _=>rfl
theorem GL{a b:Int}:Ev R p σ (aD .le (.val (.d (.int a))) (.val (.d (.int b)))) (.ok (decide (a≤b))) (pD .bl p σ):=Ev.at (r:=fun v=>RV.val (Val.d (D.bl v))) fun sg _=>rfl
theorem Pw{a b:Int}:Ev R p σ (aD .gt (.val (.d (.int a))) (.val (.d (.int b)))) (.ok (decide (b<a))) (pD .bl p σ):=Ev.at (r:=fun v=>RV.val (Val.d (D.bl v))) fun sg _=>rfl
theorem Ta{a b:Int}:Ev R p σ (aD .ge (.val (.d (.int a))) (.val (.d (.int b)))) (.ok (decide (b≤a))) (pD .bl p σ):=Ev.at (r:=fun v=>RV.val (Val.d (D.bl v))) fun sg _=>rfl
theorem Nl{a b:List Nat}:Ev R p σ (aD .le (.val (.d (.str a))) (.val (.d (.str b)))) (.ok (!eG b a)) (pD .bl p σ):=Ev.at (r:=fun v=>RV.val (Val.d (D.bl v))) fun sg _=>rfl
def eqB{T:Type}[DecidableEq T](a b:T):Bool:=decide (a=b)
@[simp] theorem Tu{T:Type}[DecidableEq T](a b:T):eqB a b=decide (a=b):=id rfl
structure EqE {T:Type} [DecidableEq T] (e:T→D) (n:Nat):Prop where
 pl:∀ x,fh (e x)=true
 dp:∀ x,fG n (e x)=true
 eq:∀ x y,fH (e x) (e y)=decide (x=y)
theorem EqE.cmp{T:Type}[DecidableEq T]{e:T→D}{n:Nat}(E:EqE e n)(h:n≤60)(x y:T):fK (e x) (e y)=true:=by
 have h1:=uB n _ (E.pl x) (E.dp x)
 unfold fK
 simp[vY _ (E.pl x),vY _ (E.pl y)]
 omega
theorem d0[DecidableEq T]{e:T→D}{a b:T}{x y:RV}(hx:Pv p σ x (e a))(hy:Pv p σ y (e b))(E:EqE e n)(hn:n≤60):Ev R p σ (aD .eq x y) (.ok (eqB a b)) (pD .bl p σ):=Ev.at (r:=fun v=>RV.val (Val.d (D.bl v))) fun sg hf=>by
 rw[qe,PY,Cd,hx sg hf,hy sg hf]
 dsimp only
 rw[if_pos (E.cmp hn a b),E.eq];rfl
theorem nX[DecidableEq T]{e:T→D}{a b:T}{x y:RV}(hx:Pv p σ x (e a))(hy:Pv p σ y (e b))(E:EqE e n)(hn:n≤60):Ev R p σ (aD .ne x y) (.ok (!eqB a b)) (pD .bl p σ):=Ev.at (r:=fun v=>RV.val (Val.d (D.bl v))) fun sg hf=>by
 rw[qe,Tc,Cd,hx sg hf,hy sg hf]
 dsimp only
 rw[if_pos (E.cmp hn a b),E.eq];rfl
def AW(a b:D):M Bool:=if fK a b then .ok (fH a b)else .bad
theorem SH{a b:D}{x y:RV}(hx:Pv p σ x a)(hy:Pv p σ y b):Ev R p σ (aD .eq x y) (AW a b) (pD .bl p σ):=fun sg hf=>by
 unfold AW
 split
 ·rename_i h
  refine⟨sg,?_,hf⟩
  rw[qe,PY,Cd,hx sg hf,hy sg hf]
  dsimp only
  rw[if_pos h];rfl
 ·trivial
theorem Sk{e:T→D}{a:Option T}(h:∀ x,e x≠ .non):Ev R p σ (aD .is (.val (.d (eO e a))) (.val (.d .non))) (.ok a.isNone) (pD .bl p σ):=Ev.at (r:=fun v=>RV.val (Val.d (D.bl v))) fun sg hf=>by
 rw[qe]
 cases a with
 | none=>rfl
 | some x=>
  rw[show ∀ (s:State) (x y:RV),ij .is s x y=AJ s x y from fun _ _ _=>rfl]
  unfold AJ eO
  simp only[rl]
  have:=h x
  revert this
  cases e x<;> intro this<;> first | exact absurd rfl this | rfl
def d8{T:Type}[DecidableEq T](a:T)(l:List T):Bool:=decide (a∈l)
@[simp] theorem SG{T:Type}[DecidableEq T](a:T)(l:List T):d8 a l=decide (a∈l):=id rfl
theorem Hl[DecidableEq T]{e:T→D}(E:EqE e n)(l:List T):iE (l.map e)=true:=o8 e l fun x _=>E.pl x
theorem Ry[DecidableEq T]{e:T→D}(E:EqE e n)(l:List T)(a:T):((l.map e).any fun y=>fH y (e a))=decide (a∈l):=by
 rw[List.any_map]
 have:(fun y=>fH (e y) (e a))=fun y=>decide (y=a):=funext fun y=>E.eq y a
 rw[show((fun y=>fH y (e a))∘e)=fun y=>decide (y=a)from this]
 rw[Bool.eq_iff_iff]
 simp
theorem Ri[DecidableEq T]{e:T→D}{a:T}{l:List T}{x y:RV}(hx:Pv p σ x (e a))(hy:Lv p σ y e l)(E:EqE e n)(hn:n≤60){sg:Slots}(hf:Fits p sg):inD ⟨sg,σ⟩ x y=some (decide (a∈l)):=by
 obtain⟨h1,h2,h3,h4⟩:=hy sg hf
 unfold inD
 rw[h4 x]
 have hs:∀ b,dv ⟨sg,σ⟩ y≠some (.str b):=fun b e=>by rw[Di,e]at h1;cases h1
 dsimp only
 split
 ·rename_i e;exact absurd e (hs _)
 ·rw[hx sg hf,h2]
  dsimp only
  have d1:=uB n _ (E.pl a) (E.dp a)
  have d2:=sy _ (Hl E l)
  rw[if_pos (by
   simp[vY _ (E.pl a),d2]
   omega)]
  rw[Ry E]
theorem CJ[DecidableEq T]{e:T→D}{a:T}{l:List T}{x y:RV}(hx:Pv p σ x (e a))(hy:Lv p σ y e l)(E:EqE e n)(hn:n≤60):Ev R p σ (aD .isin x y) (.ok (d8 a l)) (pD .bl p σ):=Ev.at (r:=fun v=>RV.val (Val.d (D.bl v))) fun sg hf=>by
 rw[qe]
 show(match inD _ _ _ with | some b=>aS (.bl b) _ | none=>Res.stuck)=_
 rw[Ri hx hy E hn hf];rfl
theorem JJ{a b:List Nat}:Ev R p σ (aD .isin (.val (.d (.str a))) (.val (.d (.str b)))) (.ok (subIn a b)) (pD .bl p σ):=Ev.at (r:=fun v=>RV.val (Val.d (D.bl v))) fun sg hf=>rfl
theorem F5{a b:List Nat}:Ev R p σ (aD .notin (.val (.d (.str a))) (.val (.d (.str b)))) (.ok (!subIn a b)) (pD .bl p σ):=Ev.at (r:=fun v=>RV.val (Val.d (D.bl v))) fun sg hf=>rfl
def bQ(l:List T)(i:Int):M T:=match atI l i with | some a=>.ok a | none=>.bad
def fu(t:List Nat)(i:Int):M (List Nat):=(gd (decide (t.length≤sizeLine))).bind fun _=>match atI t i with | some c=>.ok [c] | none=>.bad
theorem gY{e:T→D}{l:List T}{k:Int}{x:RV}(h:Lv p σ x e l):Ev R p σ (bJ x (.val (.d (.int k)))) (bQ l k) (pD e p σ):=Ev.op (r:=fun v=>RV.val (Val.d (e v))) fun a h' sg hf=>by
 obtain⟨h1,h2,h3,h4⟩:=h sg hf
 unfold bJ
 rw[h4]
 dsimp only
 split
 ·rename_i e' _;rw[Di,e']at h1;cases h1
 ·rename_i i e'' e'
  cases (show some (D.int k)=some (D.int i)from e'')
  rw[h1]
  dsimp only
  rw[Ao,h'];rfl
 ·rename_i h5 h6
  exact absurd rfl (h5 k)
theorem rB{t:List Nat}{k:Int}:Ev R p σ (bJ (.val (.d (.str t))) (.val (.d (.int k)))) (fu t k) (pD .str p σ):=fun sg hf=>by
 unfold fu
 by_cases h:t.length≤sizeLine
 ·rw[show decide (t.length≤sizeLine)=true from decide_eq_true h,xq,M.aa,Rq,if_pos h]
  cases atI t k with
  | some c=>exact⟨sg,rfl,hf⟩
  | none=>trivial
 ·rw[show decide (t.length≤sizeLine)=false from decide_eq_false h];trivial
theorem JC{l:List D}{k:Int}{a:T}{e:T→D}(h:atI l k=some (e a)):Ev R p σ (bJ (.val (.d (.tup l))) (.val (.d (.int k)))) (.ok a) (pD e p σ):=Ev.at (r:=fun v=>RV.val (Val.d (e v))) fun sg hf=>by
 rw[Lr,h]
def qZ(d:D)(i:Int):M D:=match d with
 | .tup l=>bQ l i
 | .lst l=>bQ l i
 | _=>.bad
theorem Oy{d:D}{k:Int}:Ev R p σ (bJ (.val (.d d)) (.val (.d (.int k)))) (qZ d k) (pD eY p σ):=fun sg hf=>by
 cases d<;> try trivial
 ·rename_i l
  show Rn R _ (bQ l k) _
  unfold bQ
  rw[Lr]
  cases atI l k<;> first | trivial | exact⟨sg,rfl,hf⟩
 ·rename_i l
  show Rn R _ (bQ l k) _
  unfold bQ
  rw[Rx]
  cases atI l k<;> first | trivial | exact⟨sg,rfl,hf⟩
def lW(d:D):M (List Nat):=match d with | .str s=>.ok s | _=>.bad
def uy(d:D):M Int:=match d with | .int s=>.ok s | _=>.bad
def SN(d:D):M (List D):=match d with | .lst l=>.ok l | _=>.bad
def rj(f:D→M T):List D→M (List T)
 | []=>.ok []
 | x::r=>(f x).bind fun a=>(rj f r).bind fun as=>.ok (a::as)
def yL(f:D→M T)(d:D):M (List T):=(SN d).bind (rj f)
def Dec(f:D→M T)(e:T→D):Prop:=∀ d a,f d=.ok a→d=e a
def x9(f:D→M T):Prop:=∀ d x,f d≠ .exc x
theorem vN:Dec lW .str:=fun d a h=>by cases d<;> cases h;rfl
theorem LF:Dec uy .int:=fun d a h=>by cases d<;> cases h;rfl
theorem zJ:x9 lW:=fun d x h=>by cases d<;> cases h
theorem O9:x9 uy:=fun d x h=>by cases d<;> cases h
theorem Nr{f:D→M T}{e:T→D}(h:Dec f e):∀ (l:List D) (as:List T),rj f l=.ok as→l=as.map e
 | [],as,q=>by cases q;rfl
 | x::r,as,q=>by
  unfold rj at q
  cases hx:f x with
  | ok a=>
   rw[hx,M.aa]at q
   cases hr:rj f r with
   | ok bs=>rw[hr,M.aa]at q;cases q;rw[h x a hx,Nr h r bs hr];rfl
   | exc x=>rw[hr]at q;cases q
   | bad=>rw[hr]at q;cases q
  | exc x=>rw[hx]at q;cases q
  | bad=>rw[hx]at q;cases q
theorem Lm{f:D→M T}{e:T→D}(h:Dec f e):Dec (yL f) (eL e):=fun d a q=>by
 cases d<;> try cases q
 exact congrArg D.lst (Nr h _ _ q)
theorem R1{f:D→M T}(h:x9 f):∀ (l:List D) (x:Exn),rj f l≠ .exc x
 | [],x=>by intro q;cases q
 | d::r,x=>by
  intro q
  unfold rj at q
  cases hx:f d with
  | ok a=>
   rw[hx,M.aa]at q
   cases hr:rj f r with
   | ok bs=>rw[hr]at q;cases q
   | exc x=>exact R1 h r _ hr
   | bad=>rw[hr]at q;cases q
  | exc x=>exact h d _ hx
  | bad=>rw[hx]at q;cases q
theorem P0{f:D→M T}(h:x9 f):x9 (yL f):=fun d x q=>by
 cases d<;> try cases q
 exact R1 h _ _ q
theorem FH{f:State→Res RV}{m:M D}{dec:D→M T}{e:T→D}{P:Pt}{S:List Ob}(h:Ev R p σ f m (pD eY P S))(hd:Dec dec e)(hx:x9 dec):Ev R p σ f (m.bind dec) (pD e P S):=fun sg hf=>by
 have:=h sg hf
 cases m with
 | ok d=>
  obtain⟨sg',e',hf'⟩:=this
  show Rn R _ (dec d) _
  cases hq:dec d with
  | ok a=>exact⟨sg',by rw[e',hd d a hq],hf'⟩
  | exc x=>exact absurd hq (hx d x)
  | bad=>trivial
 | exc x=>exact this
 | bad=>trivial
theorem toY{f:State→Res RV}{m:M T}{e:T→D}{P:Pt}{S:List Ob}(h:Ev R p σ f m (pD e P S)):Ev R p σ f (m.bind fun v=>.ok (e v)) (pD eY P S):=Ev.map e (pD eY P S) h fun v=>rfl
end
end Vw
namespace Vw
open PySem L2
section
variable{R:List Ob→Prop}{p p':Pt}{σ σ':List Ob}{α β γ T U W A B:Type}{i j n:Nat}
abbrev pB(p:Pt)(σ:List Ob):Bool→Bool×Pt×List Ob:=fun v=>(v,p,σ)
theorem tB{f:State→Res RV}{m:M T}{b:T→Bool}{P:T→Pt}{S:T→List Ob}(h:Ev R p σ (ev f) m (fun v=>(.val (.d (.bl (b v))),P v,S v))):Ev R p σ (aM f) m (fun v=>(b v,P v,S v)):=fun sg hf=>by
 have:=h sg hf
 cases m with
 | ok v=>obtain⟨sg',e,hf'⟩:=this;exact⟨sg',by rw[Gi,e];rfl,hf'⟩
 | exc x=>obtain⟨s,e,r⟩:=this;exact⟨s,by rw[Gi,e];rfl,r⟩
 | bad=>trivial
def andM(a b:M Bool):M Bool:=a.bind fun x=>if x=true then b else .ok false
def orM(a b:M Bool):M Bool:=a.bind fun x=>if x=true then .ok true else b
@[simp] theorem h9(x:Bool)(b:M Bool):andM (.ok x) b=if x=true then b else .ok false:=id rfl
@[simp] theorem uX(x:Bool)(b:M Bool):orM (.ok x) b=if x=true then .ok true else b:=id rfl
theorem Ce{x:Bool}{f g:State→Res α}{m1 m2:M T}{post:T→α×Pt×List Ob}(h1:x=true→Ev R p σ f m1 post)(h2:x=false→Ev R p σ g m2 post):Ev R p σ (fun s=>if x=true then f s else g s) (if x=true then m1 else m2) post:=by
 cases x with
 | true=>intro sg hf;exact h1 rfl sg hf
 | false=>intro sg hf;exact h2 rfl sg hf
theorem tG{f g:State→Res Bool}{fs:List (State→Res Bool)}{m1 m2:M Bool}(h1:Ev R p σ f m1 (pB p σ))(h2:Ev R p σ (iL (g::fs)) m2 (pB p σ)):Ev R p σ (iL (f::g::fs)) (andM m1 m2) (pB p σ):=Ev.bind h1 fun x=>Ce (fun _=>h2) (fun _=>Ev.pure (r:=fun v:Bool=>v))
theorem zM{f g:State→Res Bool}{fs:List (State→Res Bool)}{m1 m2:M Bool}(h1:Ev R p σ f m1 (pB p σ))(h2:Ev R p σ (lU (g::fs)) m2 (pB p σ)):Ev R p σ (lU (f::g::fs)) (orM m1 m2) (pB p σ):=Ev.bind h1 fun x=>Ce (fun _=>Ev.pure (r:=fun v:Bool=>v)) (fun _=>h2)
theorem o7{f:State→Res Bool}{m1:M Bool}(h1:Ev R p σ f m1 (pB p σ)):Ev R p σ (iL [f]) m1 (pB p σ):=h1
theorem yt{f:State→Res Bool}{m1:M Bool}(h1:Ev R p σ f m1 (pB p σ)):Ev R p σ (lU [f]) m1 (pB p σ):=h1
theorem Lq{f:State→Res Bool}{m:M T}{b:T→Bool}{P:T→Pt}{S:T→List Ob}(h:Ev R p σ f m (fun v=>(b v,P v,S v))):Ev R p σ (jy f) m (fun v=>(!b v,P v,S v)):=fun sg hf=>by
 have:=h sg hf
 cases m with
 | ok v=>obtain⟨sg',e,hf'⟩:=this;exact⟨sg',by rw[GS,e];rfl,hf'⟩
 | exc x=>obtain⟨s,e,r⟩:=this;exact⟨s,by rw[GS,e];rfl,r⟩
 | bad=>trivial
theorem EC{f g:State→Res RV}{fs:List (State→Res RV)}{m1 m2:M Bool}(h1:Ev R p σ (ev f) m1 (pD .bl p σ))(h2:Ev R p σ (fN (g::fs)) m2 (pD .bl p σ)):Ev R p σ (fN (f::g::fs)) (andM m1 m2) (pD .bl p σ):=Ev.bind (tB (b:=fun v=>v) h1) fun x=>Ce (fun _=>h2) (fun _=>cD D.bl false)
theorem QV{f g:State→Res RV}{fs:List (State→Res RV)}{m1 m2:M Bool}(h1:Ev R p σ (ev f) m1 (pD .bl p σ))(h2:Ev R p σ (mE (g::fs)) m2 (pD .bl p σ)):Ev R p σ (mE (f::g::fs)) (orM m1 m2) (pD .bl p σ):=Ev.bind (tB (b:=fun v=>v) h1) fun x=>Ce (fun _=>cD D.bl true) (fun _=>h2)
theorem zG{f:State→Res RV}{m1:M T}{post:T→RV×Pt×List Ob}(h1:Ev R p σ (ev f) m1 post):Ev R p σ (fN [f]) m1 post:=h1
theorem NU{f:State→Res RV}{m1:M T}{post:T→RV×Pt×List Ob}(h1:Ev R p σ (ev f) m1 post):Ev R p σ (mE [f]) m1 post:=h1
theorem aq:Ev R p σ (aw []) (.ok ()) (fun _=>(([]:List RV),p,σ)):=Ev.pure (r:=fun _=>([]:List RV))
theorem aQ{f:State→Res RV}{fs:List (State→Res RV)}{m1:M A}{m2:A→M B}{r1:A→RV}{P1:A→Pt}{S1:A→List Ob}{rs:A→B→List RV}{P:A→B→Pt}{S:A→B→List Ob}(h1:Ev R p σ (ev f) m1 (fun v=>(r1 v,P1 v,S1 v)))(h2:∀ v,Ev R (P1 v) (S1 v) (aw fs) (m2 v) (fun w=>(rs v w,P v w,S v w))):Ev R p σ (aw (f::fs)) (m1.bind fun v=>(m2 v).bind fun w=>.ok (v,w)) (fun z=>(r1 z.1::rs z.1 z.2,P z.1 z.2,S z.1 z.2)):=
 Ev.bind h1 fun v=>Ev.bind (h2 v) fun w=>(Ev.pure (a:=(v,w)) (r:=fun z:A×B=>r1 z.1::rs z.1 z.2)).bH rfl
inductive AllD:List RV→List Val→Prop
 | nil:AllD [] []
 | d {x:Val} {rs:List RV} {vs:List Val}:AllD rs vs→AllD (.val x::rs) (x::vs)
theorem AllD.cf{s:State}:∀ {rs:List RV} {vs:List Val},AllD rs vs→bc rs s=.ok vs s
 | _,_,.nil=>rfl
 | _,_,.d h=>by rw[JM,sM,Res.aa,AllD.cf h,Res.aa]
inductive Cap (σ:List Ob):Pt→List RV→List Val→Pt→Prop
 | nil {p:Pt}:Cap σ p [] [] p
 | d {p q:Pt} {x:Val} {rs:List RV} {vs:List Val}:Cap σ p rs vs q→Cap σ p (.val x::rs) (x::vs) q
 | o {p q:Pt} {i:Nat} {o:Ob} {d:D} {rs:List RV} {vs:List Val}:p[i]? =some (some (.own o))→o.toD=some d→Cap σ (p.set i (some (.v (.d d)))) rs vs q→Cap σ p (.own i::rs) (.d d::vs) q
theorem Cap.run{σ:List Ob}:∀ {p q:Pt} {rs:List RV} {vs:List Val},Cap σ p rs vs q→∀ sg,Fits p sg→∃ sg',bc rs ⟨sg,σ⟩=.ok vs ⟨sg',σ⟩∧Fits q sg'
 | _,_,_,_,.nil,sg,hf=>⟨sg,rfl,hf⟩
 | _,_,_,_,.d h,sg,hf=>by
  obtain⟨sg',e,hf'⟩:=Cap.run h sg hf
  exact⟨sg',by rw[JM,sM,Res.aa,e,Res.aa],hf'⟩
 | _,_,_,_,.o h1 h2 h,sg,hf=>by
  obtain⟨sg',e,hf'⟩:=Cap.run h _ (hf.set _ _)
  refine⟨sg',?_,hf'⟩
  rw[JM,Nn,hf.2 _ _ h1]
  dsimp only
  rw[h2]
  dsimp only
  rw[Res.aa,e,Res.aa]
theorem fS{fs:List (State→Res RV)}{m:M A}{rs:A→List RV}{P:A→Pt}{S:A→List Ob}{vs:A→List Val}{Q:A→Pt}{ds:A→List D}(h:Ev R p σ (aw fs) m (fun v=>(rs v,P v,S v)))(hc:∀ v,Cap (S v) (P v) (rs v) (vs v) (Q v))(hd:∀ v,toDs (vs v)=some (ds v))(hl:∀ v,Nat.ble (vs v).length 1000=true):Ev R p σ (iG fs) m (fun v=>(.val (.d (.tup (ds v))),Q v,S v)):=fun sg hf=>by
 have:=h sg hf
 cases m with
 | ok v=>
  obtain⟨sg',e,hf'⟩:=this
  obtain⟨sg2,e2,hf2⟩:=(hc v).run sg' hf'
  refine⟨sg2,?_,hf2⟩
  rw[KR,e,Res.aa,Nv]
  dsimp only
  rw[e2,Res.aa,if_pos (small _ (by have:=Nat.le_of_ble_eq_true (hl v);omega)),L0,hd v]
 | exc x=>obtain⟨s,e,r⟩:=this;exact⟨s,by rw[KR,e];rfl,r⟩
 | bad=>trivial
theorem bz{fs:List (State→Res RV)}{m:M A}{rs:A→List RV}{P:A→Pt}{S:A→List Ob}{vs:A→List Val}{Q:A→Pt}{e:T→D}{l:A→List T}(h:Ev R p σ (aw fs) m (fun v=>(rs v,P v,S v)))(hc:∀ v,Cap (S v) (P v) (rs v) (vs v) (Q v))(hd:∀ v,vs v=(l v).map fun x=>.d (e x))(hl:∀ v,Nat.ble (vs v).length 1000=true):Ev R p σ (bU fs) m (fun v=>(.new (oL e (l v)),Q v,S v)):=fun sg hf=>by
 have:=h sg hf
 cases m with
 | ok v=>
  obtain⟨sg',e,hf'⟩:=this
  obtain⟨sg2,e2,hf2⟩:=(hc v).run sg' hf'
  refine⟨sg2,?_,hf2⟩
  rw[KL,e,Res.aa,NN]
  dsimp only
  rw[e2,Res.aa,if_pos (small _ (by have:=Nat.le_of_ble_eq_true (hl v);omega)),hd v]
 | exc x=>obtain⟨s,e,r⟩:=this;exact⟨s,by rw[KL,e];rfl,r⟩
 | bad=>trivial
theorem pn:Ev R p σ (nh .no) (.ok ()) (fun _=>((none:Option Int),p,σ)):=Ev.pure (r:=fun _=>(none:Option Int))
theorem pe{f:State→Res RV}{m:M Int}(h:Ev R p σ (ev f) m (pD .int p σ)):Ev R p σ (nh (.ex f)) m (fun v=>(some v,p,σ)):=fun sg hf=>by
 have:=h sg hf
 cases m with
 | ok v=>obtain⟨sg',e,hf'⟩:=this;exact⟨sg',by rw[Lw,e];rfl,hf'⟩
 | exc x=>obtain⟨s,e,r⟩:=this;exact⟨s,by rw[Lw,e];rfl,r⟩
 | bad=>trivial
def gR(t:List Nat)(lo hi:Option Int):M (List Nat):=(gd (decide (t.length≤sizeLine))).bind fun _=>.ok (cz t lo hi)
theorem jx{t:List Nat}{lo hi:Option Int}:Ev R p σ (xQ (.val (.d (.str t))) lo hi) (gR t lo hi) (pD .str p σ):=Ev.gd (r:=fun v=>RV.val (Val.d (D.str v))) fun h sg _=>by
 show(if t.length≤sizeLine then _ else _)=_
 rw[if_pos (of_decide_eq_true h)];rfl
theorem NX{e:T→D}{l:List T}{r:RV}{lo hi:Option Int}(h:Lv p σ r e l):Ev R p σ (xQ r lo hi) (.ok (cz l lo hi)) (NW e p σ):=Ev.at (r:=fun v=>RV.new (oL e v)) fun sg hf=>by
 obtain⟨h1,h2,h3,h4⟩:=h sg hf
 rw[Qg]
 split
 ·rename_i e';rw[Di,e']at h1;cases h1
 ·rw[h1]
  dsimp only
  rw[Dy]
theorem vF{fs:List (State→Res RV)}{b:List RV→State→Res RV}{m:M A}{rs:A→List RV}{P:A→Pt}{S:A→List Ob}{mk:A→M T}{post:T→RV×Pt×List Ob}(h:Ev R p σ (aw fs) m (fun v=>(rs v,P v,S v)))(hb:∀ v,Ev R (P v) (S v) (b (rs v)) (mk v) post):Ev R p σ (bW (aw fs) b) (m.bind mk) post:=Ev.bind h hb
def gx(t:List Nat):M Int:=(gd (decide (t.length≤sizeLine))).bind fun _=>.ok t.length
theorem kS{t:List Nat}:Ev R p σ (de [.val (.d (.str t))]) (gx t) (pD .int p σ):=Ev.gd (r:=fun v=>RV.val (Val.d (D.int v))) fun h sg _=>by
 show(if t.length≤sizeLine then _ else _)=_
 rw[if_pos (of_decide_eq_true h)];rfl
theorem Lv.sq{e:T→D}{l:List T}{r:RV}(h:Lv p σ r e l){sg:Slots}(hf:Fits p sg):Vw.sq ⟨sg,σ⟩ r=some (l.map fun x=>.d (e x)):=by rw[Sq,(h sg hf).1]
theorem oG{e:T→D}{l:List T}{r:RV}(h:Lv p σ r e l):Ev R p σ (de [r]) (.ok (l.length:Int)) (pD .int p σ):=Ev.at (r:=fun v=>RV.val (Val.d (D.int v))) fun sg hf=>by
 have h1:=(h sg hf).1
 rw[Qt]
 split
 ·rename_i e';rw[Di,e']at h1;cases h1
 ·rw[h.sq hf];simp
theorem FD:∀ l:List Bool,qx (l.map fun x=>.d (.bl x))=some l
 | []=>rfl
 | x::r=>by simp[qx,FD r]
theorem Cm:∀ l:List (List Nat),strsOf (l.map fun x=>.d (.str x))=some l
 | []=>rfl
 | x::r=>by simp[strsOf,Cm r]
theorem Qz{l:List Bool}{r:RV}(h:Lv p σ r .bl l):Ev R p σ (GC [r]) (.ok (l.all id)) (pD .bl p σ):=Ev.at (r:=fun v=>RV.val (Val.d (D.bl v))) fun sg hf=>by
 show(match (lv _ r).bind qx with | some ns=>aS (.bl (ns.all id)) _ | _=>Res.stuck)=_
 rw[(h sg hf).1,Option.bind_some,FD];rfl
def uM(i:Int):M (List Nat):=(gd (decide (i.natAbs.log2<1920))).bind fun _=>.ok (cO i)
theorem K5{a:Int}:Ev R p σ (xP [.val (.d (.int a))]) (uM a) (pD .str p σ):=Ev.gd (r:=fun v=>RV.val (Val.d (D.str v))) fun h sg _=>by
 show(if a.natAbs.log2<1920 then _ else _)=_
 rw[if_pos (of_decide_eq_true h)];rfl
theorem Cg{a:Bool}:Ev R p σ (xD [.val (.d (.bl a))]) (.ok (if a=true then 1 else 0)) (pD .int p σ):=Ev.at (r:=fun v=>RV.val (Val.d (D.int v))) fun sg _=>rfl
theorem vA{e:T→D}{l:List T}{r:RV}(h:Lv p σ r e l){sg:Slots}(hf:Fits p sg):dZ ⟨sg,σ⟩ r=true:=by rw[QO,(h sg hf).1];rfl
def iy(l:List T)(x:T):M (List T):=(gd (decide (l.length<sizeLine))).bind fun _=>.ok (l++[x])
theorem sR{e:T→D}{l:List T}{x:T}(h:p[i]? =some (some (.own (oL e l)))):Ev R p σ (bAppend (.own i) [.val (.d (e x))]) (iy l x) (fun v=>(.val (.d .non),p.set i (some (.own (oL e v))),σ)):=fun sg hf=>by
 unfold iy
 by_cases hl:l.length<sizeLine
 ·rw[show decide (l.length<sizeLine)=true from decide_eq_true hl,xq,M.aa]
  refine⟨_,?_,hf.set i _⟩
  have h:=hf.2 _ _ h
  simp[h,hl,oL]
 ·rw[show decide (l.length<sizeLine)=false from decide_eq_false hl];trivial
def CS(l:List T):M (T×List T):=match l[l.length- 1]? with
  | some y=>.ok (y,l.dropLast)
  | none=>.bad
theorem Rc{e:T→D}{l:List T}{S:List T→List Ob}(h:σ[n]? =some (oL e l))(hs:∀ l',σ.set n (oL e l')=S l'):Ev R p σ (zo (.val (.r n)) []) (CS l) (fun v=>(.val (.d (e v.1)),p,S v.2)):=fun sg hf=>by
 unfold CS
 cases h2:l[l.length- 1]? with
 | none=>trivial
 | some y=>
  refine⟨sg,?_,hf⟩
  dsimp only
  rw[←hs]
  simp[h,h2,List.map_dropLast,oL]
def joinM(a:List Nat)(ys:List (List Nat)):M (List Nat):=(gd (decide ((ys.map (·.length)).sum+ys.length*a.length≤16777216))).bind fun _=>.ok (tA a ys)
theorem yM{a:List Nat}{l:List (List Nat)}{r:RV}(h:Lv p σ r .str l):Ev R p σ (qA (.val (.d (.str a))) [r]) (joinM a l) (pD .str p σ):=Ev.gd (r:=fun v=>RV.val (Val.d (D.str v))) fun hb sg hf=>by
 show(match dv _ _,(Vw.sq _ r).bind strsOf with | some (.str a),some ys=>_ | _,_=>Res.stuck)=_
 rw[h.sq hf,Option.bind_some,Cm]
 simp only[rl]
 rw[if_pos (of_decide_eq_true hb)];rfl
end
end Vw
namespace Vw
open PySem L2
def nox{T:Type}:M T→M T
 | .ok a=>.ok a
 | _=>.bad
@[simp] theorem d6{T:Type}(a:T):nox (.ok a)=.ok a:=id rfl
@[simp] theorem TR{T:Type}:nox (.bad:M T)=.bad:=id rfl
def cE{T:Type}(R:List Ob→Prop)(g:Fn)(args:List Val)(σ:List Ob)(m:M T)(post:T→RV×List Ob):Prop:=
 match m with
 | .ok v=>g args σ=.ok (post v).1 ⟨[],(post v).2⟩
 | .exc x=>∃ s,g args σ=.exc x s∧R s.st
 | .bad=>True
section
variable{R R':List Ob→Prop}{p p':Pt}{σ σ':List Ob}{α β γ T U W A B C:Type}{i j n:Nat}
theorem cE.up{g:Fn}{args:List Val}{m:M T}{post:T→RV×List Ob}(h:cE R g args σ m post)(w:∀ s,R s→R' s):cE R' g args σ m post:=by
 cases m with
 | ok v=>exact h
 | exc x=>obtain⟨s,e,r⟩:=h;exact⟨s,e,w _ r⟩
 | bad=>trivial
theorem jo{k:Nat}{fs:List (State→Res RV)}{g:Fn}{mA:M A}{rs:A→List RV}{P:A→Pt}{S:A→List Ob}{vs:A→List Val}{Q:A→Pt}{mg:A→M T}{pg:A→T→RV×List Ob}{post:T→RV×Pt×List Ob}(h:Ev R p σ (aw fs) mA (fun v=>(rs v,P v,S v)))(hc:∀ v,Cap (S v) (P v) (rs v) (vs v) (Q v))(hl:∀ v,(vs v).length=k)(hg:∀ v,cE R' g (vs v) (S v) (mg v) (pg v))(hp:∀ v w,post w=((pg v w).1,Q v,(pg v w).2)):Ev R p σ (bh k (aw fs) g) (mA.bind fun v=>nox (mg v)) post:=by
 refine Ev.bind h fun v sg hf=>?_
 obtain⟨sg2,e2,hf2⟩:=(hc v).run sg hf
 have hg:=hg v
 show Rn R ((bc (rs v) ⟨sg,S v⟩).bind fun args s=>if args.length=k then fm g args s else .stuck) (nox (mg v)) post
 rw[e2,Res.aa,if_pos (hl v),FJ]
 cases hm:mg v with
 | ok w=>
  rw[hm]at hg
  rw[show g (vs v) (S v)=_ from hg,Co]
  exact⟨sg2,by rw[hp v w],by rw[hp v w];exact hf2⟩
 | exc x=>trivial
 | bad=>trivial
theorem sY{k:Nat}{fs:List (State→Res RV)}{g:Fn}{mA:M A}{rs:A→List RV}{P:A→Pt}{S:A→List Ob}{vs:A→List Val}{Q:A→Pt}{mg:A→M T}{pg:A→T→RV×List Ob}{post:T→RV×Pt×List Ob}(h:Ev R p σ (aw fs) mA (fun v=>(rs v,P v,S v)))(hc:∀ v,Cap (S v) (P v) (rs v) (vs v) (Q v))(hl:∀ v,(vs v).length=k)(hg:∀ v,cE R g (vs v) (S v) (mg v) (pg v))(hp:∀ v w,post w=((pg v w).1,Q v,(pg v w).2)):Ev R p σ (cK k (aw fs) g) (mA.bind mg) post:=by
 refine Ev.bind h fun v sg hf=>?_
 obtain⟨sg2,e2,hf2⟩:=(hc v).run sg hf
 have hg:=hg v
 show Rn R ((bc (rs v) ⟨sg,S v⟩).bind fun args s=>if args.length=k then gF g args s else .stuck) (mg v) post
 rw[e2,Res.aa,if_pos (hl v)]
 show Rn R (match g (vs v) (S v)with | .ok r s2=>.ok r ⟨sg2,s2.st⟩ | .exc x s2=>.exc x ⟨sg2,s2.st⟩ | .stuck=>.stuck) (mg v) post
 cases hm:mg v with
 | ok w=>
  rw[hm]at hg
  rw[show g (vs v) (S v)=_ from hg]
  exact⟨sg2,by rw[hp v w],by rw[hp v w];exact hf2⟩
 | exc x=>
  rw[hm]at hg
  obtain⟨s,e,r⟩:=hg
  rw[e]
  exact⟨_,rfl,r⟩
 | bad=>trivial
def zj(p:Pt)(σ:List Ob)(x:Val)(c m:String):Prop:=∃ fl,(∀ sg,Fits p sg→yG ⟨sg,σ⟩ (.val x)=some (c,fl))∧fl.contains m=false
theorem iw{c m:String}{fs:List (String×Val)}(hσ:σ[n]? =some (.ins c fs))(h:(fs.map (·.1)).contains m=false):zj p σ (.r n) c m:=⟨_,fun sg hf=>by
 unfold yG
 simp[hσ],h⟩
theorem HP{c m:String}{k:Nat}{fo:State→Res RV}{fs:List (State→Res RV)}{g:Fn}{mo:M B}{xo:B→Val}{Po:B→Pt}{So:B→List Ob}{mA:B→M A}{rs:B→A→List RV}{P:B→A→Pt}{S:B→A→List Ob}{vs:B→A→List Val}{Q:B→A→Pt}{mg:B→A→M T}{pg:B→A→T→RV×List Ob}{post:T→RV×Pt×List Ob}(ho:Ev R p σ (ev fo) mo (fun b=>(.val (xo b),Po b,So b)))(hi:∀ b,zj (Po b) (So b) (xo b) c m)(h:∀ b,Ev R (Po b) (So b) (aw fs) (mA b) (fun v=>(rs b v,P b v,S b v)))(hc:∀ b v,Cap (S b v) (P b v) (rs b v) (vs b v) (Q b v))(hl:∀ b v,(vs b v).length+1=k)(hg:∀ b v,cE R' g (xo b::vs b v) (S b v) (mg b v) (pg b v))(hp:∀ b v w,post w=((pg b v w).1,Q b v,(pg b v w).2)):Ev R p σ (gW fm c m k fo (aw fs) g) (mo.bind fun b=>(mA b).bind fun v=>nox (mg b v)) post:=by
 refine Ev.bind ho fun b sg hf=>?_
 obtain⟨fl,hi,hfl⟩:=hi b
 dsimp only
 rw[hi sg hf]
 dsimp only
 rw[if_pos ⟨rfl,hfl⟩]
 refine Ev.bind (h b) (fun v sg hf=>?_) sg hf
 obtain⟨sg2,e2,hf2⟩:=(hc b v).run sg hf
 have hg:=hg b v
 show Rn R ((bc (rs b v) ⟨sg,S b v⟩).bind fun args s=>if args.length+1=k then fm g (xo b::args) s else .stuck) (nox (mg b v)) post
 rw[e2,Res.aa,if_pos (hl b v),FJ]
 cases hm:mg b v with
 | ok w=>
  rw[hm]at hg
  rw[show g (xo b::vs b v) (S b v)=_ from hg,Co]
  exact⟨sg2,by rw[hp b v w],by rw[hp b v w];exact hf2⟩
 | exc x=>trivial
 | bad=>trivial
theorem NV{c m:String}{k:Nat}{fo:State→Res RV}{fs:List (State→Res RV)}{g:Fn}{mo:M B}{xo:B→Val}{Po:B→Pt}{So:B→List Ob}{mA:B→M A}{rs:B→A→List RV}{P:B→A→Pt}{S:B→A→List Ob}{vs:B→A→List Val}{Q:B→A→Pt}{mg:B→A→M T}{pg:B→A→T→RV×List Ob}{post:T→RV×Pt×List Ob}(ho:Ev R p σ (ev fo) mo (fun b=>(.val (xo b),Po b,So b)))(hi:∀ b,zj (Po b) (So b) (xo b) c m)(h:∀ b,Ev R (Po b) (So b) (aw fs) (mA b) (fun v=>(rs b v,P b v,S b v)))(hc:∀ b v,Cap (S b v) (P b v) (rs b v) (vs b v) (Q b v))(hl:∀ b v,(vs b v).length+1=k)(hg:∀ b v,cE R g (xo b::vs b v) (S b v) (mg b v) (pg b v))(hp:∀ b v w,post w=((pg b v w).1,Q b v,(pg b v w).2)):Ev R p σ (gW gF c m k fo (aw fs) g) (mo.bind fun b=>(mA b).bind fun v=>mg b v) post:=by
 refine Ev.bind ho fun b sg hf=>?_
 obtain⟨fl,hi,hfl⟩:=hi b
 dsimp only
 rw[hi sg hf]
 dsimp only
 rw[if_pos ⟨rfl,hfl⟩]
 refine Ev.bind (h b) (fun v sg hf=>?_) sg hf
 obtain⟨sg2,e2,hf2⟩:=(hc b v).run sg hf
 have hg:=hg b v
 show Rn R ((bc (rs b v) ⟨sg,S b v⟩).bind fun args s=>if args.length+1=k then gF g (xo b::args) s else .stuck) (mg b v) post
 rw[e2,Res.aa,if_pos (hl b v)]
 show Rn R (match g (xo b::vs b v) (S b v)with | .ok r s2=>.ok r ⟨sg2,s2.st⟩ | .exc x s2=>.exc x ⟨sg2,s2.st⟩ | .stuck=>.stuck) (mg b v) post
 cases hm:mg b v with
 | ok w=>
  rw[hm]at hg
  rw[show g (xo b::vs b v) (S b v)=_ from hg]
  exact⟨sg2,by rw[hp b v w],by rw[hp b v w];exact hf2⟩
 | exc x=>
  rw[hm]at hg
  obtain⟨s,e,r⟩:=hg
  rw[e]
  exact⟨_,rfl,r⟩
 | bad=>trivial
abbrev pS(E:T→Val)(p:Pt)(σ:List Ob):List T→List Val×Pt×List Ob:=fun l=>(l.map E,p,σ)
def chars(t:List Nat):List (List Nat):=t.map fun c=>[c]
def B9(l:List T):List (Int×T):=l.mapIdx fun i x=>((i:Int),x)
theorem Jr{f:State→Res RV}{m:M (List T)}{e:T→D}{P:Pt}{S:List Ob}(h:Ev R p σ (ev f) m (pD (eL e) P S)):Ev R p σ (sD f itemsOf) m (pS (fun x=>.d (e x)) P S):=fun sg hf=>by
 have:=h sg hf
 cases m with
 | ok v=>obtain⟨sg',e1,hf'⟩:=this;exact⟨sg',by rw[pV,e1,Res.aa];simp[Function.comp_def],hf'⟩
 | exc x=>obtain⟨s,e,r⟩:=this;exact⟨s,by rw[pV,e];rfl,r⟩
 | bad=>trivial
theorem Jy{sg:Slots}{st:List Ob}{o:Ob}{d:D}(h:sg[i]? =some (some (.own o)))(hd:o.toD=some d):nG (.own i) ⟨sg,st⟩=.ok d ⟨sg.set i (some (.v (.d d))),st⟩:=by
 rw[Ja,Nn,h]
 dsimp only
 rw[hd]
theorem Qb{l:List T}{e:T→D}(h:p[i]? =some (some (.own (oL e l)))):Ev R p σ (sD (ae i) itemsOf) (.ok l) (pS (fun x=>.d (e x)) (p.set i (some (.v (.d (eL e l))))) σ):=fun sg hf=>by
 refine⟨_,?_,hf.set i _⟩
 have h:=hf.2 _ _ h
 rw[pV,rp,mH,h]
 dsimp only
 rw[Res.aa,Sj,Res.aa,Jy h (bN e l),Res.aa]
 simp[Function.comp_def]
theorem xJ{f:State→Res RV}{m:M (List Nat)}{P:Pt}{S:List Ob}(h:Ev R p σ (ev f) m (pD .str P S)):Ev R p σ (sD f itemsOf) (m.bind fun t=>.ok (chars t)) (pS (fun x=>.d (.str x)) P S):=fun sg hf=>by
 have:=h sg hf
 cases m with
 | ok v=>obtain⟨sg',e1,hf'⟩:=this;exact⟨sg',by rw[pV,e1,Res.aa];simp[Function.comp_def,chars],hf'⟩
 | exc x=>obtain⟨s,e,r⟩:=this;exact⟨s,by rw[pV,e];rfl,r⟩
 | bad=>trivial
theorem O4{f:State→Res RV}{m:M (List T)}{e:T→D}{P:Pt}{S:List Ob}(h:Ev R p σ (ev f) m (pD (eL e) P S)):Ev R p σ (sD f p9) (m.bind fun l=>.ok (B9 l)) (pS (fun x=>.d (aP .int e x)) P S):=fun sg hf=>by
 have:=h sg hf
 cases m with
 | ok v=>
  obtain⟨sg',e1,hf'⟩:=this
  refine⟨sg',?_,hf'⟩
  rw[pV,e1,Res.aa]
  simp only[Ja,sM,Res.aa,Pf]
  congr 1
  unfold B9
  apply List.ext_getElem?
  intro i
  simp only[List.getElem?_mapIdx,List.getElem?_map]
  cases v[i]? <;> rfl
 | exc x=>obtain⟨s,e,r⟩:=this;exact⟨s,by rw[pV,e];rfl,r⟩
 | bad=>trivial
end
end Vw
namespace Vw
open PySem L2
section
variable{R R':List Ob→Prop}{p p':Pt}{σ σ':List Ob}{α β γ T U W A B C:Type}{i j n:Nat}
def lC(lo hi:Int):M (List Int):=(gd (decide (-(2^62)≤lo∧lo<2^62∧ -(2^62)≤hi∧hi<2^62))).bind fun _=>.ok ((List.range (hi-lo).toNat).map fun(i:Nat)=>lo+(i:Int))
theorem ON{lo hi:Int}:Ev R p σ (mQ lo hi) (lC lo hi) (pS (fun x=>.d (.int x)) p σ):=fun sg hf=>by
 unfold lC mQ
 by_cases h: -(2^62)≤lo∧lo<2^62∧ -(2^62)≤hi∧hi<2^62
 ·rw[decide_eq_true h,xq,M.aa,if_pos h]
  exact⟨sg,by simp[Function.comp_def],hf⟩
 ·rw[decide_eq_false h];trivial
theorem RF{fs:List (State→Res RV)}{b:List RV→State→Res (List Val)}{m:M A}{rs:A→List RV}{P:A→Pt}{S:A→List Ob}{mk:A→M T}{post:T→List Val×Pt×List Ob}(h:Ev R p σ (aw fs) m (fun v=>(rs v,P v,S v)))(hb:∀ v,Ev R (P v) (S v) (b (rs v)) (mk v) post):Ev R p σ (gV (aw fs) b) (m.bind mk) post:=Ev.bind h hb
theorem ze{a:Int}:Ev R p σ (fL [.val (.d (.int a))]) (lC 0 a) (pS (fun x=>.d (.int x)) p σ):=ON
def oo(p:Pt)(t:Tg)(v:Val)(q:Pt):Prop:=∀ sg σ,Fits p sg→∃ sg',gE t v ⟨sg,σ⟩=some ⟨sg',σ⟩∧Fits q sg'
def G5(p:Pt)(t:List Tg)(v:List Val)(q:Pt):Prop:=∀ sg σ,Fits p sg→∃ sg',oK t v ⟨sg,σ⟩=some ⟨sg',σ⟩∧Fits q sg'
theorem eS{v:Val}:oo p (.nm i) v (p.set i (some (.v v))):=fun sg σ hf=>⟨_,rfl,hf.set i _⟩
theorem zr{ts:List Tg}{l:List D}{vs:List Val}{q:Pt}(hv:vs=l.map .d)(hl:l.length=ts.length)(h:G5 p ts vs q):oo p (.tp ts) (.d (.tup l)) q:=fun sg σ hf=>by
 obtain⟨sg',e,hf'⟩:=h sg σ hf
 refine⟨sg',?_,hf'⟩
 subst hv
 rw[LY,QT]
 dsimp only
 rw[if_pos (by simpa using hl)]
 exact e
theorem vL:G5 p [] [] p:=fun sg σ hf=>⟨sg,rfl,hf⟩
theorem jD{t:Tg}{ts:List Tg}{v:Val}{vs:List Val}{q q':Pt}(h1:oo p t v q)(h2:G5 q ts vs q'):G5 p (t::ts) (v::vs) q':=fun sg σ hf=>by
 obtain⟨sg1,e1,hf1⟩:=h1 sg σ hf
 obtain⟨sg2,e2,hf2⟩:=h2 sg1 σ hf1
 exact⟨sg2,by rw[Mg,e1];exact e2,hf2⟩
def hE(mt:T→M Bool)(me:T→M U):List U→List T→M (List U)
 | acc,[]=>.ok acc
 | acc,x::l=>(mt x).bind fun b=>if b=true then(me x).bind fun y=>(gd (decide (acc.length<sizeLine))).bind fun _=>hE mt me (acc++[y]) l else hE mt me acc l
def fM(mt:T→M Bool)(me:T→M U)(l:List T):M (List U):=nox (hE mt me [] l)
theorem ui{f:State→Res RV}{m:M T}{e:T→D}{P:T→Pt}{S:T→List Ob}(h:Ev R p σ f m (fun v=>(.val (.d (e v)),P v,S v))):Ev R p σ (fun s=>(f s).bind cf) m (fun v=>(Val.d (e v),P v,S v)):=fun sg hf=>by
 have:=h sg hf
 cases m with
 | ok v=>obtain⟨sg',e,hf'⟩:=this;exact⟨sg',by show(f _).bind cf=_;rw[e];rfl,hf'⟩
 | exc x=>obtain⟨s,e,r⟩:=this;exact⟨s,by show(f _).bind cf=_;rw[e];rfl,r⟩
 | bad=>trivial
def iS(mt:T→C→M Bool)(me:T→C→M (U×C)):List U→List T→C→M (List U×C)
 | acc,[],c=>.ok (acc,c)
 | acc,x::l,c=>(mt x c).bind fun b=>if b=true then(me x c).bind fun y=>(gd (decide (acc.length<sizeLine))).bind fun _=>iS mt me (acc++[y.1]) l y.2 else iS mt me acc l c
def oH(mt:T→C→M Bool)(me:T→C→M (U×C))(l:List T)(c:C):M (List U×C):=nox (iS mt me [] l c)
theorem y4{vs:List Nat}{t:Tg}{ft:State→Res Bool}{fe:State→Res RV}{E:T→Val}{e:U→D}{S:C→List Ob}{mt:T→C→M Bool}{me:T→C→M (U×C)}{p2 p3:T→Pt}(hv:(vs.all fun v=>(p.getD v none).isNone)=true)
  (hb:∀ x c,oo p t (E x) (p2 x)∧Ev R (p2 x) (S c) ft (mt x c) (fun b=>(b,p2 x,S c))∧Ev R (p2 x) (S c) (fun s=>(fe s).bind cf) (me x c) (fun y=>(.d (e y.1),p3 x,S y.2))) (hw2:∀ x,ek p (p2 x)) (hw3:∀ x,ek p (p3 x)):
  ∀ (l:List T) (acc:List U) (c:C) (sg:Slots),Fits p sg→match iS mt me acc l c with
   | .ok r=>∃ sg',tW vs t ft fe (l.map E) (acc.map fun x=>.d (e x)) ⟨sg,S c⟩=.ok (r.1.map fun x=>.d (e x)) ⟨sg',S r.2⟩∧Fits p sg'
   | _=>True
 | [],acc,c,sg,hf=>⟨sg,rfl,hf⟩
 | x::l,acc,c,sg,hf=>by
  obtain⟨h1,h2,h3⟩:=hb x c
  have ew:bG vs ⟨sg,S c⟩=⟨fQ sg vs,S c⟩:=rfl
  obtain⟨sg1,e1,f1⟩:=h1 _ (S c) (hf.wipe vs hv)
  have h2:=h2 sg1 f1
  unfold iS
  rw[List.map_cons]
  have step:tW vs t ft fe (E x::l.map E) (acc.map fun x=>.d (e x)) ⟨sg,S c⟩=(match ft ⟨sg1,S c⟩with
   | .ok true s=>match fe s with
    | .ok rv s=>match cf rv s with
     | .ok y s=>if(acc.map fun x=>Val.d (e x)).length<sizeLine then tW vs t ft fe (l.map E) ((acc.map fun x=>Val.d (e x))++[y]) (bG vs s)else .stuck
     | _=>.stuck
    | _=>.stuck
   | .ok false s=>tW vs t ft fe (l.map E) (acc.map fun x=>.d (e x)) (bG vs s)
   | _=>.stuck):=by
   show(match gE t (E x) (bG vs ⟨sg,S c⟩)with | none=>Res.stuck | some s=>_)=_
   rw[ew,e1]
   try rfl
  rw[step]
  cases hm:mt x c with
  | ok b=>
   rw[hm]at h2
   obtain⟨sg2,e2,f2⟩:=h2
   rw[M.aa,e2]
   cases b with
   | true=>
    have h3:=h3 sg2 f2
    rw[if_pos rfl]
    cases hy:me x c with
    | ok y=>
     rw[hy]at h3
     obtain⟨sg3,e3,f3⟩:=h3
     rw[M.aa]
     by_cases ha:acc.length<sizeLine
     ·rw[decide_eq_true ha,xq,M.aa]
      have e3:(fe ⟨sg2,S c⟩).bind cf=.ok (.d (e y.1)) ⟨sg3,S y.2⟩:=e3
      cases hfe:fe ⟨sg2,S c⟩with
      | ok rv s=>
       rw[hfe,Res.aa]at e3
       dsimp only
       rw[hfe]
       dsimp only
       rw[e3]
       dsimp only
       rw[if_pos (by simpa using ha)]
       have ih:=y4 hv hb hw2 hw3 l (acc++[y.1]) y.2 (fQ sg3 vs) ((f3.weak (hw3 x)).wipe vs hv)
       rw[List.map_append]at ih
       exact ih
      | exc z s=>rw[hfe]at e3;cases e3
      | stuck=>rw[hfe]at e3;cases e3
     ·rw[decide_eq_false ha];trivial
    | exc z=>trivial
    | bad=>trivial
   | false=>
    rw[if_neg (by simp)]
    dsimp only
    exact y4 hv hb hw2 hw3 l acc c (fQ sg2 vs) ((f2.weak (hw2 x)).wipe vs hv)
  | exc z=>trivial
  | bad=>trivial
theorem GV{vs:List Nat}{t:Tg}{src:State→Res (List Val)}{ft:State→Res Bool}{fe:State→Res RV}{ml:M A}{lA:A→List T}{E:T→Val}{q:Pt}{e:U→D}{S:C→List Ob}{cA:A→C}{mt:T→C→M Bool}{me:T→C→M (U×C)}{p2 p3:T→Pt}(hs:Ev R p σ src ml (fun a=>((lA a).map E,q,S (cA a))))(hv:(vs.all fun v=>(q.getD v none).isNone)=true)
  (hb:∀ x c,oo q t (E x) (p2 x)∧Ev R (p2 x) (S c) ft (mt x c) (fun b=>(b,p2 x,S c))∧Ev R (p2 x) (S c) (fun s=>(fe s).bind cf) (me x c) (fun y=>(.d (e y.1),p3 x,S y.2))) (hw2:∀ x,ek q (p2 x)) (hw3:∀ x,ek q (p3 x)):
  Ev R p σ (jZ vs t src ft fe) (ml.bind fun a=>oH mt me (lA a) (cA a)) (fun r=>(.new (oL e r.1),q,S r.2)):=Ev.bind hs fun a sg hf=>by
 have:=y4 (R:=R) (fe:=fe) (ft:=ft) (me:=me) (mt:=mt) hv hb hw2 hw3 (lA a) [] (cA a) (fQ sg vs) (hf.wipe vs hv)
 unfold oH
 cases hc:iS mt me [] (lA a) (cA a)with
 | ok r=>
  rw[hc]at this
  obtain⟨sg',e1,f1⟩:=this
  refine⟨sg',?_,f1⟩
  have e1:tW vs t ft fe ((lA a).map E) [] (bG vs ⟨sg,S (cA a)⟩)=_:=e1
  show(tW vs t ft fe ((lA a).map E) [] (bG vs ⟨sg,S (cA a)⟩)).bind A0=_
  rw[e1];rfl
 | exc x=>trivial
 | bad=>trivial
theorem Ap(mt:T→M Bool)(me:T→M U):∀ (l:List T) (acc:List U),iS (C:=Unit) (fun x _=>mt x) (fun x _=>(me x).bind fun y=>.ok (y,())) acc l ()=(hE mt me acc l).bind fun r=>.ok (r,())
 | [],acc=>rfl
 | x::l,acc=>by
  unfold iS hE
  cases mt x with
  | ok b=>
   cases b with
   | true=>
    simp only[M.aa,if_pos]
    cases me x with
    | ok y=>
     simp only[M.aa]
     cases decide (acc.length<sizeLine)with
     | true=>simp only[xq,M.aa];exact Ap mt me l _
     | false=>rfl
    | exc z=>rfl
    | bad=>rfl
   | false=>
    simp only[M.aa]
    exact Ap mt me l acc
  | exc z=>rfl
  | bad=>rfl
theorem KZ{vs:List Nat}{t:Tg}{src:State→Res (List Val)}{ft:State→Res Bool}{fe:State→Res RV}{ml:M (List T)}{E:T→Val}{q:Pt}{τ:List Ob}{e:U→D}{mt:T→M Bool}{me:T→M U}{p2 p3:T→Pt}(hs:Ev R p σ src ml (fun l=>(l.map E,q,τ)))(hv:(vs.all fun v=>(q.getD v none).isNone)=true)
  (hb:∀ x,oo q t (E x) (p2 x)∧Ev R (p2 x) τ ft (mt x) (fun b=>(b,p2 x,τ))∧Ev R (p2 x) τ (fun s=>(fe s).bind cf) (me x) (fun y=>(.d (e y),p3 x,τ))) (hw2:∀ x,ek q (p2 x)) (hw3:∀ x,ek q (p3 x)):
  Ev R p σ (jZ vs t src ft fe) (ml.bind fun l=>fM mt me l) (fun r=>(.new (oL e r),q,τ)):=by
 have h:=GV (R:=R) (C:=Unit) (S:=fun _=>τ) (cA:=fun _=>()) (lA:=fun l=>l) (mt:=fun x _=>mt x) (me:=fun x _=>(me x).bind fun y=>.ok (y,())) (e:=e) (p3:=p3) hs hv (fun x c=>⟨(hb x).1,(hb x).2.1,Ev.map (fun y=>(y,())) _ (hb x).2.2 fun v=>rfl⟩) hw2 hw3
 intro sg hf
 have h:=h sg hf
 cases ml with
 | ok l=>
  show Rn R _ (fM mt me l) _
  have h:Rn R _ (oH (C:=Unit) (fun x _=>mt x) (fun x _=>(me x).bind fun y=>.ok (y,())) l ()) _:=h
  unfold oH at h
  unfold fM
  rw[Ap]at h
  revert h
  cases hE mt me [] l<;> intro h<;> exact h
 | exc x=>exact h
 | bad=>trivial
theorem rL:Ev R p σ eD (.ok true) (pB p σ):=Ev.pure (r:=fun v:Bool=>v)
end
end Vw
namespace Vw
open PySem L2
@[simp] theorem M.bind_pure{α:Type}(m:M α):(m.bind fun v=>.ok v)=m:=by cases m<;> rfl
inductive OutS where
 | nx (p:Pt) (σ:List Ob)
 | go (p:Pt) (σ:List Ob)
 | brk (p:Pt) (σ:List Ob)
 | ret (rv:RV) (σ:List Ob)
def G2(r:Res Fl):OutS→Prop
 | .nx p σ=>∃ sg,r=.ok .nx ⟨sg,σ⟩∧Fits p sg
 | .go p σ=>∃ sg,(r=.ok .nx ⟨sg,σ⟩∨r=.ok .cnt ⟨sg,σ⟩)∧Fits p sg
 | .brk p σ=>∃ sg,r=.ok .brk ⟨sg,σ⟩∧Fits p sg
 | .ret rv σ=>∃ r0 sg,r=.ok (.ret r0) ⟨sg,σ⟩∧nJ ⟨sg,σ⟩ r0=some rv
def Sg{T:Type}(w:Bool)(R:List Ob→Prop)(p:Pt)(σ:List Ob)(b:State→Res Fl)(m:M T)(post:T→OutS):Prop:=∀ sg,Fits p sg→match m with
 | .ok v=>G2 (b ⟨sg,σ⟩) (post v)∧(w=true→∀ s,b ⟨sg,σ⟩≠ .ok .nx s)
 | .exc x=>∃ s,b ⟨sg,σ⟩=.exc x s∧R s.st
 | .bad=>True
inductive Lp (C Q:Type) where
 | go (c:C)
 | brk (c:C)
 | ret (q:Q)
def foldM{C T:Type}(f:C→T→M C):C→List T→M C
 | c,[]=>.ok c
 | c,x::l=>(f c x).bind fun c=>foldM f c l
def ku{C T Q:Type}(f:C→T→M (Lp C Q)):C→List T→M (C ⊕ Q)
 | c,[]=>.ok (.inl c)
 | c,x::l=>(f c x).bind fun o=>match o with
  | .go c=>ku f c l
  | .brk c=>.ok (.inl c)
  | .ret q=>.ok (.inr q)
def qQ{C:Type}(t:C→M Bool)(f:C→M C):Nat→C→M C
 | 0,_=>.bad
 | n+1,c=>(t c).bind fun b=>if b=true then(f c).bind fun c=>qQ t f n c else .ok c
@[simp] theorem iq{C T:Type}(f:C→T→M C)(c:C):foldM f c []=.ok c:=id rfl
@[simp] theorem cu{C T:Type}(f:C→T→M C)(c:C)(x:T)(l:List T):foldM f c (x::l)=(f c x).bind fun c=>foldM f c l:=id rfl
@[simp] theorem RR{C T Q:Type}(f:C→T→M (Lp C Q))(c:C):ku f c []=.ok (.inl c):=id rfl
theorem yz{C T Q:Type}(f:C→T→M (Lp C Q))(c:C)(x:T)(l:List T):ku f c (x::l)=(f c x).bind fun o=>match o with
  | .go c=>ku f c l
  | .brk c=>.ok (.inl c)
  | .ret q=>.ok (.inr q):=rfl
def pL{C Q U:Type}(k:C→M U)(ι:Q→U):C ⊕ Q→M U
 | .inl c=>k c
 | .inr q=>.ok (ι q)
@[simp] theorem Cr{C Q U:Type}(k:C→M U)(ι:Q→U)(c:C):pL k ι (.inl c)=k c:=id rfl
@[simp] theorem HK{C Q U:Type}(k:C→M U)(ι:Q→U)(q:Q):pL k ι (.inr q)=.ok (ι q):=id rfl
section
variable{R R':List Ob→Prop}{p p' q:Pt}{σ σ':List Ob}{α β γ T U W A B C Q:Type}{i j n:Nat}{w:Bool}
theorem pj{v:T}{post:T→OutS}(hp:post v=.nx p' σ)(hw:ek p' p):Sg false R p σ (ai []) (.ok v) post:=fun sg hf=>⟨by rw[hp];exact⟨sg,rfl,hf.weak hw⟩,fun h=>by cases h⟩
theorem jK{v:T}{post:T→OutS}(hp:post v=.go p' σ)(hw:ek p' p):Sg false R p σ (ai []) (.ok v) post:=fun sg hf=>⟨by rw[hp];exact⟨sg,.inl rfl,hf.weak hw⟩,fun h=>by cases h⟩
theorem kH{s:State→Res Fl}{rest:List (State→Res Fl)}{m:M A}{P:A→Pt}{S:A→List Ob}{k:A→M T}{post:T→OutS}(hs:Ev R p σ s m (fun v=>(.nx,P v,S v)))(hr:∀ v,Sg w R (P v) (S v) (ai rest) (k v) post):Sg w R p σ (ai (s::rest)) (m.bind k) post:=fun sg hf=>by
 have:=hs sg hf
 cases m with
 | ok v=>
  obtain⟨sg',e,f⟩:=this
  have h2:=hr v sg' f
  rw[M.aa,jc e]
  exact h2
 | exc x=>
  obtain⟨s',e,r⟩:=this
  exact⟨s',by rw[j3,e,CG],r⟩
 | bad=>trivial
theorem JX{r:Res Fl}{k:State→Res Fl}(h:∀ s,r≠ .ok .nx s):n8 r k=r:=by
 cases r with
 | ok f s=>
  cases f with
  | nx=>exact absurd rfl (h s)
  | ret r=>rfl
  | brk=>rfl
  | cnt=>rfl
 | exc x s=>rfl
 | stuck=>rfl
theorem aU{s:State→Res Fl}{rest:List (State→Res Fl)}{m:M T}{post:T→OutS}(hs:Sg true R p σ s m post):Sg w R p σ (ai (s::rest)) m post:=fun sg hf=>by
 have:=hs sg hf
 cases m with
 | ok v=>
  have h2:=this.2 rfl
  rw[j3,JX h2]
  exact⟨this.1,fun _=>h2⟩
 | exc x=>
  obtain⟨s',e,r⟩:=this
  exact⟨s',by rw[j3,e,CG],r⟩
 | bad=>trivial
theorem Sg.weak{b:State→Res Fl}{m:M T}{post:T→OutS}(h:Sg true R p σ b m post):Sg w R p σ b m post:=fun sg hf=>by
 have:=h sg hf
 cases m with
 | ok v=>exact⟨this.1,fun _=>this.2 rfl⟩
 | exc x=>exact this
 | bad=>trivial
theorem iH{f:State→Res RV}{m:M A}{x:A→Val}{P:A→Pt}{S:A→List Ob}{φ:A→T}{post:T→OutS}(h:Ev R p σ f m (fun v=>(.val (x v),P v,S v)))(hp:∀ v,post (φ v)=.ret (.val (x v)) (S v)):Sg true R p σ (aN f) (m.bind fun v=>.ok (φ v)) post:=fun sg hf=>by
 have:=h sg hf
 cases m with
 | ok v=>
  obtain⟨sg',e,f⟩:=this
  refine⟨?_,fun _ s h=>?_⟩
  ·rw[hp]
   exact⟨.val (x v),sg',by rw[mU,e];rfl,rfl⟩
  ·rw[mU,e]at h
   cases h
 | exc x=>
  obtain⟨s',e,r⟩:=this
  exact⟨s',by rw[mU,e];rfl,r⟩
 | bad=>trivial
theorem OQ{f:State→Res RV}{m:M A}{x:A→Ob}{P:A→Pt}{S:A→List Ob}{φ:A→T}{post:T→OutS}(h:Ev R p σ f m (fun v=>(.new (x v),P v,S v)))(hp:∀ v,post (φ v)=.ret (.new (x v)) (S v)):Sg true R p σ (aN f) (m.bind fun v=>.ok (φ v)) post:=fun sg hf=>by
 have:=h sg hf
 cases m with
 | ok v=>
  obtain⟨sg',e,f⟩:=this
  refine⟨?_,fun _ s h=>?_⟩
  ·rw[hp]
   exact⟨.new (x v),sg',by rw[mU,e];rfl,rfl⟩
  ·rw[mU,e]at h
   cases h
 | exc x=>
  obtain⟨s',e,r⟩:=this
  exact⟨s',by rw[mU,e];rfl,r⟩
 | bad=>trivial
theorem NB{o:Ob}{a:T}{post:T→OutS}(h:p[i]? =some (some (.own o)))(hp:post a=.ret (.new o) σ):Sg true R p σ (aN (ae i)) (.ok a) post:=fun sg hf=>by
 have h:=hf.2 _ _ h
 refine⟨?_,fun _ s h'=>?_⟩
 ·rw[hp]
  exact⟨.own i,sg,by rw[mU,mH,h];rfl,by rw[Np,h]⟩
 ·rw[mU,mH,h]at h'
  cases h'
theorem Ms{c:String}{post:T→OutS}(hr:R σ):Sg true R p σ (sr c) (.exc ⟨c,none⟩) post:=fun sg hf=>⟨_,rfl,hr⟩
theorem Jp{c:String}{f:State→Res RV}{m:M A}{e:A→D}{S:A→List Ob}{P:A→Pt}{post:T→OutS}(h:Ev R p σ (ev f) m (fun v=>(.val (.d (e v)),P v,S v)))(hr:∀ v,R (S v)):Sg true R p σ (vK c f) (m.bind fun v=>.exc ⟨c,some (e v)⟩) post:=fun sg hf=>by
 have:=h sg hf
 cases m with
 | ok v=>
  obtain⟨sg',e1,f⟩:=this
  refine⟨⟨sg',S v⟩,?_,hr v⟩
  show(ev _ _).bind _=_
  rw[e1];rfl
 | exc x=>
  obtain⟨s',e1,r⟩:=this
  refine⟨s',?_,r⟩
  show(ev _ _).bind _=_
  rw[e1];rfl
 | bad=>trivial
theorem CA{as bs:List (State→Res Fl)}{s:State}:n8 (ai as s) (ai bs)=ai (as++bs) s:=by
 induction as generalizing s with
 | nil=>rfl
 | cons a as ih=>
  rw[List.cons_append,j3,j3]
  cases a s with
  | ok f s'=>
   cases f with
   | nx=>rw[sx,sx];exact ih
   | ret r=>rfl
   | brk=>rfl
   | cnt=>rfl
  | exc x s'=>rfl
  | stuck=>rfl
theorem jO{t:State→Res Bool}{As Bs rest:List (State→Res Fl)}{mt:M A}{b:A→Bool}{P:A→Pt}{S:A→List Ob}{mA mB:A→M T}{post:T→OutS}(ht:Ev R p σ t mt (fun v=>(b v,P v,S v)))(hA:∀ v,Sg w R (P v) (S v) (ai (As++rest)) (mA v) post)(hB:∀ v,Sg w R (P v) (S v) (ai (Bs++rest)) (mB v) post):Sg w R p σ (ai (bC t (ai As) (ai Bs)::rest)) (mt.bind fun v=>if b v=true then mA v else mB v) post:=fun sg hf=>by
 have:=ht sg hf
 cases mt with
 | ok v=>
  obtain⟨sg',e,f⟩:=this
  rw[M.aa,j3,Eg,e,Res.aa]
  dsimp only
  by_cases hb:b v=true
  ·have h2:=hA v sg' f
   simp only[if_pos hb,CA]
   exact h2
  ·have h2:=hB v sg' f
   simp only[if_neg hb,CA]
   exact h2
 | exc x=>
  obtain⟨s',e,r⟩:=this
  exact⟨s',by rw[j3,Eg,e];rfl,r⟩
 | bad=>trivial
theorem B6{t:State→Res Bool}{As Bs rest:List (State→Res Fl)}{mt:M A}{b:A→Bool}{P:A→Pt}{S:A→List Ob}{mA mB:A→M C}{Pc:C→Pt}{Sc:C→List Ob}{k:C→M T}{post:T→OutS}(ht:Ev R p σ t mt (fun v=>(b v,P v,S v)))(hA:∀ v,Sg false R (P v) (S v) (ai As) (mA v) (fun c=>.nx (Pc c) (Sc c)))(hB:∀ v,Sg false R (P v) (S v) (ai Bs) (mB v) (fun c=>.nx (Pc c) (Sc c)))(hr:∀ c,Sg w R (Pc c) (Sc c) (ai rest) (k c) post):Sg w R p σ (ai (bC t (ai As) (ai Bs)::rest)) ((mt.bind fun v=>if b v=true then mA v else mB v).bind k) post:=by
 refine kH (P:=Pc) (S:=Sc) (fun sg hf=>?_) hr
 have:=ht sg hf
 cases mt with
 | ok v=>
  obtain⟨sg',e,f⟩:=this
  rw[M.aa,Eg,e,Res.aa]
  dsimp only
  by_cases hb:b v=true
  ·have h2:=hA v sg' f
   simp only[if_pos hb]
   cases hm:mA v with
   | ok c=>rw[hm]at h2;exact h2.1
   | exc x=>rw[hm]at h2;exact h2
   | bad=>trivial
  ·have h2:=hB v sg' f
   simp only[if_neg hb]
   cases hm:mB v with
   | ok c=>rw[hm]at h2;exact h2.1
   | exc x=>rw[hm]at h2;exact h2
   | bad=>trivial
 | exc x=>
  obtain⟨s',e,r⟩:=this
  exact⟨s',by rw[Eg,e];rfl,r⟩
 | bad=>trivial
theorem cU{f:State→Res RV}{m:M A}{x:A→Val}{P:A→Pt}{S:A→List Ob}(h:Ev R p σ f m (fun v=>(.val (x v),P v,S v))):Ev R p σ (aJ i f) m (fun v=>(.nx,(P v).set i (some (.v (x v))),S v)):=fun sg hf=>by
 have:=h sg hf
 cases m with
 | ok v=>obtain⟨sg',e,f⟩:=this;exact⟨_,by rw[Ci,e];rfl,f.set i _⟩
 | exc x=>obtain⟨s',e,r⟩:=this;exact⟨s',by rw[Ci,e];rfl,r⟩
 | bad=>trivial
theorem kW{f:State→Res RV}{m:M A}{x:A→Ob}{P:A→Pt}{S:A→List Ob}(h:Ev R p σ f m (fun v=>(.new (x v),P v,S v))):Ev R p σ (aJ i f) m (fun v=>(.nx,(P v).set i (some (.own (x v))),S v)):=fun sg hf=>by
 have:=h sg hf
 cases m with
 | ok v=>obtain⟨sg',e,f⟩:=this;exact⟨_,by rw[Ci,e];rfl,f.set i _⟩
 | exc x=>obtain⟨s',e,r⟩:=this;exact⟨s',by rw[Ci,e];rfl,r⟩
 | bad=>trivial
theorem RG{t:Tg}{f:State→Res RV}{m:M A}{x:A→Val}{P:A→Pt}{Q:A→Pt}{S:A→List Ob}(h:Ev R p σ (ev f) m (fun v=>(.val (x v),P v,S v)))(ht:∀ v,oo (P v) t (x v) (Q v)):Ev R p σ (B5 t f) m (fun v=>(.nx,Q v,S v)):=fun sg hf=>by
 have:=h sg hf
 cases m with
 | ok v=>
  obtain⟨sg',e,f'⟩:=this
  obtain⟨sg2,e2,f2⟩:=ht v sg' (S v) f'
  refine⟨sg2,?_,f2⟩
  show(ev _ _).bind _=_
  rw[e,Res.aa]
  dsimp only[sM]
  rw[sM]
  dsimp only
  rw[e2];rfl
 | exc x=>obtain⟨s',e,r⟩:=this;exact⟨s',by show(ev _ _).bind _=_;rw[e];rfl,r⟩
 | bad=>trivial
theorem kZ{f:State→Res RV}{m:M A}{r:A→RV}{P:A→Pt}{S:A→List Ob}(h:Ev R p σ f m (fun v=>(r v,P v,S v))):Ev R p σ (bY f) m (fun v=>(.nx,P v,S v)):=fun sg hf=>by
 have:=h sg hf
 cases m with
 | ok v=>obtain⟨sg',e,f⟩:=this;exact⟨sg',by rw[D1,e];rfl,f⟩
 | exc x=>obtain⟨s',e,r⟩:=this;exact⟨s',by rw[D1,e];rfl,r⟩
 | bad=>trivial
theorem Ef{t:Tg}{b:State→Res Fl}{E:T→Val}{P:C→Pt}{S:C→List Ob}{p2:C→T→Pt}{mb:C→T→M C}(ht:∀ c x,oo (P c) t (E x) (p2 c x))(hb:∀ c x,Sg false R (p2 c x) (S c) b (mb c x) (fun c'=>.go (P c') (S c'))):
  ∀ (l:List T) (c:C) (sg:Slots),Fits (P c) sg→Rn R (jB t b (l.map E) ⟨sg,S c⟩) (foldM mb c l) (fun c'=>(.nx,P c',S c'))
 | [],c,sg,hf=>⟨sg,rfl,hf⟩
 | x::l,c,sg,hf=>by
  obtain⟨sg1,e1,f1⟩:=ht c x sg (S c) hf
  have h:=hb c x sg1 f1
  rw[List.map_cons,CL,e1,cu]
  dsimp only
  cases hm:mb c x with
  | ok c'=>
   rw[hm]at h
   obtain⟨⟨sg2,e2,f2⟩,_⟩:=h
   have ih:=Ef ht hb l c' sg2 f2
   rw[M.aa]
   rcases e2 with e2 | e2
   ·rw[e2,Ai];exact ih
   ·rw[e2,DP];exact ih
  | exc z=>
   rw[hm]at h
   obtain⟨s',e,r⟩:=h
   exact⟨s',by rw[e];rfl,r⟩
  | bad=>trivial
theorem qz{t:Tg}{src:State→Res (List Val)}{b:State→Res Fl}{ml:M A}{lA:A→List T}{E:T→Val}{q:A→Pt}{S0:A→List Ob}{c0:A→C}{P:C→Pt}{S:C→List Ob}{p2:C→T→Pt}{mb:C→T→M C}(hs:Ev R p σ src ml (fun a=>((lA a).map E,q a,S0 a)))(hw:∀ a,ek (P (c0 a)) (q a))(hS:∀ a,S0 a=S (c0 a))(ht:∀ c x,oo (P c) t (E x) (p2 c x))(hb:∀ c x,Sg false R (p2 c x) (S c) b (mb c x) (fun c'=>.go (P c') (S c'))):Ev R p σ (gD t src b) (ml.bind fun a=>foldM mb (c0 a) (lA a)) (fun c'=>(.nx,P c',S c')):=Ev.bind hs fun a sg hf=>by
 dsimp only at hf ⊢
 rw[hS a]
 exact Ef ht hb (lA a) (c0 a) sg (hf.weak (hw a))
theorem CF{t:Tg}{b:State→Res Fl}{E:T→Val}{P:C→Pt}{S:C→List Ob}{p2:C→T→Pt}{mb:C→T→M (Lp C Q)}{rv:Q→RV}{Sr:Q→List Ob}(ht:∀ c x,oo (P c) t (E x) (p2 c x))(hb:∀ c x,Sg false R (p2 c x) (S c) b (mb c x) (fun o=>match o with | .go c=>.go (P c) (S c) | .brk c=>.brk (P c) (S c) | .ret q=>.ret (rv q) (Sr q))):
  ∀ (l:List T) (c:C) (sg:Slots),Fits (P c) sg→match ku mb c l with
   | .ok o=>G2 (jB t b (l.map E) ⟨sg,S c⟩) (match o with | .inl c=>.nx (P c) (S c) | .inr q=>.ret (rv q) (Sr q))
   | .exc x=>∃ s,jB t b (l.map E) ⟨sg,S c⟩=.exc x s∧R s.st
   | .bad=>True
 | [],c,sg,hf=>⟨sg,rfl,hf⟩
 | x::l,c,sg,hf=>by
  obtain⟨sg1,e1,f1⟩:=ht c x sg (S c) hf
  have h:=hb c x sg1 f1
  rw[List.map_cons,CL,e1,yz]
  dsimp only
  cases hm:mb c x with
  | ok o=>
   rw[hm]at h
   rw[M.aa]
   cases o with
   | go c'=>
    obtain⟨⟨sg2,e2,f2⟩,_⟩:=h
    have ih:=CF ht hb l c' sg2 f2
    dsimp only
    rcases e2 with e2 | e2
    ·rw[e2,Ai];exact ih
    ·rw[e2,DP];exact ih
   | brk c'=>
    obtain⟨⟨sg2,e2,f2⟩,_⟩:=h
    exact⟨sg2,by rw[e2];rfl,f2⟩
   | ret q=>
    obtain⟨⟨r0,sg2,e2,f2⟩,_⟩:=h
    exact⟨r0,sg2,by rw[e2];rfl,f2⟩
  | exc z=>
   rw[hm]at h
   obtain⟨s',e,r⟩:=h
   exact⟨s',by rw[e];rfl,r⟩
  | bad=>trivial
theorem Na{t:Tg}{src:State→Res (List Val)}{b:State→Res Fl}{rest:List (State→Res Fl)}{ml:M A}{lA:A→List T}{E:T→Val}{q:A→Pt}{S0:A→List Ob}{c0:A→C}{P:C→Pt}{S:C→List Ob}{p2:C→T→Pt}{mb:C→T→M (Lp C Q)}{rv:Q→RV}{Sr:Q→List Ob}{k:C→M U}{ι:Q→U}{post:U→OutS}(hs:Ev R p σ src ml (fun a=>((lA a).map E,q a,S0 a)))(hw:∀ a,ek (P (c0 a)) (q a))(hS:∀ a,S0 a=S (c0 a))(ht:∀ c x,oo (P c) t (E x) (p2 c x))(hb:∀ c x,Sg false R (p2 c x) (S c) b (mb c x) (fun o=>match o with | .go c=>.go (P c) (S c) | .brk c=>.brk (P c) (S c) | .ret q=>.ret (rv q) (Sr q)))(hι:∀ q,post (ι q)=.ret (rv q) (Sr q))(hr:∀ c,Sg w R (P c) (S c) (ai rest) (k c) post):Sg w R p σ (ai (gD t src b::rest)) (ml.bind fun a=>(ku mb (c0 a) (lA a)).bind (pL k ι)) post:=fun sg hf=>by
 have:=hs sg hf
 cases ml with
 | ok a=>
  obtain⟨sg',e,f⟩:=this
  have h:=CF ht hb (lA a) (c0 a) sg' (f.weak (hw a))
  dsimp only at e
  rw[hS a]at e
  rw[M.aa,j3,GG,e,Res.aa]
  cases hl:ku mb (c0 a) (lA a)with
  | ok o=>
   rw[hl]at h
   rw[M.aa]
   cases o with
   | inl c=>
    obtain⟨sg2,e2,f2⟩:=h
    rw[e2,sx,Cr]
    exact hr c sg2 f2
   | inr z=>
    obtain⟨r0,sg2,e2,f2⟩:=h
    rw[e2,xp,HK]
    exact⟨by rw[hι];exact⟨r0,sg2,rfl,f2⟩,fun _ s h=>by cases h⟩
  | exc x=>
   rw[hl]at h
   obtain⟨s',e2,r⟩:=h
   exact⟨s',by rw[e2];rfl,r⟩
  | bad=>trivial
 | exc x=>
  obtain⟨s',e,r⟩:=this
  exact⟨s',by rw[j3,GG,e];rfl,r⟩
 | bad=>trivial
theorem IJ{t:State→Res Bool}{b:State→Res Fl}{P:C→Pt}{S:C→List Ob}{mt:C→M Bool}{mb:C→M C}(ht:∀ c,Ev R (P c) (S c) t (mt c) (fun v=>(v,P c,S c)))(hb:∀ c,Sg false R (P c) (S c) b (mb c) (fun c'=>.go (P c') (S c'))):∀ (n:Nat) (c:C) (sg:Slots),Fits (P c) sg→Rn R (lZ n t b ⟨sg,S c⟩) (qQ mt mb n c) (fun c'=>(.nx,P c',S c'))
 | 0,c,sg,hf=>trivial
 | n+1,c,sg,hf=>by
  have h1:=ht c sg hf
  unfold qQ lZ
  cases hm:mt c with
  | ok v=>
   rw[hm]at h1
   obtain⟨sg1,e1,f1⟩:=h1
   rw[e1,Res.aa,M.aa]
   cases v with
   | false=>
    rw[if_neg (by simp),if_neg (by simp)]
    exact⟨sg1,rfl,f1⟩
   | true=>
    rw[if_pos rfl,if_pos rfl]
    have h2:=hb c sg1 f1
    cases hb':mb c with
    | ok c'=>
     rw[hb']at h2
     obtain⟨⟨sg2,e2,f2⟩,_⟩:=h2
     have ih:=IJ ht hb n c' sg2 f2
     dsimp only
     rw[M.aa]
     rcases e2 with e2 | e2
     ·rw[e2];exact ih
     ·rw[e2];exact ih
    | exc z=>
     rw[hb']at h2
     obtain⟨s',e,r⟩:=h2
     exact⟨s',by dsimp only;rw[e],r⟩
    | bad=>trivial
  | exc z=>
   rw[hm]at h1
   obtain⟨s',e,r⟩:=h1
   exact⟨s',by rw[e];rfl,r⟩
  | bad=>trivial
theorem JA{N:Nat}{t:State→Res Bool}{b:State→Res Fl}{P:C→Pt}{S:C→List Ob}{mt:C→M Bool}{mb:C→M C}{c0:C}(hw:ek (P c0) p)(hS:σ=S c0)(ht:∀ c,Ev R (P c) (S c) t (mt c) (fun v=>(v,P c,S c)))(hb:∀ c,Sg false R (P c) (S c) b (mb c) (fun c'=>.go (P c') (S c'))):Ev R p σ (lZ N t b) (qQ mt mb N c0) (fun c'=>(.nx,P c',S c')):=fun sg hf=>by
 subst hS
 exact IJ ht hb N c0 sg (hf.weak hw)
theorem dE{N:Nat}{b:State→Res Fl}{args:List Val}{m:M T}{post:T→RV×List Ob}(h:Sg true R (args.map (fun x=>some (.v x))++List.replicate (N-args.length) none) σ b m (fun v=>.ret (post v).1 (post v).2)):cE R (cW N b) args σ m post:=by
 have h:=h _ ⟨rfl,fun _ _ h=>h⟩
 cases m with
 | ok v=>
  obtain⟨⟨r0,sg,e,f⟩,_⟩:=h
  show cW N b args σ=_
  rw[u7,e,E8,f]
 | exc x=>
  obtain⟨s,e,r⟩:=h
  exact⟨⟨[],s.st⟩,by rw[u7,e,E2],r⟩
 | bad=>trivial
theorem JL{N:Nat}{b:State→Res Fl}{args:List Val}{m:M T}{P:T→Pt}{post:T→RV×List Ob}(h:Sg w R (args.map (fun x=>some (.v x))++List.replicate (N-args.length) none) σ b m (fun v=>.nx (P v) (post v).2))(hp:∀ v,(post v).1=.val (.d .non)):cE R (cW N b) args σ m post:=by
 have h:=h _ ⟨rfl,fun _ _ h=>h⟩
 cases m with
 | ok v=>
  obtain⟨⟨sg,e,f⟩,_⟩:=h
  show cW N b args σ=_
  rw[u7,e,N1,hp]
 | exc x=>
  obtain⟨s,e,r⟩:=h
  exact⟨⟨[],s.st⟩,by rw[u7,e,E2],r⟩
 | bad=>trivial
end
end Vw
namespace Vw
open PySem L2
section
variable{R R':List Ob→Prop}{p p':Pt}{σ σ':List Ob}{α β γ T U W A B C:Type}{i j n:Nat}{w:Bool}
theorem aB{fa fb:State→Res RV}{k:RV→RV→State→Res RV}{a:T}{b:U}{m:M W}{ra:T→RV}{Pa:T→Pt}{Sa:T→List Ob}{rb:U→RV}{Pb:U→Pt}{Sb:U→List Ob}{post:W→RV×Pt×List Ob}(ha:Ev R p σ (ev fa) (.ok a) (fun v=>(ra v,Pa v,Sa v)))(hb:Ev R (Pa a) (Sa a) (ev fb) (.ok b) (fun v=>(rb v,Pb v,Sb v)))(hk:Ev R (Pb b) (Sb b) (k (ra a) (rb b)) m post):Ev R p σ (ao fa fb k) m post:=Ev.gB ha (Ev.gB hb hk)
theorem jv{fa fb:State→Res RV}{k:RV→RV→State→Res RV}{a:T}{mb:M U}{mk:U→M W}{ra:T→RV}{Pa:T→Pt}{Sa:T→List Ob}{rb:U→RV}{Pb:U→Pt}{Sb:U→List Ob}{post:W→RV×Pt×List Ob}(ha:Ev R p σ (ev fa) (.ok a) (fun v=>(ra v,Pa v,Sa v)))(hb:Ev R (Pa a) (Sa a) (ev fb) mb (fun v=>(rb v,Pb v,Sb v)))(hk:∀ b,Ev R (Pb b) (Sb b) (k (ra a) (rb b)) (mk b) post):Ev R p σ (ao fa fb k) (mb.bind fun b=>mk b) post:=Ev.gB ha (Ev.bind hb hk)
theorem bO{fa fb:State→Res RV}{k:RV→RV→State→Res RV}{ma:M T}{b:T→U}{mk:T→M W}{ra:T→RV}{Pa:T→Pt}{Sa:T→List Ob}{rb:T→U→RV}{Pb:T→U→Pt}{Sb:T→U→List Ob}{post:W→RV×Pt×List Ob}(ha:Ev R p σ (ev fa) ma (fun v=>(ra v,Pa v,Sa v)))(hb:∀ a,Ev R (Pa a) (Sa a) (ev fb) (.ok (b a)) (fun v=>(rb a v,Pb a v,Sb a v)))(hk:∀ a,Ev R (Pb a (b a)) (Sb a (b a)) (k (ra a) (rb a (b a))) (mk a) post):Ev R p σ (ao fa fb k) (ma.bind fun a=>mk a) post:=Ev.bind ha fun a=>Ev.gB (hb a) (hk a)
theorem pP{fa fb:State→Res RV}{k:RV→RV→State→Res RV}{ma:M T}{mb:T→M U}{mk:T→U→M W}{ra:T→RV}{Pa:T→Pt}{Sa:T→List Ob}{rb:T→U→RV}{Pb:T→U→Pt}{Sb:T→U→List Ob}{post:W→RV×Pt×List Ob}(ha:Ev R p σ (ev fa) ma (fun v=>(ra v,Pa v,Sa v)))(hb:∀ a,Ev R (Pa a) (Sa a) (ev fb) (mb a) (fun v=>(rb a v,Pb a v,Sb a v)))(hk:∀ a b,Ev R (Pb a b) (Sb a b) (k (ra a) (rb a b)) (mk a b) post):Ev R p σ (ao fa fb k) (ma.bind fun a=>(mb a).bind fun b=>mk a b) post:=Ev.bind ha fun a=>Ev.bind (hb a) fun b=>hk a b
theorem SI{f:State→Res RV}{a:Int}(h:Ev R p σ (ev f) (.ok a) (pD .int p σ)):Ev R p σ (Du f) (.ok (-a)) (pD .int p σ):=OP h
theorem ah{f:State→Res RV}{fs:List (State→Res RV)}{a:A}{m2:M B}{r1:A→RV}{P1:A→Pt}{S1:A→List Ob}{rs:B→List RV}{P:B→Pt}{S:B→List Ob}(h1:Ev R p σ (ev f) (.ok a) (fun v=>(r1 v,P1 v,S1 v)))(h2:Ev R (P1 a) (S1 a) (aw fs) m2 (fun w=>(rs w,P w,S w))):Ev R p σ (aw (f::fs)) m2 (fun z=>(r1 a::rs z,P z,S z)):=
 Ev.gB h1 (by
  intro sg hf
  have:=h2 sg hf
  cases m2 with
  | ok v=>
   obtain⟨sg',e,f⟩:=this
   exact⟨sg',by dsimp only;rw[e];rfl,f⟩
  | exc x=>
   obtain⟨s,e,r⟩:=this
   exact⟨s,by dsimp only;rw[e];rfl,r⟩
  | bad=>trivial)
theorem cY{fs:List (State→Res RV)}{b:List RV→State→Res RV}{a:A}{rs:A→List RV}{P:A→Pt}{S:A→List Ob}{m:M T}{post:T→RV×Pt×List Ob}(h:Ev R p σ (aw fs) (.ok a) (fun v=>(rs v,P v,S v)))(hb:Ev R (P a) (S a) (b (rs a)) m post):Ev R p σ (bW (aw fs) b) m post:=Ev.gB h hb
theorem Gk{fs:List (State→Res RV)}{b:List RV→State→Res (List Val)}{a:A}{rs:A→List RV}{P:A→Pt}{S:A→List Ob}{m:M T}{post:T→List Val×Pt×List Ob}(h:Ev R p σ (aw fs) (.ok a) (fun v=>(rs v,P v,S v)))(hb:Ev R (P a) (S a) (b (rs a)) m post):Ev R p σ (gV (aw fs) b) m post:=Ev.gB h hb
theorem bE{k:Nat}{fs:List (State→Res RV)}{g:Fn}{a:A}{rs:A→List RV}{P:A→Pt}{S:A→List Ob}{vs:List Val}{Q:Pt}{mg:M T}{pg:T→RV×List Ob}{post:T→RV×Pt×List Ob}(h:Ev R p σ (aw fs) (.ok a) (fun v=>(rs v,P v,S v)))(hc:Cap (S a) (P a) (rs a) vs Q)(hl:vs.length=k)(hg:cE R' g vs (S a) mg pg)(hp:∀ w,post w=((pg w).1,Q,(pg w).2)):Ev R p σ (bh k (aw fs) g) (nox mg) post:=
 jo (R':=R') (mA:=M.ok a) (vs:=fun _=>vs) (Q:=fun _=>Q) (mg:=fun _=>mg) (pg:=fun _=>pg) (rs:=fun _=>rs a) (P:=fun _=>P a) (S:=fun _=>S a) (Ev.bH h rfl) (fun _=>hc) (fun _=>hl) (fun _=>hg) (fun _=>hp)
theorem jR{k:Nat}{fs:List (State→Res RV)}{g:Fn}{a:A}{rs:A→List RV}{P:A→Pt}{S:A→List Ob}{vs:List Val}{Q:Pt}{mg:M T}{pg:T→RV×List Ob}{post:T→RV×Pt×List Ob}(h:Ev R p σ (aw fs) (.ok a) (fun v=>(rs v,P v,S v)))(hc:Cap (S a) (P a) (rs a) vs Q)(hl:vs.length=k)(hg:cE R g vs (S a) mg pg)(hp:∀ w,post w=((pg w).1,Q,(pg w).2)):Ev R p σ (cK k (aw fs) g) mg post:=
 sY (mA:=M.ok a) (vs:=fun _=>vs) (Q:=fun _=>Q) (mg:=fun _=>mg) (pg:=fun _=>pg) (rs:=fun _=>rs a) (P:=fun _=>P a) (S:=fun _=>S a) (Ev.bH h rfl) (fun _=>hc) (fun _=>hl) (fun _=>hg) (fun _=>hp)
theorem oO{c m:String}{k:Nat}{fo:State→Res RV}{fs:List (State→Res RV)}{g:Fn}{b:B}{xo:B→Val}{Po:B→Pt}{So:B→List Ob}{a:A}{rs:A→List RV}{P:A→Pt}{S:A→List Ob}{vs:List Val}{Q:Pt}{mg:M T}{pg:T→RV×List Ob}{post:T→RV×Pt×List Ob}(ho:Ev R p σ (ev fo) (.ok b) (fun b=>(.val (xo b),Po b,So b)))(hi:zj (Po b) (So b) (xo b) c m)(h:Ev R (Po b) (So b) (aw fs) (.ok a) (fun v=>(rs v,P v,S v)))(hc:Cap (S a) (P a) (rs a) vs Q)(hl:vs.length+1=k)(hg:cE R' g (xo b::vs) (S a) mg pg)(hp:∀ w,post w=((pg w).1,Q,(pg w).2)):Ev R p σ (gW fm c m k fo (aw fs) g) (nox mg) post:=
 HP (R':=R') (mo:=M.ok b) (xo:=fun _=>xo b) (Po:=fun _=>Po b) (So:=fun _=>So b) (mA:=fun _=>M.ok a) (vs:=fun _ _=>vs) (Q:=fun _ _=>Q) (mg:=fun _ _=>mg) (pg:=fun _ _=>pg) (rs:=fun _ _=>rs a) (P:=fun _ _=>P a) (S:=fun _ _=>S a) (Ev.bH ho rfl) (fun _=>hi) (fun _=>Ev.bH h rfl) (fun _ _=>hc) (fun _ _=>hl) (fun _ _=>hg) (fun _ _=>hp)
theorem md{c m:String}{k:Nat}{fo:State→Res RV}{fs:List (State→Res RV)}{g:Fn}{b:B}{xo:B→Val}{Po:B→Pt}{So:B→List Ob}{a:A}{rs:A→List RV}{P:A→Pt}{S:A→List Ob}{vs:List Val}{Q:Pt}{mg:M T}{pg:T→RV×List Ob}{post:T→RV×Pt×List Ob}(ho:Ev R p σ (ev fo) (.ok b) (fun b=>(.val (xo b),Po b,So b)))(hi:zj (Po b) (So b) (xo b) c m)(h:Ev R (Po b) (So b) (aw fs) (.ok a) (fun v=>(rs v,P v,S v)))(hc:Cap (S a) (P a) (rs a) vs Q)(hl:vs.length+1=k)(hg:cE R g (xo b::vs) (S a) mg pg)(hp:∀ w,post w=((pg w).1,Q,(pg w).2)):Ev R p σ (gW gF c m k fo (aw fs) g) mg post:=
 NV (mo:=M.ok b) (xo:=fun _=>xo b) (Po:=fun _=>Po b) (So:=fun _=>So b) (mA:=fun _=>M.ok a) (vs:=fun _ _=>vs) (Q:=fun _ _=>Q) (mg:=fun _ _=>mg) (pg:=fun _ _=>pg) (rs:=fun _ _=>rs a) (P:=fun _ _=>P a) (S:=fun _ _=>S a) (Ev.bH ho rfl) (fun _=>hi) (fun _=>Ev.bH h rfl) (fun _ _=>hc) (fun _ _=>hl) (fun _ _=>hg) (fun _ _=>hp)
theorem Ln{f g:State→Res Bool}{fs:List (State→Res Bool)}{a b:Bool}(h1:Ev R p σ f (.ok a) (pB p σ))(h2:Ev R p σ (lU (g::fs)) (.ok b) (pB p σ)):Ev R p σ (lU (f::g::fs)) (.ok (a||b)) (pB p σ):=by
 have:=zM h1 h2
 rw[uX]at this
 cases a with
 | true=>exact this
 | false=>exact this
theorem N0{f g:State→Res RV}{fs:List (State→Res RV)}{a b:Bool}(h1:Ev R p σ (ev f) (.ok a) (pD .bl p σ))(h2:Ev R p σ (fN (g::fs)) (.ok b) (pD .bl p σ)):Ev R p σ (fN (f::g::fs)) (.ok (a&&b)) (pD .bl p σ):=by
 have:=EC h1 h2
 rw[h9]at this
 cases a with
 | true=>exact this
 | false=>exact this
theorem ox{T':String}{fo:State→Res RV}{fs:List (State→Res RV)}{b:RV→List RV→State→Res RV}{ty:State→RV→Bool}{a:A}{ro:A→RV}{Po:A→Pt}{So:A→List Ob}{m:M B}{rs:B→List RV}{P:B→Pt}{S:B→List Ob}{mk:B→M T}{post:T→RV×Pt×List Ob}(ho:Ev R p σ (ev fo) (.ok a) (fun v=>(ro v,Po v,So v)))(ht:∀ sg,Fits (Po a) sg→ty ⟨sg,So a⟩ (ro a)=true)(h:Ev R (Po a) (So a) (aw fs) m (fun v=>(rs v,P v,S v)))(hb:∀ v,Ev R (P v) (S v) (b (ro a) (rs v)) (mk v) post):Ev R p σ (fY T' fo (aw fs) b ty) (m.bind fun v=>mk v) post:=fun sg hf=>by
 obtain⟨sg',e,hf'⟩:=ho sg hf
 have h2:=Ev.bind h hb sg' hf'
 rw[Pp,e,Res.aa,ht sg' hf',if_pos rfl]
 exact h2
theorem mZ{T':String}{fo:State→Res RV}{fs:List (State→Res RV)}{b:RV→List RV→State→Res RV}{ty:State→RV→Bool}{a:A}{ro:A→RV}{Po:A→Pt}{So:A→List Ob}{v:B}{rs:B→List RV}{P:B→Pt}{S:B→List Ob}{m:M T}{post:T→RV×Pt×List Ob}(ho:Ev R p σ (ev fo) (.ok a) (fun v=>(ro v,Po v,So v)))(ht:∀ sg,Fits (Po a) sg→ty ⟨sg,So a⟩ (ro a)=true)(h:Ev R (Po a) (So a) (aw fs) (.ok v) (fun v=>(rs v,P v,S v)))(hb:Ev R (P v) (S v) (b (ro a) (rs v)) m post):Ev R p σ (fY T' fo (aw fs) b ty) m post:=fun sg hf=>by
 obtain⟨sg',e,hf'⟩:=ho sg hf
 have h2:=Ev.gB h hb sg' hf'
 rw[Pp,e,Res.aa,ht sg' hf',if_pos rfl]
 exact h2
theorem fO{f:State→Res RV}{lo hi:Par}{x:T}{rx:T→RV}{Px:T→Pt}{Sx:T→List Ob}{a:A}{b:B}{lo':A→Option Int}{hi':B→Option Int}{m:M U}{post:U→RV×Pt×List Ob}(h:Ev R p σ (ev f) (.ok x) (fun v=>(rx v,Px v,Sx v)))(hl:Ev R (Px x) (Sx x) (nh lo) (.ok a) (fun v=>(lo' v,(Px x),(Sx x))))(hh:Ev R (Px x) (Sx x) (nh hi) (.ok b) (fun v=>(hi' v,(Px x),(Sx x))))(hk:Ev R (Px x) (Sx x) (xQ (rx x) (lo' a) (hi' b)) m post):Ev R p σ (iP f lo hi) m post:=Ev.gB h (Ev.gB hl (Ev.gB hh hk))
theorem Rb{f:State→Res RV}{lo hi:Par}{x:T}{rx:T→RV}{Px:T→Pt}{Sx:T→List Ob}{ml:M A}{mh:M B}{lo':A→Option Int}{hi':B→Option Int}{mk:Option Int→Option Int→M U}{post:U→RV×Pt×List Ob}(h:Ev R p σ (ev f) (.ok x) (fun v=>(rx v,Px v,Sx v)))(hl:Ev R (Px x) (Sx x) (nh lo) ml (fun v=>(lo' v,(Px x),(Sx x))))(hh:Ev R (Px x) (Sx x) (nh hi) mh (fun v=>(hi' v,(Px x),(Sx x))))(hk:∀ l h,Ev R (Px x) (Sx x) (xQ (rx x) l h) (mk l h) post):Ev R p σ (iP f lo hi) (ml.bind fun l=>mh.bind fun h=>mk (lo' l) (hi' h)) post:=Ev.gB h (Ev.bind hl fun l=>Ev.bind hh fun k=>hk (lo' l) (hi' k))
theorem eV{t:State→Res Bool}{As Bs rest:List (State→Res Fl)}{c:Bool}{mA mB:M T}{post:T→OutS}(ht:Ev R p σ t (.ok c) (pB p σ))(hA:Sg w R p σ (ai (As++rest)) mA post)(hB:Sg w R p σ (ai (Bs++rest)) mB post):Sg w R p σ (ai (bC t (ai As) (ai Bs)::rest)) (if c=true then mA else mB) post:=
 jO (b:=fun v:Bool=>v) (P:=fun _=>p) (S:=fun _=>σ) (mA:=fun _=>mA) (mB:=fun _=>mB) ht (fun _=>hA) (fun _=>hB)
theorem NG{t:State→Res Bool}{As Bs rest:List (State→Res Fl)}{b:Bool}{mA mB:M C}{Pc:C→Pt}{Sc:C→List Ob}{k:C→M T}{post:T→OutS}(ht:Ev R p σ t (.ok b) (pB p σ))(hA:Sg false R p σ (ai As) mA (fun c=>.nx (Pc c) (Sc c)))(hB:Sg false R p σ (ai Bs) mB (fun c=>.nx (Pc c) (Sc c)))(hr:∀ c,Sg w R (Pc c) (Sc c) (ai rest) (k c) post):Sg w R p σ (ai (bC t (ai As) (ai Bs)::rest)) ((if b=true then mA else mB).bind k) post:=
 B6 (b:=fun v:Bool=>v) (P:=fun _=>p) (S:=fun _=>σ) (mA:=fun _=>mA) (mB:=fun _=>mB) ht (fun _=>hA) (fun _=>hB) hr
theorem K8{s:State→Res Fl}{rest:List (State→Res Fl)}{a:A}{P:A→Pt}{S:A→List Ob}{m:M T}{post:T→OutS}(hs:Ev R p σ s (.ok a) (fun v=>(.nx,P v,S v)))(hr:Sg w R (P a) (S a) (ai rest) m post):Sg w R p σ (ai (s::rest)) m post:=fun sg hf=>by
 obtain⟨sg',e,f⟩:=hs sg hf
 have h2:=hr sg' f
 rw[jc e]
 exact h2
theorem fj{f:State→Res RV}{a:A}{x:A→Val}{P:A→Pt}{S:A→List Ob}{v:T}{post:T→OutS}(h:Ev R p σ f (.ok a) (fun v=>(.val (x v),P v,S v)))(hp:post v=.ret (.val (x a)) (S a)):Sg true R p σ (aN f) (.ok v) post:=
 iH (m:=M.ok a) (x:=fun _=>x a) (P:=fun _=>P a) (S:=fun _=>S a) (φ:=fun _=>v) (Ev.bH h rfl) (fun _=>hp)
theorem Ou{f:State→Res RV}{a:A}{x:A→Ob}{P:A→Pt}{S:A→List Ob}{v:T}{post:T→OutS}(h:Ev R p σ f (.ok a) (fun v=>(.new (x v),P v,S v)))(hp:post v=.ret (.new (x a)) (S a)):Sg true R p σ (aN f) (.ok v) post:=
 OQ (m:=M.ok a) (x:=fun _=>x a) (P:=fun _=>P a) (S:=fun _=>S a) (φ:=fun _=>v) (Ev.bH h rfl) (fun _=>hp)
theorem Em{t:Tg}{src:State→Res (List Val)}{b:State→Res Fl}{l:List T}{E:T→Val}{q:Pt}{S0:List Ob}{c0:C}{P:C→Pt}{S:C→List Ob}{p2:C→T→Pt}{mb:C→T→M C}(hs:Ev R p σ src (.ok l) (fun l=>(l.map E,q,S0)))(hw:ek (P c0) q)(hS:S0=S c0)(ht:∀ c x,oo (P c) t (E x) (p2 c x))(hb:∀ c x,Sg false R (p2 c x) (S c) b (mb c x) (fun c'=>.go (P c') (S c'))):Ev R p σ (gD t src b) (foldM mb c0 l) (fun c'=>(.nx,P c',S c')):=
 qz (ml:=M.ok l) (lA:=fun l=>l) (q:=fun _=>q) (S0:=fun _=>S0) (c0:=fun _=>c0) hs (fun _=>hw) (fun _=>hS) ht hb
theorem L5{t:Tg}{src:State→Res (List Val)}{b:State→Res Fl}{rest:List (State→Res Fl)}{l:List T}{E:T→Val}{q:Pt}{S0:List Ob}{c0:C}{P:C→Pt}{S:C→List Ob}{p2:C→T→Pt}{mb:C→T→M (Lp C Q)}{rv:Q→RV}{Sr:Q→List Ob}{k:C→M U}{ι:Q→U}{post:U→OutS}(hs:Ev R p σ src (.ok l) (fun l=>(l.map E,q,S0)))(hw:ek (P c0) q)(hS:S0=S c0)(ht:∀ c x,oo (P c) t (E x) (p2 c x))(hb:∀ c x,Sg false R (p2 c x) (S c) b (mb c x) (fun o=>match o with | .go c=>.go (P c) (S c) | .brk c=>.brk (P c) (S c) | .ret q=>.ret (rv q) (Sr q)))(hι:∀ q,post (ι q)=.ret (rv q) (Sr q))(hr:∀ c,Sg w R (P c) (S c) (ai rest) (k c) post):Sg w R p σ (ai (gD t src b::rest)) ((ku mb c0 l).bind (pL k ι)) post:=
 Na (ml:=M.ok l) (lA:=fun l=>l) (q:=fun _=>q) (S0:=fun _=>S0) (c0:=fun _=>c0) hs (fun _=>hw) (fun _=>hS) ht hb hι hr
theorem Cj{vs:List Nat}{t:Tg}{src:State→Res (List Val)}{ft:State→Res Bool}{fe:State→Res RV}{l:List T}{E:T→Val}{q:Pt}{τ:List Ob}{e:U→D}{mt:T→M Bool}{me:T→M U}{p2 p3:T→Pt}(hs:Ev R p σ src (.ok l) (fun l=>(l.map E,q,τ)))(hv:(vs.all fun v=>(q.getD v none).isNone)=true)
  (hb:∀ x,oo q t (E x) (p2 x)∧Ev R (p2 x) τ ft (mt x) (fun b=>(b,p2 x,τ))∧Ev R (p2 x) τ (fun s=>(fe s).bind cf) (me x) (fun y=>(.d (e y),p3 x,τ))) (hw2:∀ x,ek q (p2 x)) (hw3:∀ x,ek q (p3 x)):
  Ev R p σ (jZ vs t src ft fe) (fM mt me l) (fun r=>(.new (oL e r),q,τ)):=KZ hs hv hb hw2 hw3
theorem fy{f:State→Res RV}{a:Bool}(h:Ev R p σ (ev f) (.ok a) (pD .bl p σ)):Ev R p σ (aM f) (.ok a) (pB p σ):=tB (b:=fun v=>v) h
theorem IV{f:State→Res Bool}{a:Bool}(h:Ev R p σ f (.ok a) (pB p σ)):Ev R p σ (jy f) (.ok (!a)) (pB p σ):=(Lq (b:=fun v=>v) h).bH rfl
theorem PJ{f:State→Res Bool}{m:M Bool}(h:Ev R p σ f m (pB p σ)):Ev R p σ (jy f) (m.bind fun v=>.ok (!v)) (pB p σ):=Ev.map (fun v=> !v) (pB p σ) (Lq (b:=fun v=>v) h) (fun _=>rfl)
end
theorem EqE.mono{T:Type}[DecidableEq T]{e:T→D}{n m:Nat}(E:EqE e n)(h:n≤m):EqE e m:=by
 have up:∀ (n m:Nat),n≤m→(∀ d,fG n d=true→fG m d=true)∧(∀ l,fB n l=true→fB m l=true):=by
  intro n
  induction n with
  | zero=>
   intro m _
   have hd:∀ d,fG 0 d=true→fG m d=true:=fun d h=>by
    cases d<;> first | (simp[fG]at h;done) | (cases m<;> simp[fG])
   refine⟨hd,fun l=>?_⟩
   induction l with
   | nil=>intro _;simp[fB]
   | cons x l ih=>intro h;simp[fB]at h ⊢;exact⟨hd x h.1,ih h.2⟩
  | succ n ih=>
   intro m hm
   obtain⟨k,rfl⟩:∃ k,m=k+1:=⟨m- 1,by omega⟩
   have ihk:=ih k (by omega)
   have hd:∀ d,fG (n+1) d=true→fG (k+1) d=true:=fun d h=>by
    cases d<;> first | (simp[fG]at h ⊢;exact ihk.2 _ h) | simp[fG]
   refine⟨hd,fun l=>?_⟩
   induction l with
   | nil=>intro _;simp[fB]
   | cons x l ih=>intro h;simp[fB]at h ⊢;exact⟨hd x h.1,ih h.2⟩
 exact⟨E.pl,fun x=>(up n m h).1 _ (E.dp x),E.eq⟩
theorem qI:EqE D.int 0:=⟨fun _=>rfl,fun _=>rfl,E1⟩
theorem qS:EqE D.str 0:=⟨fun _=>rfl,fun _=>rfl,FE⟩
theorem yd{T:Type}[DecidableEq T]{e:T→D}{n:Nat}(E:EqE e n):∀ a b:List T,PyData.eqvAll (dS (a.map e)) (dS (b.map e))=decide (a=b)
 | [],[]=>by simp[dS,PyData.eqvAll]
 | [],_::_=>by simp[dS,PyData.eqvAll]
 | _::_,[]=>by simp[dS,PyData.eqvAll]
 | x::a,y::b=>by
  have h:PyData.eqv (pd (e x)) (pd (e y))=decide (x=y):=E.eq x y
  simp[dS,PyData.eqvAll,yd E a b,h]
theorem qL{T:Type}[DecidableEq T]{e:T→D}{n:Nat}(E:EqE e n):EqE (eL e) (n+1) where
 pl l:=by show iE (l.map e)=true;exact o8 e l fun x _=>E.pl x
 dp l:=by show fB n (l.map e)=true;exact pJ n e l fun x _=>E.dp x
 eq a b:=by
  show PyData.eqv (.list (dS (a.map e))) (.list (dS (b.map e)))=_
  rw[←yd E]
  simp[PyData.eqv]
theorem Fo{A B:Type}[DecidableEq A][DecidableEq B]{a:A→D}{b:B→D}{n m:Nat}(EA:EqE a n)(EB:EqE b m):EqE (aP a b) (max n m+1) where
 pl x:=by simp[aP,fh,iE,EA.pl,EB.pl]
 dp x:=by
  have h1:=(EA.mono (Nat.le_max_left n m)).dp x.1
  have h2:=(EB.mono (Nat.le_max_right n m)).dp x.2
  simp[aP,fG,fB,h1,h2]
 eq x y:=by
  have h1:PyData.eqv (pd (a x.1)) (pd (a y.1))=decide (x.1=y.1):=EA.eq x.1 y.1
  have h2:PyData.eqv (pd (b x.2)) (pd (b y.2))=decide (x.2=y.2):=EB.eq x.2 y.2
  show PyData.eqv (.tuple (dS [a x.1,b x.2])) (.tuple (dS [a y.1,b y.2]))=_
  simp[PyData.eqv,dS,PyData.eqvAll,h1,h2]
  rw[Bool.eq_iff_iff]
  simp[Prod.ext_iff]
end Vw
namespace Vw
open PySem L2
abbrev pN{T:Type}(o:T→Ob)(p:Pt)(σ:List Ob):T→RV×Pt×List Ob:=fun v=>(.new (o v),p,σ)
abbrev pE{T C:Type}(e:T→D)(p:Pt)(S:C→List Ob):T×C→RV×Pt×List Ob:=fun v=>(.val (.d (e v.1)),p,S v.2)
abbrev Lk{T C:Type}(o:T→Ob)(p:Pt)(S:C→List Ob):T×C→RV×Pt×List Ob:=fun v=>(.new (o v.1),p,S v.2)
abbrev R4{T C:Type}(E:T→Val)(p:Pt)(S:C→List Ob):List T×C→List Val×Pt×List Ob:=fun v=>(v.1.map E,p,S v.2)
abbrev UN{T C:Type}(i:Nat)(o:T→Ob)(p:Pt)(S:C→List Ob):T×C→RV×Pt×List Ob:=fun v=>(.val (.d .non),p.set i (some (.own (o v.1))),S v.2)
section
variable{R R':List Ob→Prop}{p p':Pt}{σ σ':List Ob}{α β γ T U W A B C:Type}{i j n:Nat}{w:Bool}
theorem cE.tag{g:Fn}{args:List Val}{m:M T}{rv:T→RV}{S:C→List Ob}(d:C)(h:cE R g args (S d) m (fun v=>(rv v,S d))):cE R g args (S d) (m.bind fun v=>.ok (v,d)) (fun v:T×C=>(rv v.1,S v.2)):=by
 cases m with
 | ok v=>exact h
 | exc x=>exact h
 | bad=>trivial
theorem T9{fa fb fc:State→Res RV}{g g':RV→RV→State→Res RV}{a b c:Int}{k1 k2:Bool}(ha:Ev R p σ (ev fa) (.ok a) (pD .int p σ))(hb:Ev R p σ (ev fb) (.ok b) (pD .int p σ))(hc:Ev R p σ (ev fc) (.ok c) (pD .int p σ))(h1:Ev R p σ (g (.val (.d (.int a))) (.val (.d (.int b)))) (.ok k1) (pD .bl p σ))(h2:Ev R p σ (g' (.val (.d (.int b))) (.val (.d (.int c)))) (.ok k2) (pD .bl p σ)):Ev R p σ (wI fa fb fc g g') (.ok (k1&&k2)) (pD .bl p σ):=Ev.gB ha (Ev.gB hb (Ev.gB h1 (by
 intro sg hf
 show Rn R ((yT (.val (.d (.bl k1))) ⟨sg,σ⟩).bind fun k s=>if k=true then(ev fc s).bind fun w s=>g' (.val (.d (.int b))) w s else aS (.bl false) s) _ _
 rw[Lj]
 simp only[rl,Res.aa]
 cases k1 with
 | true=>
  rw[if_pos rfl]
  exact Ev.gB hc h2 sg hf
 | false=>exact⟨sg,rfl,hf⟩)))
def setM(l:List T)(k:Int)(x:T):M (List T):=match ixN l.length k with | some j=>.ok (l.set j x) | none=>.bad
theorem Nf{e:T→D}{l:List T}{fv fi:State→Res RV}{mv:M T}{mi:M Int}(h:p[i]? =some (some (.own (oL e l))))(hv:Ev R p σ (ev fv) mv (pD e p σ))(hi:∀ v:T,Ev R p σ (ev fi) mi (pD .int p σ)):Ev R p σ (yY (ae i) fi fv) (mv.bind fun a=>mi.bind fun k=>setM l k a) (fun v:List T=>(Fl.nx,p.set i (some (.own (oL e v))),σ)):=Ev.bind hv fun a=>Ev.gB (dc (dg (a:=l) h)) (Ev.bind (hi a) fun k sg hf=>by
 unfold setM
 have h:=hf.2 _ _ h
 cases hk:ixN l.length k with
 | none=>trivial
 | some q=>
  refine⟨_,?_,hf.set i _⟩
  dsimp only[sM]
  rw[sM]
  dsimp only
  rw[Pr,h]
  simp[hk,oL])
def RS(p:Pt)(σ:List Ob)(r:RV)(e:T→D)(l:List (List Nat×T)):Prop:=∀ sg,Fits p sg→oj ⟨sg,σ⟩ r=some (l.map fun p=>(K0.s p.1,Val.d (e p.2)))
theorem Ru{s:State}{k:Bool}{l:List (K0×Val)}(h:s.sg[i]? =some (some (.own (.dic k l)))):oj s (.own i)=some l:=by
 obtain⟨sg,st⟩:=s
 unfold oj
 simp only[GJ,Cb]
 rw[h]
theorem Qk{e:T→D}{l:List (List Nat×T)}(h:p[i]? =some (some (.own (qR e l)))):RS p σ (.own i) e l:=fun sg hf=>Ru (hf.2 _ _ h)
theorem IU{κ κ' α β:Type}[DecidableEq κ][DecidableEq κ'](F:κ→κ')(hF:∀ a b,F a=F b→a=b)(G:α→β)(l:List (κ×α))(k:κ)(x:α):kI (l.map fun p=>(F p.1,G p.2)) (F k) (G x)=(kI l k x).map fun p=>(F p.1,G p.2):=by
 have hF':∀ a,(F a=F k)=(a=k):=fun a=>propext ⟨hF a k,fun z=>by rw[z]⟩
 unfold kI
 rw[List.any_map]
 have:((fun p:κ'×β=>decide (p.1=F k))∘fun p:κ×α=>(F p.1,G p.2))=fun p=>decide (p.1=k):=funext fun p=>by simp[hF']
 rw[this]
 split
 ·rw[List.map_map,List.map_map]
  refine List.map_congr_left fun p _=>?_
  simp only[Function.comp,hF']
  split<;> rfl
 ·simp
theorem Ow:∀ a b:List Nat,K0.s a=K0.s b→a=b:=fun _ _ h=>by cases h;rfl
def D4{κ:Type}[DecidableEq κ](l:List (κ×T))(k:κ)(x:T):M (List (κ×T)):=(gd (decide (l.length<sizeLine))).bind fun _=>.ok (kI l k x)
theorem Oo{e:T→D}{l:List (List Nat×T)}{fv fi:State→Res RV}{mv:M T}{mi:M (List Nat)}(h:p[i]? =some (some (.own (qR e l))))(hv:Ev R p σ (ev fv) mv (pD e p σ))(hi:∀ v:T,Ev R p σ (ev fi) mi (pD .str p σ)):Ev R p σ (yY (ae i) fi fv) (mv.bind fun a=>mi.bind fun k=>D4 l k a) (fun v:List (List Nat×T)=>(Fl.nx,p.set i (some (.own (qR e v))),σ)):=Ev.bind hv fun a=>Ev.gB (dc (dg (a:=l) h)) (Ev.bind (hi a) fun k sg hf=>by
 unfold D4
 have h:=hf.2 _ _ h
 by_cases hl:l.length<sizeLine
 ·rw[decide_eq_true hl,xq,M.aa]
  refine⟨_,?_,hf.set i _⟩
  dsimp only[sM]
  rw[sM]
  dsimp only
  have e0:ve (.own i) (.val (.d (.str k))) (.d (e a)) ⟨sg,σ⟩=some ⟨sg.set i (some (.own (qR e (kI l k a)))),σ⟩:=by
   unfold ve
   rw[Cb,h]
   simp only[rl,qR]
   show(if(l.map fun p=>(K0.s p.1,Val.d (e p.2))).length<sizeLine then _ else _)=_
   rw[if_pos (by simpa using hl),IU K0.s Ow (fun x=>Val.d (e x)) l k a,QM,D0,h]
  rw[e0];rfl
 ·rw[decide_eq_false hl];trivial)
end
end Vw
namespace Vw
open PySem L2
section
variable{R R':List Ob→Prop}{p p':Pt}{σ σ':List Ob}{α β γ T U W A B C:Type}{i j n:Nat}{w:Bool}
theorem jN{Tf:List (String×String)}{f c:String}{fs:List (String×Val)}{a:T}{e:T→Val}(h:p[i]? =some (some (.v (.r n))))(hσ:σ[n]? =some (.ins c fs))(hT:Tf.contains (c,f)=true)(hk:uA fs f=some (e a)):Ev R p σ (ly Tf f (ae i)) (.ok a) (fun v=>(.val (e v),p,σ)):=Ev.at (r:=fun v=>RV.val (e v)) fun sg hf=>by
 have h:=hf.2 _ _ h
 show(ev (ae i) ⟨sg,σ⟩).bind _=_
 rw[rp,mH,h]
 dsimp only
 rw[Res.aa,Pd,Res.aa]
 simp only[QG,Gj,hσ]
 rw[if_pos hT,hk]
theorem Cn{Tf:List (String×String)}{f c:String}{op:Bop}{g:Int→Int→Int}{fv:State→Res RV}{fs:List (String×Val)}{a:Int}{mv:M Int}{φ:Int→U}{S:U→List Ob}(hg:Gr op=some g)(h:p[i]? =some (some (.v (.r n))))(hσ:σ[n]? =some (.ins c fs))(hT:(Tf.contains (c,f)&&decide (fs.length<1000))=true)(hk:uA fs f=some (.d (.int a)))(hv:Ev R p σ (ev fv) mv (pD .int p σ))(hs:∀ b,σ.set n (.ins c (yN f (.d (.int (g a b))) fs))=S (φ b)):Ev R p σ (mP Tf f op (ae i) fv) (mv.bind fun b=>.ok (φ b)) (fun v:U=>(Fl.nx,p,S v)):=fun sg hf=>by
 have h:=hf.2 _ _ h
 have hl:fs.length<1000:=by simpa using (Bool.and_eq_true_iff.mp hT).2
 have e0:mP Tf f op (ae i) fv ⟨sg,σ⟩=(ev fv ⟨sg,σ⟩).bind fun y s=>match dv s y,ob s (.val (.r n))with
    | some (.int b),some (.ins c' fs')=>if c'=c∧fs'.length<1000 then .ok .nx (wr (.val (.r n)) (.ins c (yN f (.d (.int (g a b))) fs')) s)else .stuck
    | _,_=>.stuck:=by
  unfold mP
  rw[hg]
  dsimp only
  rw[rp,mH,h]
  dsimp only
  rw[Res.aa,Pd,Res.aa]
  simp only[Gj,hσ]
  rw[if_pos hT,hk]
  try rfl
 rw[e0]
 have:=hv sg hf
 cases mv with
 | ok b=>
  obtain⟨sg',e,f'⟩:=this
  refine⟨sg',?_,f'⟩
  rw[e,Res.aa]
  simp only[rl,Gj,hσ]
  rw[if_pos ⟨trivial,hl⟩,Q5,hs]
 | exc x=>obtain⟨s',e,r⟩:=this;exact⟨s',by rw[e];rfl,r⟩
 | bad=>trivial
theorem MY{c m:String}{k:Nat}{fo:State→Res RV}{fs:List (State→Res RV)}{g:Fn}{b:B}{xo:B→Val}{Po:B→Pt}{So:B→List Ob}{mA:M A}{rs:A→List RV}{P:A→Pt}{S:A→List Ob}{vs:A→List Val}{Q:A→Pt}{mg:A→M T}{pg:A→T→RV×List Ob}{post:T→RV×Pt×List Ob}(ho:Ev R p σ (ev fo) (.ok b) (fun b=>(.val (xo b),Po b,So b)))(hi:zj (Po b) (So b) (xo b) c m)(h:Ev R (Po b) (So b) (aw fs) mA (fun v=>(rs v,P v,S v)))(hc:∀ v,Cap (S v) (P v) (rs v) (vs v) (Q v))(hl:∀ v,(vs v).length+1=k)(hg:∀ v,cE R' g (xo b::vs v) (S v) (mg v) (pg v))(hp:∀ v w,post w=((pg v w).1,Q v,(pg v w).2)):Ev R p σ (gW fm c m k fo (aw fs) g) (mA.bind fun v=>nox (mg v)) post:=
 HP (R':=R') (mo:=M.ok b) (xo:=fun _=>xo b) (Po:=fun _=>Po b) (So:=fun _=>So b) (mA:=fun _=>mA) (vs:=fun _=>vs) (Q:=fun _=>Q) (mg:=fun _=>mg) (pg:=fun _=>pg) (rs:=fun _=>rs) (P:=fun _=>P) (S:=fun _=>S) (Ev.bH ho rfl) (fun _=>hi) (fun _=>h) (fun _=>hc) (fun _=>hl) (fun _=>hg) (fun _=>hp)
end
section
variable{R:List Ob→Prop}{p:Pt}{σ:List Ob}{T:Type}
def uk(o:Option T):M T:=match o with | some a=>.ok a | none=>.bad
@[simp] theorem Iv(a:T):uk (some a)=.ok a:=id rfl
theorem FT{f:State→Res RV}{o:Option T}{e:T→D}{P:Pt}{S:List Ob}(h:Ev R p σ f (.ok o) (pD (eO e) P S)):Ev R p σ f (uk o) (pD e P S):=by
 cases o with
 | none=>exact fun _ _=>trivial
 | some a=>exact h
end
section
variable{R R':List Ob→Prop}{p p':Pt}{σ σ':List Ob}{α β γ T U W A B C Q:Type}{i j n:Nat}{w:Bool}
theorem RD{fa fb fc:State→Res RV}{g g':RV→RV→State→Res RV}{ma mb mc:M Int}{k1 k2:Int→Int→Bool}(ha:Ev R p σ (ev fa) ma (pD .int p σ))(hb:∀ _:Int,Ev R p σ (ev fb) mb (pD .int p σ))(hc:∀ _ _:Int,Ev R p σ (ev fc) mc (pD .int p σ))(h1:∀ a b,Ev R p σ (g (.val (.d (.int a))) (.val (.d (.int b)))) (.ok (k1 a b)) (pD .bl p σ))(h2:∀ b c,Ev R p σ (g' (.val (.d (.int b))) (.val (.d (.int c)))) (.ok (k2 b c)) (pD .bl p σ)):Ev R p σ (wI fa fb fc g g') (ma.bind fun a=>mb.bind fun b=>if k1 a b=true then mc.bind fun c=>.ok (k2 b c)else .ok false) (pD .bl p σ):=Ev.bind ha fun a=>Ev.bind (hb a) fun b=>Ev.gB (h1 a b) (by
 intro sg hf
 show Rn R ((yT (.val (.d (.bl (k1 a b)))) ⟨sg,σ⟩).bind fun k s=>if k=true then(ev fc s).bind fun w s=>g' (.val (.d (.int b))) w s else aS (.bl false) s) _ _
 rw[Lj]
 simp only[rl,Res.aa]
 by_cases hk:k1 a b=true
 ·rw[if_pos hk,if_pos hk]
  exact Ev.bind (hc a b) (fun c=>h2 b c) sg hf
 ·rw[if_neg hk,if_neg hk]
  exact⟨sg,rfl,hf⟩)
def OI:D→Bool
 | .non=>true
 | _=>false
theorem K7{d:D}:Ev R p σ (aD .is (.val (.d d)) (.val (.d .non))) (.ok (OI d)) (pD .bl p σ):=Ev.at (r:=fun v=>RV.val (Val.d (D.bl v))) fun sg hf=>by
 rw[qe,show ∀ (s:State) (x y:RV),ij .is s x y=AJ s x y from fun _ _ _=>rfl]
 unfold AJ
 simp only[rl]
 cases d<;> rfl
def l7{C Q:Type}(t:C→M Bool)(f:C→M (Lp C Q)):Nat→C→M (C ⊕ Q)
 | 0,_=>.bad
 | n+1,c=>(t c).bind fun b=>if b=true then(f c).bind fun o=>match o with
  | .go c=>l7 t f n c
  | .brk c=>.ok (.inl c)
  | .ret q=>.ok (.inr q)else .ok (.inl c)
theorem Ff{t:State→Res Bool}{b:State→Res Fl}{P:C→Pt}{S:C→List Ob}{mt:C→M Bool}{mb:C→M (Lp C Q)}{rv:Q→RV}{Sr:Q→List Ob}(ht:∀ c,Ev R (P c) (S c) t (mt c) (fun v=>(v,P c,S c)))(hb:∀ c,Sg false R (P c) (S c) b (mb c) (fun o=>match o with | .go c=>.go (P c) (S c) | .brk c=>.brk (P c) (S c) | .ret q=>.ret (rv q) (Sr q))):∀ (n:Nat) (c:C) (sg:Slots),Fits (P c) sg→match l7 mt mb n c with
   | .ok o=>G2 (lZ n t b ⟨sg,S c⟩) (match o with | .inl c=>.nx (P c) (S c) | .inr q=>.ret (rv q) (Sr q))
   | .exc x=>∃ s,lZ n t b ⟨sg,S c⟩=.exc x s∧R s.st
   | .bad=>True
 | 0,c,sg,hf=>trivial
 | n+1,c,sg,hf=>by
  have h1:=ht c sg hf
  unfold l7 lZ
  cases hm:mt c with
  | ok v=>
   rw[hm]at h1
   obtain⟨sg1,e1,f1⟩:=h1
   rw[e1,Res.aa,M.aa]
   cases v with
   | false=>
    rw[if_neg (by simp),if_neg (by simp)]
    exact⟨sg1,rfl,f1⟩
   | true=>
    rw[if_pos rfl,if_pos rfl]
    have h2:=hb c sg1 f1
    cases hb':mb c with
    | ok o=>
     rw[hb']at h2
     rw[M.aa]
     cases o with
     | go c'=>
      obtain⟨⟨sg2,e2,f2⟩,_⟩:=h2
      have ih:=Ff ht hb n c' sg2 f2
      dsimp only
      rcases e2 with e2 | e2
      ·rw[e2];exact ih
      ·rw[e2];exact ih
     | brk c'=>
      obtain⟨⟨sg2,e2,f2⟩,_⟩:=h2
      exact⟨sg2,by dsimp only;rw[e2],f2⟩
     | ret q=>
      obtain⟨⟨r0,sg2,e2,f2⟩,_⟩:=h2
      exact⟨r0,sg2,by dsimp only;rw[e2],f2⟩
    | exc z=>
     rw[hb']at h2
     obtain⟨s',e,r⟩:=h2
     exact⟨s',by dsimp only;rw[e],r⟩
    | bad=>trivial
  | exc z=>
   rw[hm]at h1
   obtain⟨s',e,r⟩:=h1
   exact⟨s',by rw[e];rfl,r⟩
  | bad=>trivial
theorem K9{N:Nat}{t:State→Res Bool}{b:State→Res Fl}{rest:List (State→Res Fl)}{c0:C}{P:C→Pt}{S:C→List Ob}{mt:C→M Bool}{mb:C→M (Lp C Q)}{rv:Q→RV}{Sr:Q→List Ob}{k:C→M U}{ι:Q→U}{post:U→OutS}(hw:ek (P c0) p)(hS:σ=S c0)(ht:∀ c,Ev R (P c) (S c) t (mt c) (fun v=>(v,P c,S c)))(hb:∀ c,Sg false R (P c) (S c) b (mb c) (fun o=>match o with | .go c=>.go (P c) (S c) | .brk c=>.brk (P c) (S c) | .ret q=>.ret (rv q) (Sr q)))(hι:∀ q,post (ι q)=.ret (rv q) (Sr q))(hr:∀ c,Sg w R (P c) (S c) (ai rest) (k c) post):Sg w R p σ (ai (lZ N t b::rest)) ((l7 mt mb N c0).bind (pL k ι)) post:=fun sg hf=>by
 subst hS
 have h:=Ff ht hb N c0 sg (hf.weak hw)
 rw[j3]
 cases hl:l7 mt mb N c0 with
 | ok o=>
  rw[hl]at h
  rw[M.aa]
  cases o with
  | inl c=>
   obtain⟨sg2,e2,f2⟩:=h
   rw[e2,sx,Cr]
   exact hr c sg2 f2
  | inr z=>
   obtain⟨r0,sg2,e2,f2⟩:=h
   rw[e2,xp,HK]
   exact⟨by rw[hι];exact⟨r0,sg2,rfl,f2⟩,fun _ s h=>by cases h⟩
 | exc x=>
  rw[hl]at h
  obtain⟨s',e2,r⟩:=h
  exact⟨s',by rw[e2];rfl,r⟩
 | bad=>trivial
end
end Vw
namespace Vw
open PySem L2
section
variable{R:List Ob→Prop}{p:Pt}{σ:List Ob}{T A:Type}{w:Bool}
theorem aI{s:State→Res Fl}{rest:List (State→Res Fl)}{m:M A}(Q:A→Pt){P:A→Pt}{S:A→List Ob}{k:A→M T}{post:T→OutS}(hs:Ev R p σ s m (fun v=>(.nx,P v,S v)))(he:∀ v,P v=Q v)(hr:∀ v,Sg w R (Q v) (S v) (ai rest) (k v) post):Sg w R p σ (ai (s::rest)) (m.bind k) post:=
 kH hs fun v=>by rw[he v];exact hr v
theorem fx{s:State→Res Fl}{rest:List (State→Res Fl)}{a:A}(Q:Pt){P:A→Pt}{S:A→List Ob}{m:M T}{post:T→OutS}(hs:Ev R p σ s (.ok a) (fun v=>(.nx,P v,S v)))(he:P a=Q)(hr:Sg w R Q (S a) (ai rest) m post):Sg w R p σ (ai (s::rest)) m post:=
 K8 hs (by rw[he];exact hr)
end
end Vw
namespace Vw
open PySem L2
def Kw(r:RV):Prop:=match r with
 | .val (.d _)=>True
 | .new o=>o.toD.isSome=true
 | _=>False
def F3{T:Type}(g:Fn)(ds:List D)(m:M T)(rv:T→RV):Prop:=
 match m with
 | .ok v=>(∃ s,g (ds.map .d) []=.ok (rv v) s)∧Kw (rv v)
 | .exc x=>∃ s,g (ds.map .d) []=.exc x s
 | .bad=>True
section
variable{R R':List Ob→Prop}{p p':Pt}{σ σ':List Ob}{α β γ T U W A B C Q:Type}{i j n:Nat}{w:Bool}
theorem cE.toE{g:Fn}{ds:List D}{m:M T}{post:T→RV×List Ob}{rv:T→RV}(h:cE R g (ds.map .d) [] m post)(e:∀ v,(post v).1=rv v)(hr:∀ v,Kw (rv v)):F3 g ds m rv:=by
 cases m with
 | ok v=>exact⟨⟨_,by rw[←e];exact h⟩,hr v⟩
 | exc x=>obtain⟨s,e,_⟩:=h;exact⟨s,e⟩
 | bad=>trivial
theorem IB(ds:List D):tu (ds.map .d)=some ds:=by
 induction ds with
 | nil=>rfl
 | cons d r ih=>rw[List.map_cons,tu,ih];rfl
theorem Mw{k:Nat}{fs:List (State→Res RV)}{g:Fn}{mA:M A}{rs:A→List RV}{P:A→Pt}{S:A→List Ob}{ds:A→List D}{Q:A→Pt}{mg:A→M T}{rv:A→T→RV}{post:T→RV×Pt×List Ob}(h:Ev R p σ (aw fs) mA (fun v=>(rs v,P v,S v)))(hc:∀ v,Cap (S v) (P v) (rs v) ((ds v).map .d) (Q v))(hl:∀ v,(ds v).length=k)(hg:∀ v,F3 g (ds v) (mg v) (rv v))(hp:∀ v w,post w=(rv v w,Q v,S v))(hR:∀ v,R (S v)):Ev R p σ (mT k (aw fs) g) (mA.bind fun v=>mg v) post:=by
 refine Ev.bind h fun v sg hf=>?_
 obtain⟨sg2,e2,hf2⟩:=(hc v).run sg hf
 have hg:=hg v
 show Rn R ((bc (rs v) ⟨sg,S v⟩).bind fun args s=>match tu args with
  | some ds=>if ds.length=k then Ak (g (ds.map .d) []) s else .stuck
  | none=>.stuck) (mg v) post
 rw[e2,Res.aa,IB]
 dsimp only
 rw[if_pos (hl v)]
 cases hm:mg v with
 | ok w=>
  rw[hm]at hg
  obtain⟨⟨s1,e1⟩,hr⟩:=hg
  refine⟨sg2,?_,by rw[hp v w];exact hf2⟩
  rw[hp v w,e1]
  show Ak (.ok (rv v w) s1) _=_
  unfold Ak
  revert hr
  cases rv v w with
  | val x=>cases x<;> intro hr<;> first | rfl | exact hr.elim
  | own i=>intro hr;exact hr.elim
  | new o=>
   intro hr
   have hr:o.toD.isSome=true:=hr
   dsimp only
   rw[if_pos hr]
 | exc x=>
  rw[hm]at hg
  obtain⟨s,e⟩:=hg
  rw[e]
  exact⟨_,rfl,hR v⟩
 | bad=>trivial
theorem tO{k:Nat}{fs:List (State→Res RV)}{g:Fn}{a:A}{rs:A→List RV}{P:A→Pt}{S:A→List Ob}{ds:List D}{Q:Pt}{mg:M T}{rv:T→RV}{post:T→RV×Pt×List Ob}(h:Ev R p σ (aw fs) (.ok a) (fun v=>(rs v,P v,S v)))(hc:Cap (S a) (P a) (rs a) (ds.map .d) Q)(hl:ds.length=k)(hg:F3 g ds mg rv)(hp:∀ w,post w=(rv w,Q,S a))(hR:R (S a)):Ev R p σ (mT k (aw fs) g) mg post:=
 Mw (mA:=M.ok a) (ds:=fun _=>ds) (Q:=fun _=>Q) (mg:=fun _=>mg) (rv:=fun _=>rv) (rs:=fun _=>rs a) (P:=fun _=>P a) (S:=fun _=>S a) (Ev.bH h rfl) (fun _=>hc) (fun _=>hl) (fun _=>hg) (fun _=>hp) (fun _=>hR)
theorem Pl{f:State→Res RV}{m:M T}{o:T→Ob}{P:T→Pt}{S:T→List Ob}(h:Ev R p σ f m (fun v=>(.new (o v),P v,S v)))(hg:∀ v,o v≠ .gone):Ev R p σ (yB f) m (fun v=>(.val (.r (S v).length),P v,S v++[o v])):=fun sg hf=>by
 have:=h sg hf
 cases m with
 | ok v=>
  obtain⟨sg',e,hf'⟩:=this
  refine⟨sg',?_,hf'⟩
  rw[Oa,e,Res.aa]
  unfold KY
  have:=hg v
  revert this
  dsimp only
  cases o v<;> intro h<;> first | rfl | exact absurd rfl h
 | exc x=>obtain⟨s,e,r⟩:=this;exact⟨s,by rw[Oa,e];rfl,r⟩
 | bad=>trivial
theorem KI{e:T→D}(l:List T):oL e l≠ .gone:=fun h=>by cases h
theorem QC{c:String}{k:Nat}{fs:List (State→Res RV)}{g:Fn}{m:M A}{rs:A→List RV}{P:A→Pt}{S:A→List Ob}{vs:A→List Val}{Q:A→Pt}{o:A→Ob}(h:Ev R p σ (aw fs) m (fun v=>(rs v,P v,S v)))(hc:∀ v,Cap (S v) (P v) (rs v) (vs v) (Q v))(hl:∀ v,(vs v).length+1=k)(hg:∀ v,g (.r (S v).length::vs v) (S v++[.ins c []])=.ok (.val (.d .non)) ⟨[],S v++[o v]⟩):Ev R p σ (KD fm c k (aw fs) g) m (fun v=>(.val (.r (S v).length),Q v,S v++[o v])):=fun sg hf=>by
 have:=h sg hf
 cases m with
 | ok v=>
  obtain⟨sg1,e1,f1⟩:=this
  obtain⟨sg2,e2,f2⟩:=(hc v).run sg1 f1
  refine⟨sg2,?_,f2⟩
  show(aw fs ⟨sg,σ⟩).bind (fun rs s=>(bc rs s).bind fun args s=>if args.length+1=k then Om s.st.length (fm g (.r s.st.length::args) ⟨s.sg,s.st++[.ins c []]⟩)else .stuck)=_
  rw[e1,Res.aa]
  dsimp only
  rw[e2,Res.aa,if_pos (hl v)]
  dsimp only
  unfold fm
  dsimp only
  rw[hg v]
  rfl
 | exc x=>obtain⟨s,e,r⟩:=this;exact⟨s,by show(aw fs ⟨sg,σ⟩).bind _=_;rw[e];rfl,r⟩
 | bad=>trivial
theorem De{s:State→Res Fl}{rest:List (State→Res Fl)}{a:A}(Q:Pt)(S':List Ob){P:A→Pt}{S:A→List Ob}{m:M T}{post:T→OutS}(hs:Ev R p σ s (.ok a) (fun v=>(.nx,P v,S v)))(he:P a=Q)(hS:S a=S')(hr:Sg w R Q S' (ai rest) m post):Sg w R p σ (ai (s::rest)) m post:=
 K8 hs (by rw[he,hS];exact hr)
def p5(f:D→M A)(g:D→M B)(d:D):M (A×B):=match d with
 | .tup [x,y]=>(f x).bind fun a=>(g y).bind fun b=>.ok (a,b)
 | _=>.bad
theorem yP{f:D→M A}{g:D→M B}{d:D}:(∃ x y,d=.tup [x,y]∧p5 f g d=(f x).bind fun a=>(g y).bind fun b=>.ok (a,b))∨p5 f g d=.bad:=by
 unfold p5
 split
 ·exact .inl ⟨_,_,rfl,rfl⟩
 ·exact .inr rfl
theorem IA{f:D→M A}{g:D→M B}{e:A→D}{e2:B→D}(h:Dec f e)(h2:Dec g e2):Dec (p5 f g) (aP e e2):=fun d a q=>by
 rcases yP (f:=f) (g:=g) (d:=d)with⟨x,y,rfl,e1⟩ | e1
 ·rw[e1]at q
  cases hx:f x with
  | ok u=>
   cases hy:g y with
   | ok v=>rw[hx,hy]at q;cases q;rw[h x u hx,h2 y v hy]
   | exc z=>rw[hx,hy]at q;cases q
   | bad=>rw[hx,hy]at q;cases q
  | exc z=>rw[hx]at q;cases q
  | bad=>rw[hx]at q;cases q
 ·rw[e1]at q;cases q
theorem KU{f:D→M A}{g:D→M B}(h:x9 f)(h2:x9 g):x9 (p5 f g):=fun d z q=>by
 rcases yP (f:=f) (g:=g) (d:=d)with⟨x,y,rfl,e1⟩ | e1
 ·rw[e1]at q
  cases hx:f x with
  | ok u=>
   cases hy:g y with
   | ok v=>rw[hx,hy]at q;cases q
   | exc z=>exact h2 y _ hy
   | bad=>rw[hx,hy]at q;cases q
  | exc z=>exact h x _ hx
  | bad=>rw[hx]at q;cases q
 ·rw[e1]at q;cases q
theorem cE.toI{g:Fn}{ds:List D}{m:M (T×List Ob)}{rv:T→RV}(h:cE R g (ds.map .d) [] m (fun v=>(rv v.1,v.2)))(hr:∀ v,Kw (rv v)):F3 g ds (m.bind fun v=>.ok v.1) rv:=by
 cases m with
 | ok v=>exact⟨⟨_,h⟩,hr v.1⟩
 | exc x=>obtain⟨s,e,_⟩:=h;exact⟨s,e⟩
 | bad=>trivial
end
end Vw
namespace Vw
open PySem L2
section
variable{R R':List Ob→Prop}{p p':Pt}{σ σ':List Ob}{α β γ T U W A B C Q:Type}{i j n:Nat}{w:Bool}
theorem Pj{e:T→D}:Ev R p σ Gm (.ok ([]:List (List Nat×T))) (fun v=>(.new (qR e v),p,σ)):=fun sg hf=>⟨sg,rfl,hf⟩
def JQ(l:List (List Nat)):M (List (List Nat)):=(gd (decide (l.length<64))).bind fun _=>.ok (mJ l)
theorem HU{e:T→D}:∀ l:List (List Nat×T),zv (l.map fun p=>(K0.s p.1,Val.d (e p.2)))=some (l.map (·.1))
 | []=>rfl
 | p::l=>by
  rw[List.map_cons,zv,HU l];rfl
theorem LU{e:T→D}{l:List (List Nat×T)}{r:RV}(h:RS p σ r e l):Ev R p σ (v9 [r]) (JQ (l.map (·.1))) (NW .str p σ):=Ev.gd (r:=fun v=>RV.new (oL D.str v)) fun hl sg hf=>by
 show(match (oj _ r).bind zv with | some ns=>if ns.length<64 then Res.ok (RV.new (.lst ((mJ ns).map fun n=>.d (.str n)))) _ else Res.stuck | none=>Res.stuck)=_
 rw[h sg hf,Option.bind_some,HU]
 dsimp only
 rw[if_pos (of_decide_eq_true hl)]
end
end Vw
namespace Vw
open PySem L2
end Vw
namespace Vw
open PySem L2
section
variable{R R':List Ob→Prop}{p p':Pt}{σ σ':List Ob}{α β γ T U W A B C Q:Type}{i j n:Nat}{w:Bool}
theorem Qj{f:State→Res RV}{m:M (List T×C)}{e:T→D}{P:Pt}{S:C→List Ob}(h:Ev R p σ (ev f) m (fun v=>(.val (.d (eL e v.1)),P,S v.2))):Ev R p σ (sD f itemsOf) m (fun v=>(v.1.map fun x=>.d (e x),P,S v.2)):=fun sg hf=>by
 have:=h sg hf
 cases m with
 | ok v=>obtain⟨sg',e1,hf'⟩:=this;exact⟨sg',by rw[pV,e1,Res.aa];simp[Function.comp_def],hf'⟩
 | exc x=>obtain⟨s,e,r⟩:=this;exact⟨s,by rw[pV,e];rfl,r⟩
 | bad=>trivial
end
end Vw
namespace Vw
open PySem L2
end Vw
namespace Vw
open PySem L2
end Vw
namespace Vw
open PySem L2
end Vw
namespace Vw
open PySem L2
end Vw
namespace Vw
open PySem L2
end Vw
namespace Vw
open PySem L2
theorem zL:sizeLine=16777216:=rfl
section
variable{T U C A B Q:Type}
theorem cB{b:Bool}(h:b=true):gd b=.ok ():=by rw[h];rfl
theorem DG{a b:List T}(h:a.length+b.length≤16777216):eU a b=.ok (a++b):=by
 unfold eU;rw[zL,cB (decide_eq_true h)];rfl
theorem cj{a b:List Nat}(h:a.length+b.length≤16777216):br a b=.ok (a++b):=by
 unfold br;rw[zL,cB (decide_eq_true h)];rfl
theorem iI{a:List T}{x:T}(h:a.length<16777216):iy a x=.ok (a++[x]):=by
 unfold iy;rw[zL,cB (decide_eq_true h)];rfl
theorem fE{a:List Nat}(h:a.length≤16777216):gx a=.ok (a.length:Int):=by
 unfold gx;rw[zL,cB (decide_eq_true h)];rfl
theorem nk{a:List Nat}{lo hi:Option Int}(h:a.length≤16777216):gR a lo hi=.ok (cz a lo hi):=by
 unfold gR;rw[zL,cB (decide_eq_true h)];rfl
theorem mm{a b:Int}(h:0<b):lH a b=.ok (a%b):=by
 unfold lH;rw[cB (decide_eq_true h)];rfl
theorem Mb{a b:Int}(h:a.natAbs.log2+b.natAbs.log2<1000000):mulM a b=.ok (a*b):=by
 unfold mulM Kd;rw[cB (decide_eq_true h)];rfl
theorem zp{n:Nat}(h:n≤1000000000):lC 0 (n:Int)=.ok ((List.range n).map fun(i:Nat)=>(i:Int)):=by
 unfold lC
 rw[cB (decide_eq_true (by omega)),M.aa]
 congr 1
 rw[show((n:Int)- 0).toNat=n by omega]
 exact List.map_congr_left fun i _=>by omega
theorem zK{n:Int}(h:n<1000000000)(h0: -1000000000<n):lC 0 n=.ok ((List.range n.toNat).map fun(i:Nat)=>(i:Int)):=by
 unfold lC
 rw[cB (decide_eq_true (by omega)),M.aa]
 congr 1
 rw[show(n- 0).toNat=n.toNat by omega]
 exact List.map_congr_left fun i _=>by omega
theorem Mm{n:Nat}{i:Nat}(h:i<n):ixN n (i:Int)=some i:=by
 rw[Sh.FI (by omega) (by omega)];simp
theorem atI_nat{l:List T}{i:Nat}(h:i<l.length):atI l (i:Int)=some l[i]:=by
 unfold atI
 rw[Mm h]
 simp[h]
theorem vU{l:List T}{i:Nat}(h:i<l.length):bQ l (i:Int)=.ok l[i]:=by
 unfold bQ;rw[atI_nat h]
theorem xX{l:List T}{i:Int}(h0:0≤i)(h:i<l.length):∃ a,a∈l∧bQ l i=.ok a:=by
 have:i=((i.toNat:Nat):Int):=by omega
 rw[this]
 have h':i.toNat<l.length:=by omega
 exact⟨_,List.getElem_mem h',vU h'⟩
theorem Ez{l:List Nat}{i:Int}(h0:0≤i)(h:i<l.length)(hl:l.length≤16777216):∃ a,a∈l∧fu l i=.ok [a]:=by
 have:i=((i.toNat:Nat):Int):=by omega
 have h':i.toNat<l.length:=by omega
 refine⟨l[i.toNat],List.getElem_mem h',?_⟩
 unfold fu
 rw[zL,cB (decide_eq_true hl),M.aa]
 have e:=atI_nat h'
 rw[show((i.toNat:Nat):Int)=i by omega]at e
 rw[e]
theorem MK{l:List T}{i:Int}(h0:0≤i)(h:i<l.length)(x:T):setM l i x=.ok (l.set i.toNat x):=by
 unfold setM
 rw[Sh.FI h0 h]
theorem AL{mt:T→M Bool}{me:T→M U}{F:T→U}:∀ (l:List T) (acc:List U),(∀ x∈l,mt x=.ok true)→(∀ x∈l,me x=.ok (F x))→acc.length+l.length≤16777216→hE mt me acc l=.ok (acc++l.map F)
 | [],acc,h1,h2,hl=>by simp[hE]
 | x::l,acc,h1,h2,hl=>by
  simp only[List.length_cons]at hl
  unfold hE
  rw[h1 x (by simp),M.aa,if_pos rfl,h2 x (by simp),M.aa,cB (decide_eq_true (by rw[zL];omega)),M.aa,AL l _ (fun y hy=>h1 y (by simp[hy])) (fun y hy=>h2 y (by simp[hy])) (by simp;omega)]
  simp
theorem AD{mt:T→M Bool}{me:T→M U}{F:T→U}{l:List T}(h1:∀ x∈l,mt x=.ok true)(h2:∀ x∈l,me x=.ok (F x))(hl:l.length≤16777216):fM mt me l=.ok (l.map F):=by
 unfold fM
 rw[AL l [] h1 h2 (by simpa using hl)];simp
theorem vy{mt:T→M Bool}{me:T→M U}{b:T→Bool}{F:T→U}:∀ (l:List T) (acc:List U),(∀ x∈l,mt x=.ok (b x))→(∀ x∈l,b x=true→me x=.ok (F x))→acc.length+l.length≤16777216→hE mt me acc l=.ok (acc++(l.filter b).map F)
 | [],acc,h1,h2,hl=>by simp[hE]
 | x::l,acc,h1,h2,hl=>by
  simp only[List.length_cons]at hl
  unfold hE
  rw[h1 x (by simp),M.aa]
  by_cases hb:b x=true
  ·rw[if_pos hb,h2 x (by simp) hb,M.aa,cB (decide_eq_true (by rw[zL];omega)),M.aa,vy l _ (fun y hy=>h1 y (by simp[hy])) (fun y hy=>h2 y (by simp[hy])) (by simp;omega)]
   simp[hb]
  ·rw[if_neg hb,vy l _ (fun y hy=>h1 y (by simp[hy])) (fun y hy=>h2 y (by simp[hy])) (by omega)]
   simp[hb]
theorem HQ{mt:T→M Bool}{me:T→M U}{b:T→Bool}{F:T→U}{l:List T}(h1:∀ x∈l,mt x=.ok (b x))(h2:∀ x∈l,b x=true→me x=.ok (F x))(hl:l.length≤16777216):fM mt me l=.ok ((l.filter b).map F):=by
 unfold fM
 rw[vy l [] h1 h2 (by simpa using hl)];simp
theorem F1{mt:T→M Bool}{me:T→M U}{P:U→Prop}:∀ (l:List T) (acc:List U),(∀ x∈l,mt x=.ok true)→(∀ x∈l,∃ y,me x=.ok y∧P y)→acc.length+l.length≤16777216→∃ r,hE mt me acc l=.ok (acc++r)∧r.length=l.length∧∀ y∈r,P y
 | [],acc,h1,h2,hl=>⟨[],by simp[hE],rfl,by simp⟩
 | x::l,acc,h1,h2,hl=>by
  simp only[List.length_cons]at hl
  obtain⟨y,e,hy⟩:=h2 x (by simp)
  obtain⟨r,e2,hr,hp⟩:=F1 l (acc++[y]) (fun y hy=>h1 y (by simp[hy])) (fun y hy=>h2 y (by simp[hy])) (by simp;omega)
  refine⟨y::r,?_,by simp[hr],fun z hz=>?_⟩
  ·unfold hE
   rw[h1 x (by simp),M.aa,if_pos rfl,e,M.aa,cB (decide_eq_true (by rw[zL];omega)),M.aa,e2]
   simp
  ·rcases List.mem_cons.mp hz with rfl | hz
   ·exact hy
   ·exact hp z hz
theorem Mp{mt:T→M Bool}{me:T→M U}(P:U→Prop){l:List T}(h1:∀ x∈l,mt x=.ok true)(h2:∀ x∈l,∃ y,me x=.ok y∧P y)(hl:l.length≤16777216):∃ r,fM mt me l=.ok r∧r.length=l.length∧∀ y∈r,P y:=by
 obtain⟨r,e,h3,h4⟩:=F1 l [] h1 h2 (by simpa using hl)
 exact⟨r,by unfold fM;rw[e];simp,h3,h4⟩
theorem Cw{mt:T→C→M Bool}{me:T→C→M (U×C)}(I:C→Prop)(P:U→Prop):∀ (l:List T) (acc:List U) (c:C),I c→(∀ x∈l,∀ c,mt x c=.ok true)→(∀ x∈l,∀ c,I c→∃ y c',me x c=.ok (y,c')∧P y∧I c')→acc.length+l.length≤16777216→∃ r c',iS mt me acc l c=.ok (acc++r,c')∧r.length=l.length∧(∀ y∈r,P y)∧I c'
 | [],acc,c,hc,h1,h2,hl=>⟨[],c,by simp[iS],rfl,by simp,hc⟩
 | x::l,acc,c,hc,h1,h2,hl=>by
  simp only[List.length_cons]at hl
  obtain⟨y,c1,e,hy,hc1⟩:=h2 x (by simp) c hc
  obtain⟨r,c2,e2,hr,hp,hc2⟩:=Cw I P l (acc++[y]) c1 hc1 (fun y hy=>h1 y (by simp[hy])) (fun y hy=>h2 y (by simp[hy])) (by simp;omega)
  refine⟨y::r,c2,?_,by simp[hr],fun z hz=>?_,hc2⟩
  ·unfold iS
   rw[h1 x (by simp),M.aa,if_pos rfl,e,M.aa,cB (decide_eq_true (by rw[zL];omega)),M.aa,e2]
   simp
  ·rcases List.mem_cons.mp hz with rfl | hz
   ·exact hy
   ·exact hp z hz
theorem MU{mt:T→C→M Bool}{me:T→C→M (U×C)}(I:C→Prop)(P:U→Prop){l:List T}{c:C}(hc:I c)(h1:∀ x∈l,∀ c,mt x c=.ok true)(h2:∀ x∈l,∀ c,I c→∃ y c',me x c=.ok (y,c')∧P y∧I c')(hl:l.length≤16777216):∃ r c',oH mt me l c=.ok (r,c')∧r.length=l.length∧(∀ y∈r,P y)∧I c':=by
 obtain⟨r,c',e,h3,h4,h5⟩:=Cw I P l [] c hc h1 h2 (by simpa using hl)
 exact⟨r,c',by unfold oH;rw[e];simp,h3,h4,h5⟩
theorem pw{t:C→M Bool}{f:C→M C}{n:Nat}{c c':C}(h1:t c=.ok true)(h2:f c=.ok c'):qQ t f (n+1) c=qQ t f n c':=by
 show(t c).bind _=_
 rw[h1,M.aa,if_pos rfl,h2,M.aa]
theorem zY{t:C→M Bool}{f:C→M C}{n:Nat}{c:C}{x:Exn}(h1:t c=.ok true)(h2:f c=.exc x):qQ t f (n+1) c=.exc x:=by
 show(t c).bind _=_
 rw[h1,M.aa,if_pos rfl,h2,M.Dq]
theorem vJ{t:C→M Bool}{f:C→M C}{n:Nat}{c:C}(h1:t c=.ok false):qQ t f (n+1) c=.ok c:=by
 show(t c).bind _=_
 rw[h1,M.aa,if_neg (by simp)]
theorem pT{t:C→M Bool}{f:C→M (Lp C Q)}{n:Nat}{c c':C}(h1:t c=.ok true)(h2:f c=.ok (.go c')):l7 t f (n+1) c=l7 t f n c':=by
 show(t c).bind _=_
 rw[h1,M.aa,if_pos rfl,h2,M.aa]
theorem mF{t:C→M Bool}{f:C→M (Lp C Q)}{n:Nat}{c:C}{q:Q}(h1:t c=.ok true)(h2:f c=.ok (.ret q)):l7 t f (n+1) c=.ok (.inr q):=by
 show(t c).bind _=_
 rw[h1,M.aa,if_pos rfl,h2,M.aa]
theorem Fs{t:C→M Bool}{f:C→M (Lp C Q)}{n:Nat}{c:C}(h1:t c=.ok false):l7 t f (n+1) c=.ok (.inl c):=by
 show(t c).bind _=_
 rw[h1,M.aa,if_neg (by simp)]
theorem Fe{l:List T}(h:l≠[]):∃ y,y∈l∧CS l=.ok (y,l.dropLast):=by
 have hl:l.length- 1<l.length:=by have:=List.length_pos_iff.mpr h;omega
 refine⟨l[l.length- 1],List.getElem_mem hl,?_⟩
 unfold CS
 rw[List.getElem?_eq_getElem hl]
def Sat(m:M T)(P:T→Prop):Prop:=∃ v,m=.ok v∧P v
theorem aF{v:T}{P:T→Prop}(h:P v):Sat (.ok v) P:=⟨v,rfl,h⟩
theorem NS{m:M T}{v:T}{P:T→Prop}(e:m=.ok v)(h:P v):Sat m P:=⟨v,e,h⟩
theorem az{m:M T}{k:T→M U}{P:T→Prop}{Q:U→Prop}(h:Sat m P)(hk:∀ v,P v→Sat (k v) Q):Sat (m.bind k) Q:=by
 obtain⟨v,e,p⟩:=h
 rw[e,M.aa]
 exact hk v p
theorem dJ{m:M T}{P:T→Prop}(h:Sat m P):Sat (nox m) P:=by
 obtain⟨v,e,p⟩:=h
 exact⟨v,by rw[e];rfl,p⟩
theorem zF{m:M T}{P Q:T→Prop}(h:Sat m P)(w:∀ v,P v→Q v):Sat m Q:=by
 obtain⟨v,e,p⟩:=h
 exact⟨v,e,w v p⟩
theorem jk{c:Prop}[Decidable c]{m1 m2:M T}{P:T→Prop}(h1:c→Sat m1 P)(h2:¬c→Sat m2 P):Sat (if c then m1 else m2) P:=by
 by_cases h:c
 ·rw[if_pos h];exact h1 h
 ·rw[if_neg h];exact h2 h
theorem tj{f:C→T→M C}(I:Nat→C→Prop){l:List T}{c:C}(h0:I 0 c)(h:∀ n c x,x∈l→n<l.length→I n c→Sat (f c x) (I (n+1))):Sat (foldM f c l) (I l.length):=by
 have key:∀ (m:List T) (n:Nat) (c:C),(∀ x∈m,x∈l)→n+m.length=l.length→I n c→Sat (foldM f c m) (I l.length):=by
  intro m
  induction m with
  | nil=>intro n c _ hn i;exact aF (by simpa [←hn]using i)
  | cons x m ih=>
   intro n c hx hn i
   rw[cu]
   simp only[List.length_cons]at hn
   exact az (h n c x (hx x (by simp)) (by omega) i) fun c' i'=>ih (n+1) c' (fun y hy=>hx y (by simp[hy])) (by omega) i'
 exact key l 0 c (fun _ h=>h) (by simp) h0
theorem oN{l:List T}{i:Int}{P:T→Prop}(h0:0≤i)(h:i<l.length)(hp:∀ a∈l,P a):Sat (bQ l i) P:=by
 obtain⟨a,ha,e⟩:=xX h0 h
 exact⟨a,e,hp a ha⟩
theorem Im{mt:T→M Bool}{me:T→M U}(P:U→Prop){l:List T}(h1:∀ x∈l,mt x=.ok true)(h2:∀ x∈l,Sat (me x) P)(hl:l.length≤16777216):Sat (fM mt me l) fun r=>r.length=l.length∧∀ y∈r,P y:=by
 obtain⟨r,e,h⟩:=Mp P h1 h2 hl
 exact⟨r,e,h⟩
theorem zb{n:Nat}{x:Int}(h:x∈(List.range n).map fun(i:Nat)=>(i:Int)):0≤x∧x<n:=by
 obtain⟨i,hi,rfl⟩:=List.mem_map.mp h
 have:=List.mem_range.mp hi
 omega
theorem Fw{n k:Nat}(h:n<2^k)(hk:0<k):n.log2<k:=by
 by_cases h0:n=0
 ·subst h0;simpa using hk
 ·exact(Nat.log2_lt h0).mpr h
theorem kJ{a b:Int}(k j:Nat)(ha:a.natAbs<2^k)(hb:b.natAbs<2^j)(h:k+j≤1000000)(hk:0<k)(hj:0<j):mulM a b=.ok (a*b):=by
 have:=Fw ha hk
 have:=Fw hb hj
 exact Mb (by omega)
end
end Vw
namespace Vw
open PySem L2
section
variable{T A:Type}{R:List Ob→Prop}{p:Pt}{σ:List Ob}{i j:Nat}
theorem vo{α:Type}{f:State→Res α}{m m':M T}{post:T→α×Pt×List Ob}(h:Ev R p σ f m post)(e:m=m'):Ev R p σ f m' post:=e▸h
theorem OB{w:Bool}{t:State→Res Bool}{As Bs rest:List (State→Res Fl)}{m:M T}{post:T→OutS}(ht:Ev R p σ t (.ok false) (pB p σ))(h:Sg w R p σ (ai (Bs++rest)) m post):Sg w R p σ (ai (bC t (ai As) (ai Bs)::rest)) m post:=
 eV (mA:=.bad) (mB:=m) ht (fun _ _=>trivial) h
theorem Rp{w:Bool}{t:State→Res Bool}{As Bs rest:List (State→Res Fl)}{m:M T}{post:T→OutS}(ht:Ev R p σ t (.ok true) (pB p σ))(h:Sg w R p σ (ai (As++rest)) m post):Sg w R p σ (ai (bC t (ai As) (ai Bs)::rest)) m post:=
 eV (mA:=m) (mB:=.bad) ht h (fun _ _=>trivial)
end
end Vw
namespace Vw
open PySem L2
end Vw
namespace Vw
open PySem L2
section
variable{R:List Ob→Prop}{p:Pt}{σ:List Ob}{A B T U:Type}{i j n:Nat}
theorem K4{k:Nat}{s:State}(d:D):frz k s (.d d)=some d:=by cases k<;> rfl
end
end Vw
namespace Vw
open PySem L2
end Vw
namespace Vw
open PySem L2
end Vw
namespace Vw
open PySem L2 PyProof.Rows
end Vw
namespace Vw
open PySem L2 PyProof.Rows
end Vw
namespace Vw
open PySem L2 PyProof.Rows
end Vw
namespace Vw
open PySem L2 PyProof.Rows
end Vw
namespace Vw
open PySem L2 PyProof.Rows
end Vw
namespace Vw
open PySem L2 PyProof.Rows
theorem wk{p q:Pt}(h:ek p q:=by(repeat' (first | exact trivial | refine And.intro rfl ?_))):ek p q:=h
section
variable{R:List Ob→Prop}{p:Pt}{σ:List Ob}{A B T U C:Type}{i:Nat}
theorem rv(a:T)(e:T→D)(h:p[i]? =some (some (.v (.d (e a))))):Ev R p σ (ev (ae i)) (.ok a) (fun v=>(.val (.d (e v)),p,σ)):=sv (ax h)
theorem UX{f:State→Res RV}{m:M (List T)}{e:T→D}{P:List T→Pt}{S:List T→List Ob}(h:Ev R p σ f m (fun v=>(.new (oL e v),P v,S v))):Ev R p σ (ev f) m (fun v=>(.val (.d (eL e v)),P v,S v)):=sn h (fun v=>bN _ v)
theorem nl(e:T→D):Ev R p σ (ev (bU [])) (.ok ([]:List T)) (fun v=>(.val (.d (eL e v)),p,σ)):=UX (Ev.bH (post2:=(pN (oL e) _ _)) (bz (l:=fun _=>([]:List T)) (e:=e) aq (fun _=>.nil) (fun _=>rfl) (fun _=>rfl)) rfl)
end
end Vw
namespace Vw
open PySem L2 PyProof.Rows
end Vw
namespace Vw
open PySem L2 PyProof.Rows
end Vw
namespace Vw
open PySem L2 PyProof.Rows
end Vw
namespace Vw
open PySem L2
end Vw
namespace Vw
open PySem L2
end Vw
namespace Vw
open PySem L2 PyProof.Rows
def xc(t:List Nat):M Int:=match FZ t with
 | some a=>.ok a
 | none=>.bad
section
variable{R:List Ob→Prop}{p p':Pt}{σ σ':List Ob}
theorem LA{t:List Nat}:Ev R p σ (yC [.val (.d (.str t))]) (xc t) (pD .int p σ):=by
 unfold xc
 intro sg hf
 cases e:FZ t with
 | none=>trivial
 | some n=>
  refine⟨sg,?_,hf⟩
  show(match FZ t with | some n=>aS (.int n) _ | none=>.stuck)=_
  rw[e]
  rfl
end
end Vw
namespace Vw
open PySem L2
end Vw
namespace Vw
open PySem L2 PyProof.Rows
theorem Fd(l:List D):iY (l.map .d)=.d (.tup l):=by
 unfold iY
 rw[toDs_map]
def qV(d:D)(lo hi:Option Int):M D:=match d with
 | .tup l=>if(cz l lo hi).length=l.length then .bad else .ok (.tup (cz l lo hi))
 | _=>.bad
def mr:D→M (List D)
 | .tup l=>.ok l
 | _=>.bad
def k9:D→M Bool
 | .lst _=>.ok true
 | .tup _=>.ok false
 | .str _=>.ok false
 | .int _=>.ok false
 | _=>.bad
def sk:D→M Bool
 | .lst _=>.ok false
 | .tup _=>.ok false
 | .str _=>.ok false
 | .int _=>.ok true
 | _=>.bad
def sF(a b:List Nat):M (List Nat×List Nat×List Nat):=(gd (decide (b≠[]∧a.length≤sizeLine))).bind fun _=>.ok (p7 a b)
def xA(a b:List Nat):M (List (List Nat)):=(gd (decide (b≠[]∧a.length+2≤sizeLine))).bind fun _=>.ok (sW a b)
def B1(a y z:List Nat):M (List Nat):=(gd (decide (a.length+(a.length+1)*z.length≤16777216))).bind fun _=>.ok (C1 a y z)
section
variable{R:List Ob→Prop}{p p':Pt}{σ σ':List Ob}{A B T U:Type}{i j n:Nat}
theorem N7{d:D}{lo hi:Option Int}:Ev R p σ (xQ (.val (.d d)) lo hi) (qV d lo hi) (pD eY p σ):=fun sg hf=>by
 cases d<;> try trivial
 rename_i l
 show Rn R _ (if(cz l lo hi).length=l.length then(M.bad:M D)else M.ok (D.tup (cz l lo hi))) _
 split
 ·trivial
 ·rename_i hne
  refine⟨sg,?_,hf⟩
  show(if(cz (l.map Val.d) lo hi).length=(l.map Val.d).length then Res.stuck else Res.ok (RV.val (iY (cz (l.map Val.d) lo hi))) (State.mk sg σ))=_
  rw[Dy,List.length_map,List.length_map,if_neg hne,Fd]
theorem Fg{f:State→Res RV}{m:M D}{P:Pt}{S:List Ob}(h:Ev R p σ (ev f) m (pD eY P S)):Ev R p σ (sD f itemsOf) (m.bind mr) (pS (fun x=>.d x) P S):=fun sg hf=>by
 have:=h sg hf
 cases m with
 | ok v=>
  obtain⟨sg',e1,hf'⟩:=this
  cases v<;> try trivial
  rename_i l
  refine⟨sg',?_,hf'⟩
  rw[pV,e1,Res.aa]
  rfl
 | exc x=>
  obtain⟨s,e1,r⟩:=this
  refine⟨s,?_,r⟩
  rw[pV,e1]
  rfl
 | bad=>trivial
theorem Od{f:State→Res RV}{m:M D}(h:Ev R p σ (ev f) m (pD eY p σ)):Ev R p σ (gP "list" f) (m.bind k9) (pD .bl p σ):=by
 refine Ev.bind h fun d=>?_
 cases d with
 | str l=>exact fun sg hf=>⟨sg,rfl,hf⟩
 | int l=>exact fun sg hf=>⟨sg,rfl,hf⟩
 | tup l=>exact fun sg hf=>⟨sg,rfl,hf⟩
 | lst l=>exact fun sg hf=>⟨sg,rfl,hf⟩
 | _=>exact fun sg hf=>trivial
theorem Ng{f:State→Res RV}{m:M D}(h:Ev R p σ (ev f) m (pD eY p σ)):Ev R p σ (gP "int" f) (m.bind sk) (pD .bl p σ):=by
 refine Ev.bind h fun d=>?_
 cases d with
 | str l=>exact fun sg hf=>⟨sg,rfl,hf⟩
 | int l=>exact fun sg hf=>⟨sg,rfl,hf⟩
 | tup l=>exact fun sg hf=>⟨sg,rfl,hf⟩
 | lst l=>exact fun sg hf=>⟨sg,rfl,hf⟩
 | _=>exact fun sg hf=>trivial
theorem Ls{a b:List Nat}:Ev R p σ (kU (.val (.d (.str a))) [.val (.d (.str b))]) (sF a b) (pD (RE D.str D.str D.str) p σ):=Ev.gd (r:=fun v=>RV.val (Val.d (RE D.str D.str D.str v))) fun h sg _=>by
 show(if b≠[]∧a.length≤sizeLine then Res.ok (RV.val (iY [Val.d (D.str (p7 a b).1),Val.d (D.str (p7 a b).2.1),Val.d (D.str (p7 a b).2.2)])) (State.mk sg σ)else .stuck)=_
 rw[if_pos (of_decide_eq_true h)]
 try rfl
theorem LB{a b:List Nat}:Ev R p σ (u0 (.val (.d (.str a))) [.val (.d (.str b))]) (xA a b) (pN (oL D.str) p σ):=Ev.gd (r:=fun v=>RV.new (oL D.str v)) fun h sg _=>by
 show(if b≠[]∧a.length+2≤sizeLine then Res.ok (RV.new (Ob.lst ((sW a b).map fun t=>Val.d (D.str t)))) (State.mk sg σ)else .stuck)=_
 rw[if_pos (of_decide_eq_true h)]
 try rfl
theorem Ro{e:T→D}{l:List T}{r:RV}(h:Lv p σ r e l):Ev R p σ (xS [r]) (.ok (D.tup (l.map e))) (pD eY p σ):=Ev.at (r:=fun v=>RV.val (Val.d v)) fun sg hf=>by
 show(match lv ⟨sg,σ⟩ r with | some l=>Res.ok (RV.val (iY l)) (State.mk sg σ) | none=>.stuck)=_
 rw[(h sg hf).1]
 dsimp only
 rw[show(l.map fun x=>Val.d (e x))=(l.map e).map Val.d by rw[List.map_map];rfl,Fd]
theorem Qr{a y z:List Nat}(h:p[i]? =some (some (.v (.d (.str a))))):Ev R p σ (yJ i y z) (B1 a y z) (pD .str p σ):=Ev.gd (r:=fun v=>RV.val (Val.d (D.str v))) fun hb sg hf=>by
 unfold yJ
 rw[hf.2 _ _ h]
 dsimp only
 rw[if_pos (of_decide_eq_true hb)]
 rfl
theorem Hz{s:State→Res Fl}{m:M A}{P:A→Pt}{S:A→List Ob}(h:Ev R p σ s m (fun v=>(.nx,P v,S v))):Ev R p σ (ai [s]) m (fun v=>(.nx,P v,S v)):=fun sg hf=>by
 have:=h sg hf
 cases m with
 | ok v=>
  obtain⟨sg',e,hf'⟩:=this
  exact⟨sg',by rw[jc e];rfl,hf'⟩
 | exc x=>
  obtain⟨s',e,r⟩:=this
  exact⟨s',by show(n8 _ _)=_;unfold n8;rw[e],r⟩
 | bad=>trivial
theorem Sv{a:A}{o:Ob}(h:p[i]? =some (some (.own o))):Ev R p σ (ae i) (.ok a) (fun _=>(.own i,p,σ)):=Ev.at (r:=fun _=>RV.own i) fun sg hf=>by
 rw[mH,hf.2 _ _ h]
theorem Rf{e:T→D}{l:List T}(h:p[i]? =some (some (.own (oL e l)))):Lv p σ (.own i) eY (l.map e):=by
 refine cb ?_
 rw[h]
 unfold oL
 rw[List.map_map]
 rfl
theorem PF{f:State→Res RV}{m:M (Bool×T)}{o:T→Ob}{d:T→D}{P:Pt}{S:List Ob}(h:Ev R p σ f m (fun v=>((bif v.1 then RV.new (o v.2)else RV.val (.d (d v.2))),P,S)))(hd:∀ v,(o v).toD=some (d v)):Ev R p σ (ev f) (m.bind fun v=>.ok v.2) (fun v=>(.val (.d (d v)),P,S)):=fun sg hf=>by
 have:=h sg hf
 cases m with
 | ok v=>
  obtain⟨sg',e,hf'⟩:=this
  obtain⟨b,v⟩:=v
  refine⟨sg',?_,hf'⟩
  show(f _).bind settle=_
  rw[e,Res.aa]
  cases b with
  | true=>show(match (o v).toD with | some d=>Res.ok (RV.val (Val.d d)) (State.mk sg' S) | none=>.stuck)=_;rw[hd]
  | false=>rfl
 | exc x=>
  obtain⟨s,e,r⟩:=this
  exact⟨s,by show(f _).bind settle=_;rw[e];rfl,r⟩
 | bad=>trivial
theorem Q3{b:Bool}{o:Ob}{d:D}(h:o.toD=some d):Kw (bif b then RV.new o else RV.val (.d d)):=by
 cases b with
 | true=>show o.toD.isSome=true;rw[h];rfl
 | false=>trivial
end
end Vw
namespace Vw
open PySem L2 PyProof.Rows
def zE{A:Type}(N:List String)(c:String)(y:Exn)(m:M A):M A:=match m with
 | .ok v=>.ok v
 | .exc x=>match jz N x.c c with
  | some true=>.exc y
  | some false=>.exc x
  | none=>.bad
 | .bad=>.bad
def CQ(a b:List Nat)(i:Int):M Int:=.ok (Et a b i)
def oW{T:Type}(o:T→Ob):Option T→RV
 | none=>.val (.d .non)
 | some x=>.new (o x)
def lF(a b:D):M Bool:=match b with
 | .tup l=>if((pd a).plain&&PyData.plainAll (dS l)&&decide (min (PyData.depthAll (dS l)) (pd a).depth≤60))=true then .ok (l.any fun y=>fH y a)else .bad
 | _=>.bad
section
variable{R:List Ob→Prop}{p p':Pt}{σ σ':List Ob}{A B T:Type}{i j n:Nat}
theorem Ph{N:List String}{c:String}{b u:State→Res Fl}{y:Exn}{m:M A}{P:A→Pt}{S:A→List Ob}(h:Ev R p σ b m (fun v=>(.nx,P v,S v)))(hu:∀ s:State,R s.st→∃ s',u s=.exc y s'∧R s'.st):Ev R p σ (zH N c (ai [b]) u) (zE N c y m) (fun v=>(.nx,P v,S v)):=fun sg hf=>by
 have:=Hz h sg hf
 cases m with
 | ok v=>
  obtain⟨sg',e,hf'⟩:=this
  exact⟨sg',by unfold zH;rw[e],hf'⟩
 | exc x=>
  obtain⟨s',e,r⟩:=this
  unfold zE zH
  rw[e]
  dsimp only
  cases hx:jz N x.c c with
  | none=>trivial
  | some b=>
   cases b with
   | true=>
    obtain⟨s2,e2,r2⟩:=hu s' r
    exact⟨s2,e2,r2⟩
   | false=>exact⟨s',rfl,r⟩
 | bad=>trivial
theorem MM{g:Fn}{d:D}{y:Exn}{post:List Ob→T→RV×List Ob}(hg:∀ σ,R σ→cE R g [.d d] σ (.exc y:M T) (post σ)):∀ s:State,R s.st→∃ s',ai [bY (cK 1 (aw [fD d]) g)] s=.exc y s'∧R s'.st:=fun s hR=>by
 obtain⟨s2,e,r⟩:=hg s.st hR
 refine⟨⟨s.sg,s2.st⟩,?_,r⟩
 have e1:cK 1 (aw [fD d]) g s=.exc y ⟨s.sg,s2.st⟩:=by
  unfold cK
  rw[yH]
  rw[show ev (fD d) s=.ok (.val (.d d)) s from rfl,Res.aa,D9,Res.aa]
  show gF g [.d d] s=_
  unfold gF
  rw[e]
 show n8 (bY (cK 1 (aw [fD d]) g) s) _=_
 have e2:bY (cK 1 (aw [fD d]) g) s=.exc y ⟨s.sg,s2.st⟩:=by
  show(cK 1 (aw [fD d]) g s).bind _=_
  rw[e1]
  rfl
 rw[e2]
 rfl
theorem P8{a b:List Nat}{i:Int}:Ev R p σ (ya (.val (.d (.str a))) [.val (.d (.str b)),.val (.d (.int i))]) (CQ a b i) (pD D.int p σ):=Ev.at (r:=fun v=>RV.val (Val.d (D.int v))) fun sg _=>rfl
theorem OO{f:State→Res RV}{m:M (Option T)}{o:T→Ob}{d:T→D}{P:Pt}{S:List Ob}(h:Ev R p σ f m (fun v=>(oW o v,P,S)))(hd:∀ v,(o v).toD=some (d v)):Ev R p σ (ev f) m (fun v=>(.val (.d (eO d v)),P,S)):=fun sg hf=>by
 have:=h sg hf
 cases m with
 | ok v=>
  obtain⟨sg',e,hf'⟩:=this
  refine⟨sg',?_,hf'⟩
  show(f _).bind settle=_
  rw[e,Res.aa]
  cases v with
  | none=>rfl
  | some v=>show(match (o v).toD with | some d=>Res.ok (RV.val (Val.d d)) (State.mk sg' S) | none=>.stuck)=_;rw[hd];rfl
 | exc x=>
  obtain⟨s,e,r⟩:=this
  refine⟨s,?_,r⟩
  show(f _).bind settle=_
  rw[e]
  rfl
 | bad=>trivial
theorem B0{a b:D}:Ev R p σ (aD .isin (.val (.d a)) (.val (.d b))) (lF a b) (pD .bl p σ):=fun sg hf=>by
 cases b with
 | tup l=>
  unfold lF
  dsimp only
  split
  ·rename_i h
   refine⟨sg,?_,hf⟩
   have e:inD ⟨sg,σ⟩ (.val (.d a)) (.val (.d (.tup l)))=some (l.any fun y=>fH y a):=by
    show(match (none:Option (Option Val))with
     | some o=>some o.isSome
     | none=>match some a,some (D.tup l)with
      | some (.str a),some (.str b)=>some (subIn a b)
      | _,_=>match some a,some (D.tup l)with
       | some d,some (.lst l)=>if(pd d).plain&&PyData.plainAll (dS l)&&decide (min (PyData.depthAll (dS l)) (pd d).depth≤60)then some (l.any fun y=>fH y d)else none
       | some d,some (.tup l)=>if(pd d).plain&&PyData.plainAll (dS l)&&decide (min (PyData.depthAll (dS l)) (pd d).depth≤60)then some (l.any fun y=>fH y d)else none
       | _,_=>none)=_
    cases a<;> exact if_pos h
   rw[qe]
   show(match inD ⟨sg,σ⟩ (.val (.d a)) (.val (.d (.tup l)))with | some b=>aS (.bl b) ⟨sg,σ⟩ | none=>Res.stuck)=_
   rw[e]
   rfl
  ·trivial
 | _=>trivial
end
end Vw
namespace Vw
open PySem L2 PyProof.Rows
end Vw
namespace Vw
open PySem L2 PyProof.Rows
end Vw
namespace Vw
open PySem L2 PyProof.Rows
end Vw
namespace Vw
open PySem L2 PyProof.Rows
section
variable{R:List Ob→Prop}{p:Pt}{σ τ:List Ob}{T U:Type}
def lz(me:T→M U):List U→List T→M (List U)
 | acc,[]=>.ok acc
 | acc,x::l=>(me x).bind fun y=>(gd (decide (acc.length<sizeLine))).bind fun _=>lz me (acc++[y]) l
def vm(me:T→M U)(l:List T):M (List U):=lz me [] l
theorem F8{vs:List Nat}{t:Tg}{fe:State→Res RV}{E:T→Val}{e:U→D}{me:T→M U}{p2 p3:T→Pt}(hv:(vs.all fun v=>(p.getD v none).isNone)=true)
  (hb:∀ x,oo p t (E x) (p2 x)∧Ev R (p2 x) τ (fun s=>(fe s).bind cf) (me x) (fun y=>(.d (e y),p3 x,τ))) (hw3:∀ x,ek p (p3 x)):
  ∀ (l:List T) (acc:List U) (sg:Slots),Fits p sg→match lz me acc l with
   | .ok r=>∃ sg',n6 vs t eD fe (l.map E) (acc.map fun x=>.d (e x)) ⟨sg,τ⟩=.ok (r.map fun x=>.d (e x)) ⟨sg',τ⟩∧Fits p sg'
   | .exc z=>∃ s,n6 vs t eD fe (l.map E) (acc.map fun x=>.d (e x)) ⟨sg,τ⟩=.exc z s∧R s.st
   | .bad=>True
 | [],acc,sg,hf=>⟨sg,rfl,hf⟩
 | x::l,acc,sg,hf=>by
  obtain⟨h1,h3⟩:=hb x
  have ew:bG vs ⟨sg,τ⟩=⟨fQ sg vs,τ⟩:=rfl
  obtain⟨sg1,e1,f1⟩:=h1 _ τ (hf.wipe vs hv)
  unfold lz
  rw[List.map_cons]
  have step:n6 vs t eD fe (E x::l.map E) (acc.map fun x=>.d (e x)) ⟨sg,τ⟩=(match fe ⟨sg1,τ⟩with
    | .ok rv s=>match cf rv s with
     | .ok y s=>if(acc.map fun x=>Val.d (e x)).length<sizeLine then n6 vs t eD fe (l.map E) ((acc.map fun x=>Val.d (e x))++[y]) (bG vs s)else .stuck
     | _=>.stuck
    | .exc x s=>.exc x (bG vs s)
    | .stuck=>.stuck):=by
   show(match gE t (E x) (bG vs ⟨sg,τ⟩)with | none=>Res.stuck | some s=>_)=_
   rw[ew,e1]
   try rfl
  rw[step]
  have h3:=h3 sg1 f1
  cases hy:me x with
  | ok y=>
   rw[hy]at h3
   obtain⟨sg3,e3,f3⟩:=h3
   rw[M.aa]
   by_cases ha:acc.length<sizeLine
   ·rw[decide_eq_true ha,xq,M.aa]
    have e3:(fe ⟨sg1,τ⟩).bind cf=.ok (.d (e y)) ⟨sg3,τ⟩:=e3
    cases hfe:fe ⟨sg1,τ⟩with
    | ok rv s=>
     rw[hfe,Res.aa]at e3
     dsimp only
     rw[e3]
     dsimp only
     rw[if_pos (by simpa using ha)]
     have ih:=F8 hv hb hw3 l (acc++[y]) (fQ sg3 vs) ((f3.weak (hw3 x)).wipe vs hv)
     rw[List.map_append]at ih
     exact ih
    | exc z s=>rw[hfe]at e3;cases e3
    | stuck=>rw[hfe]at e3;cases e3
   ·rw[decide_eq_false ha];trivial
  | exc z=>
   rw[hy]at h3
   obtain⟨s,e3,r⟩:=h3
   have e3:(fe ⟨sg1,τ⟩).bind cf=.exc z s:=e3
   cases hfe:fe ⟨sg1,τ⟩with
   | ok rv s2=>
    rw[hfe,Res.aa]at e3
    exfalso
    cases rv with
    | val v=>cases e3
    | own i=>
     have e3:kd i s2=.exc z s:=e3
     unfold kd at e3
     repeat (first | cases e3 | split at e3)
    | new o=>
     dsimp only[cf]at e3
     split at e3<;> cases e3
   | exc z2 s2=>
    rw[hfe]at e3
    cases e3
    exact⟨_,rfl,r⟩
   | stuck=>rw[hfe]at e3;cases e3
  | bad=>trivial
theorem OL{vs:List Nat}{t:Tg}{src:State→Res (List Val)}{fe:State→Res RV}{ml:M (List T)}{E:T→Val}{q:Pt}{e:U→D}{me:T→M U}{p3 p2:T→Pt}(hs:Ev R p σ src ml (fun l=>(l.map E,q,τ)))(hv:(vs.all fun v=>(q.getD v none).isNone)=true)
  (hb:∀ x,oo q t (E x) (p2 x)∧Ev R (p2 x) τ (fun s=>(fe s).bind cf) (me x) (fun y=>(.d (e y),p3 x,τ))) (hw3:∀ x,ek q (p3 x)):
  Ev R p σ (DY vs t src eD fe) (ml.bind fun l=>vm me l) (fun r=>(.new (oL e r),q,τ)):=Ev.bind hs fun a sg hf=>by
 have:=F8 (R:=R) (fe:=fe) (me:=me) hv hb hw3 a [] (fQ sg vs) (hf.wipe vs hv)
 unfold vm
 show Rn R ((n6 vs t eD fe (a.map E) [] (bG vs ⟨sg,τ⟩)).bind A0) _ _
 have ew:bG vs ⟨sg,τ⟩=⟨fQ sg vs,τ⟩:=rfl
 rw[ew]
 cases hc:lz me [] a with
 | ok r=>
  rw[hc]at this
  obtain⟨sg',e1,f1⟩:=this
  have e1:n6 vs t eD fe (a.map E) [] ⟨fQ sg vs,τ⟩=_:=e1
  refine⟨sg',?_,f1⟩
  rw[e1];rfl
 | exc x=>
  rw[hc]at this
  obtain⟨s,e1,r⟩:=this
  have e1:n6 vs t eD fe (a.map E) [] ⟨fQ sg vs,τ⟩=_:=e1
  exact⟨s,by rw[e1];rfl,r⟩
 | bad=>trivial
end
end Vw
namespace K34
open PySem L2 PyProof.Rows Vw
def bT(aG:List Int):M (Int×List Int):=(if(eqB aG ([]:List Int))=true then(M.ok (((0:Int),aG)))else((CS aG).bind fun v1=>M.ok (v1)))
theorem fJ{R:List Ob→Prop}{S:(List Int)→List Ob}{n:Nat}(hr:∀ d,(S d)[n]? =some ((oL D.int) d))(hw:∀ d d',(S d).set n ((oL D.int) d')=S d'){aG:List Int}:cE R bp [.r n] (S aG) (bT aG) (fun v=>(.val (.d (D.int v.1)),S v.2)):=(dE (eV (fy (sv (aB (sv (fW (a:=aG) rfl)) (sn (Ev.bH (post2:=(pN (oL D.int) _ _)) (bz (l:=fun _=>([]:List Int)) (e:=D.int) aq (fun _=>.nil) (fun _=>rfl) (fun _=>rfl)) rfl) (fun v=>bN _ v)) (d0 (Pe (hr _)).pv aL (qL qI) (by decide))))) (aU (fj (cD D.int (0:Int)) rfl)) (aU (iH (φ:=fun v1=>v1) (mZ (sv (fW (a:=aG) rfl)) (fun _ hf=>vA (Pe (hr _)) hf) aq (Rc (hr _) (hw _))) fun _=>rfl))))
def kY(aK:List Int)(cI:Int)(cx:Int):M ((List Int)):=(eU (cz aK (none:Option Int) (some (63:Int))) [cI]).bind fun cQ=>((((bQ cQ (0:Int)).bind fun a2=>M.ok (a2/(50000:Int))).bind fun a3=>M.ok (a3%(2:Int))).bind fun a4=>M.ok (eqB a4 (1:Int))).bind fun b5=>if b5=true then((fM (fun(kA:Int)=>M.ok true) (fun(kA:Int)=>M.ok (kA/(100000:Int))) cQ).bind fun yX=>((lC 0 (cI+cx)).bind fun a8=>foldM (fun(c9:List Int×List Int) (k10:Int)=>(lH k10 (c9.2.length:Int)).bind fun at_11=>((if(decide (cI≤k10))=true then(((((bQ c9.2 at_11).bind fun a18=>M.ok (a18%(2147483587:Int))).bind fun a19=>(M.ok ()).bind fun w20=>M.ok (a19,w20)).bind fun z21=>iy c9.1 z21.1).bind fun cR=>M.ok cR)else(M.ok c9.1)):M (List Int)).bind fun j17=>(((bQ c9.2 at_11).bind fun a23=>M.ok (a23/(2147483587:Int))).bind fun a25=>(M.ok at_11).bind fun a26=>setM c9.2 a26 a25).bind fun sA=>M.ok (j17,sA)) (([]:List Int),yX) a8).bind fun r27=>M.ok (r27.1))else(((lC 0 cx).bind fun a28=>foldM (fun(c29:List Int) (k30:Int)=>(((mulM (k30+cI) (k30+cI)).bind fun a31=>mulM a31 (7919:Int)).bind fun a32=>M.ok (a32+(104729:Int))).bind fun jq=>((((((lH k30 (cQ.length:Int)).bind fun a34=>bQ cQ a34).bind fun a35=>M.ok (a35%(2147483647:Int))).bind fun a36=>M.ok (a36+jq)).bind fun a37=>mulM a37 (48271:Int)).bind fun a38=>M.ok (a38%(2147483647:Int))).bind fun iA=>(((mulM iA iA).bind fun a40=>(mulM (69621:Int) k30).bind fun a41=>M.ok (a40+a41)).bind fun a42=>M.ok (a42%(2147483629:Int))).bind fun g8=>((((mulM g8 g8).bind fun a44=>M.ok (a44%(2147483587:Int))).bind fun a45=>(M.ok ()).bind fun w46=>M.ok (a45,w46)).bind fun z47=>iy c29 z47.1).bind fun oX=>M.ok oX) ([]:List Int) a28).bind fun r49=>M.ok (r49))
theorem Cs{R:List Ob→Prop}{σ:List Ob}{aK:List Int}{cI:Int}{cx:Int}:cE R iK [.d ((eL D.int) aK),.d (D.int cI),.d (D.int cx)] σ (kY aK cI cx) (fun v=>(.new ((oL D.int) v),σ)):=(dE (aI (fun cQ=>[some (.v (.d ((eL D.int) aK))),some (.v (.d (D.int cI))),some (.v (.d (D.int cx))),some (.own ((oL D.int) cQ)),none,none,none,none,none,none,none]) (kW (aB (sn (fO (sv (ax (a:=aK) (e:=(eL D.int)) rfl)) pn (pe (sv (cD D.int (63:Int)))) (NX eI)) (fun v=>bN _ v)) (sn (Ev.bH (post2:=(pN (oL D.int) _ _)) (bz (l:=fun _=>([cI]:List Int)) (e:=D.int) (ah (sv (ax (a:=cI) (e:=D.int) rfl)) aq) (fun _=>(.d .nil)) (fun _=>rfl) (fun _=>rfl)) rfl) (fun v=>bN _ v)) (add_l eI eI))) (fun _=>rfl) fun cQ=>(fx [some (.v (.d ((eL D.int) aK))),some (.v (.d (D.int cI))),some (.v (.d (D.int cx))),some (.own ((oL D.int) cQ)),some (.own ((oL D.int) ([]:List Int))),none,none,none,none,none,none] (kW (Ev.bH (post2:=(pN (oL D.int) _ _)) (bz (l:=fun _=>([]:List Int)) (e:=D.int) aq (fun _=>.nil) (fun _=>rfl) (fun _=>rfl)) rfl)) rfl (jO (b:=fun v=>v) (tB (b:=fun v=>v) (sv (bO (sv (bO (sv (bO (sv (aB (dc (dg (a:=cQ) rfl)) (sv (cD D.int (0:Int))) (gY (cb rfl)))) (fun a2=>(sv (cD D.int (50000:Int)))) fun a2=>(km (a:=a2) (b:=(50000:Int)) (rG (by decide) (by decide))))) (fun a3=>(sv (cD D.int (2:Int)))) fun a3=>(gA (a:=a3) (b:=(2:Int)) (by decide)))) (fun a4=>(sv (cD D.int (1:Int)))) fun a4=>(d0 aL aL qI (by decide))))) (fun b5=>(aI (fun yX=>[some (.v (.d ((eL D.int) aK))),some (.v (.d (D.int cI))),some (.v (.d (D.int cx))),some (.v (.d ((eL D.int) cQ))),some (.own ((oL D.int) ([]:List Int))),none,some (.own ((oL D.int) yX)),none,none,none,none]) (kW (Cj (q:=[some (.v (.d ((eL D.int) aK))),some (.v (.d (D.int cI))),some (.v (.d (D.int cx))),some (.v (.d ((eL D.int) cQ))),some (.own ((oL D.int) ([]:List Int))),none,none,none,none,none,none]) (p2:=fun(kA:Int)=>[some (.v (.d ((eL D.int) aK))),some (.v (.d (D.int cI))),some (.v (.d (D.int cx))),some (.v (.d ((eL D.int) cQ))),some (.own ((oL D.int) ([]:List Int))),none,none,none,none,none,some (.v (.d (D.int kA)))]) (p3:=fun(kA:Int)=>[some (.v (.d ((eL D.int) aK))),some (.v (.d (D.int cI))),some (.v (.d (D.int cx))),some (.v (.d ((eL D.int) cQ))),some (.own ((oL D.int) ([]:List Int))),none,none,none,none,none,some (.v (.d (D.int kA)))]) (mt:=(fun(kA:Int)=>M.ok true)) (me:=(fun(kA:Int)=>M.ok (kA/(100000:Int)))) (e:=D.int) (Qb rfl) rfl (fun(kA:Int)=>⟨eS,rL,(ui (aB (sv (ax (a:=kA) (e:=D.int) rfl)) (sv (cD D.int (100000:Int))) (km (a:=kA) (b:=(100000:Int)) (rG (by decide) (by decide)))))⟩) (fun _=>by(repeat' (first | exact trivial | refine And.intro rfl ?_))) (fun _=>by(repeat' (first | exact trivial | refine And.intro rfl ?_))))) (fun _=>rfl) fun yX=>(kH (qz (P:=fun(c9:List Int×List Int)=>[some (.v (.d ((eL D.int) aK))),some (.v (.d (D.int cI))),some (.v (.d (D.int cx))),some (.v (.d ((eL D.int) cQ))),some (.own ((oL D.int) c9.1)),none,some (.own ((oL D.int) c9.2)),none,none,none,none]) (S:=fun(c9:List Int×List Int)=>σ) (lA:=(fun(a8:List Int)=>a8)) (c0:=fun(a8:List Int)=>(([]:List Int),yX)) (mb:=(fun(c9:List Int×List Int) (k10:Int)=>(lH k10 (c9.2.length:Int)).bind fun at_11=>((if(decide (cI≤k10))=true then(((((bQ c9.2 at_11).bind fun a18=>M.ok (a18%(2147483587:Int))).bind fun a19=>(M.ok ()).bind fun w20=>M.ok (a19,w20)).bind fun z21=>iy c9.1 z21.1).bind fun cR=>M.ok cR)else(M.ok c9.1)):M (List Int)).bind fun j17=>(((bQ c9.2 at_11).bind fun a23=>M.ok (a23/(2147483587:Int))).bind fun a25=>(M.ok at_11).bind fun a26=>setM c9.2 a26 a25).bind fun sA=>M.ok (j17,sA))) (Gk (ah (sv (aB (sv (ax (a:=cI) (e:=D.int) rfl)) (sv (ax (a:=cx) (e:=D.int) rfl)) dI)) aq) ze) (fun _=>by(repeat' (first | exact trivial | refine And.intro rfl ?_))) (fun _=>rfl) (fun c9 k10=>eS) (fun c9 k10=>(aI (fun at_11=>[some (.v (.d ((eL D.int) aK))),some (.v (.d (D.int cI))),some (.v (.d (D.int cx))),some (.v (.d ((eL D.int) cQ))),some (.own ((oL D.int) c9.1)),some (.v (.d (D.int k10))),some (.own ((oL D.int) c9.2)),none,none,some (.v (.d (D.int at_11))),none]) (cU (aB (sv (ax (a:=k10) (e:=D.int) rfl)) (sv (cY (ah (dc (dg (a:=c9.2) rfl)) aq) (oG (cb rfl)))) tM)) (fun _=>rfl) fun at_11=>(NG (Pc:=fun(j17:List Int)=>[some (.v (.d ((eL D.int) aK))),some (.v (.d (D.int cI))),some (.v (.d (D.int cx))),some (.v (.d ((eL D.int) cQ))),some (.own ((oL D.int) j17)),some (.v (.d (D.int k10))),some (.own ((oL D.int) c9.2)),none,none,some (.v (.d (D.int at_11))),none]) (Sc:=fun(j17:List Int)=>σ) (fy (sv (aB (sv (ax (a:=k10) (e:=D.int) rfl)) (sv (ax (a:=cI) (e:=D.int) rfl)) Ta))) (aI (fun cR=>[some (.v (.d ((eL D.int) aK))),some (.v (.d (D.int cI))),some (.v (.d (D.int cx))),some (.v (.d ((eL D.int) cQ))),some (.own ((oL D.int) cR)),some (.v (.d (D.int k10))),some (.own ((oL D.int) c9.2)),none,none,some (.v (.d (D.int at_11))),none]) (kZ (ox (dc (dg (a:=c9.1) rfl)) (fun _ hf=>vA (cb rfl) hf) (aQ (sv (bO (sv (aB (dc (dg (a:=c9.2) rfl)) (sv (ax (a:=at_11) (e:=D.int) rfl)) (gY (cb rfl)))) (fun a18=>(sv (cD D.int (2147483587:Int)))) fun a18=>(gA (a:=a18) (b:=(2147483587:Int)) (by decide)))) fun a19=>aq) fun z21=>(sR rfl))) (fun _=>rfl) fun cR=>(pj rfl (by(repeat' (first | exact trivial | refine And.intro rfl ?_))))) (pj rfl (by(repeat' (first | exact trivial | refine And.intro rfl ?_)))) fun j17=>(aI (fun sA=>[some (.v (.d ((eL D.int) aK))),some (.v (.d (D.int cI))),some (.v (.d (D.int cx))),some (.v (.d ((eL D.int) cQ))),some (.own ((oL D.int) j17)),some (.v (.d (D.int k10))),some (.own ((oL D.int) sA)),none,none,some (.v (.d (D.int at_11))),none]) (Nf rfl (sv (bO (sv (aB (dc (dg (a:=c9.2) rfl)) (sv (ax (a:=at_11) (e:=D.int) rfl)) (gY (cb rfl)))) (fun a23=>(sv (cD D.int (2147483587:Int)))) fun a23=>(km (a:=a23) (b:=(2147483587:Int)) (rG (by decide) (by decide))))) (fun _=>(sv (ax (a:=at_11) (e:=D.int) rfl)))) (fun _=>rfl) fun sA=>(jK rfl (by(repeat' (first | exact trivial | refine And.intro rfl ?_))))))))) fun r27=>(aU (NB rfl rfl))))) (fun b5=>(kH (qz (P:=fun(c29:List Int)=>[some (.v (.d ((eL D.int) aK))),some (.v (.d (D.int cI))),some (.v (.d (D.int cx))),some (.own ((oL D.int) cQ)),some (.own ((oL D.int) c29)),none,none,none,none,none,none]) (S:=fun(c29:List Int)=>σ) (lA:=(fun(a28:List Int)=>a28)) (c0:=fun(a28:List Int)=>([]:List Int)) (mb:=(fun(c29:List Int) (k30:Int)=>(((mulM (k30+cI) (k30+cI)).bind fun a31=>mulM a31 (7919:Int)).bind fun a32=>M.ok (a32+(104729:Int))).bind fun jq=>((((((lH k30 (cQ.length:Int)).bind fun a34=>bQ cQ a34).bind fun a35=>M.ok (a35%(2147483647:Int))).bind fun a36=>M.ok (a36+jq)).bind fun a37=>mulM a37 (48271:Int)).bind fun a38=>M.ok (a38%(2147483647:Int))).bind fun iA=>(((mulM iA iA).bind fun a40=>(mulM (69621:Int) k30).bind fun a41=>M.ok (a40+a41)).bind fun a42=>M.ok (a42%(2147483629:Int))).bind fun g8=>((((mulM g8 g8).bind fun a44=>M.ok (a44%(2147483587:Int))).bind fun a45=>(M.ok ()).bind fun w46=>M.ok (a45,w46)).bind fun z47=>iy c29 z47.1).bind fun oX=>M.ok oX)) (Gk (ah (sv (ax (a:=cx) (e:=D.int) rfl)) aq) ze) (fun _=>by(repeat' (first | exact trivial | refine And.intro rfl ?_))) (fun _=>rfl) (fun c29 k30=>eS) (fun c29 k30=>(aI (fun jq=>[some (.v (.d ((eL D.int) aK))),some (.v (.d (D.int cI))),some (.v (.d (D.int cx))),some (.own ((oL D.int) cQ)),some (.own ((oL D.int) c29)),some (.v (.d (D.int k30))),none,some (.v (.d (D.int jq))),none,none,none]) (cU (bO (sv (bO (sv (aB (sv (aB (sv (ax (a:=k30) (e:=D.int) rfl)) (sv (ax (a:=cI) (e:=D.int) rfl)) dI)) (sv (aB (sv (ax (a:=k30) (e:=D.int) rfl)) (sv (ax (a:=cI) (e:=D.int) rfl)) dI)) qD)) (fun a31=>(sv (cD D.int (7919:Int)))) fun a31=>qD)) (fun a32=>(sv (cD D.int (104729:Int)))) fun a32=>dI)) (fun _=>rfl) fun jq=>(aI (fun iA=>[some (.v (.d ((eL D.int) aK))),some (.v (.d (D.int cI))),some (.v (.d (D.int cx))),some (.own ((oL D.int) cQ)),some (.own ((oL D.int) c29)),some (.v (.d (D.int k30))),none,some (.v (.d (D.int jq))),some (.v (.d (D.int iA))),none,none]) (cU (bO (sv (bO (sv (bO (sv (bO (sv (jv (dc (dg (a:=cQ) rfl)) (sv (aB (sv (ax (a:=k30) (e:=D.int) rfl)) (sv (cY (ah (dc (dg (a:=cQ) rfl)) aq) (oG (cb rfl)))) tM)) fun a34=>(gY (cb rfl)))) (fun a35=>(sv (cD D.int (2147483647:Int)))) fun a35=>(gA (a:=a35) (b:=(2147483647:Int)) (by decide)))) (fun a36=>(sv (ax (a:=jq) (e:=D.int) rfl))) fun a36=>dI)) (fun a37=>(sv (cD D.int (48271:Int)))) fun a37=>qD)) (fun a38=>(sv (cD D.int (2147483647:Int)))) fun a38=>(gA (a:=a38) (b:=(2147483647:Int)) (by decide)))) (fun _=>rfl) fun iA=>(aI (fun g8=>[some (.v (.d ((eL D.int) aK))),some (.v (.d (D.int cI))),some (.v (.d (D.int cx))),some (.own ((oL D.int) cQ)),some (.own ((oL D.int) c29)),some (.v (.d (D.int k30))),none,some (.v (.d (D.int jq))),some (.v (.d (D.int g8))),none,none]) (cU (bO (sv (pP (sv (aB (sv (ax (a:=iA) (e:=D.int) rfl)) (sv (ax (a:=iA) (e:=D.int) rfl)) qD)) (fun a40=>(sv (aB (sv (cD D.int (69621:Int))) (sv (ax (a:=k30) (e:=D.int) rfl)) qD))) fun a40 a41=>dI)) (fun a42=>(sv (cD D.int (2147483629:Int)))) fun a42=>(gA (a:=a42) (b:=(2147483629:Int)) (by decide)))) (fun _=>rfl) fun g8=>(aI (fun oX=>[some (.v (.d ((eL D.int) aK))),some (.v (.d (D.int cI))),some (.v (.d (D.int cx))),some (.own ((oL D.int) cQ)),some (.own ((oL D.int) oX)),some (.v (.d (D.int k30))),none,some (.v (.d (D.int jq))),some (.v (.d (D.int g8))),none,none]) (kZ (ox (dc (dg (a:=c29) rfl)) (fun _ hf=>vA (cb rfl) hf) (aQ (sv (bO (sv (aB (sv (ax (a:=g8) (e:=D.int) rfl)) (sv (ax (a:=g8) (e:=D.int) rfl)) qD)) (fun a44=>(sv (cD D.int (2147483587:Int)))) fun a44=>(gA (a:=a44) (b:=(2147483587:Int)) (by decide)))) fun a45=>aq) fun z47=>(sR rfl))) (fun _=>rfl) fun oX=>(jK rfl (by(repeat' (first | exact trivial | refine And.intro rfl ?_)))))))))) fun r49=>(aU (NB rfl rfl))))))))
def lu(aG:List Int):M ((List (List Nat))×List Int):=((((((nox (bT aG)).bind fun a1=>M.ok ((a1.1%(6:Int)),a1.2)).bind fun a2=>(bQ [(0:Int),(1:Int),(2:Int),(3:Int),(1:Int),(2:Int)] a2.1).bind fun v=>M.ok (v,a2.2)).bind fun a3=>(M.ok ()).bind fun w4=>M.ok (a3,w4)).bind fun z5=>(lC 0 z5.1.1).bind fun v=>M.ok (v,z5.1.2)).bind fun a6=>foldM (fun(c7:(List (List Nat×Bool))×List Int) (k8:Int)=>(nox (bT c7.2)).bind fun bb=>((((lC 0 ((1:Int)+(bb.1%(11:Int)))).bind fun l16=>fM (fun(j10:Int)=>M.ok true) (fun(j10:Int)=>((((mulM j10 j10).bind fun a12=>mulM a12 (7:Int)).bind fun a13=>M.ok ((bb.1/(13:Int))+a13)).bind fun a14=>M.ok (a14%(26:Int))).bind fun a15=>fu (sS "abcdefghijklmnopqrstuvwxyz") a15) l16).bind fun a17=>(M.ok ()).bind fun w18=>M.ok (a17,w18)).bind fun z19=>joinM (sS "") z19.1).bind fun nz=>((M.ok true).bind fun a23=>((fu (sS "abcdefghijklmnopqrstuvwxyz") ((bb.1/(500:Int))%(26:Int))).bind fun a21=>br a21 nz).bind fun a24=>D4 c7.1 a24 a23).bind fun cR=>M.ok (cR,bb.2)) (([]:List (List Nat×Bool)),a6.2) a6.1).bind fun r25=>(JQ (r25.1.map fun p=>p.1)).bind fun v26=>M.ok ((v26,r25.2))
theorem Eh{R:List Ob→Prop}{S:(List Int)→List Ob}{n:Nat}(hr:∀ d,(S d)[n]? =some ((oL D.int) d))(hw:∀ d d',(S d).set n ((oL D.int) d')=S d'){aG:List Int}:cE R jP [.r n] (S aG) (lu aG) (fun v=>(.new ((oL D.str) v.1),S v.2)):=(dE (fx [some (.v (.r n)),some (.v (.d (D.str (sS "abcdefghijklmnopqrstuvwxyz")))),none,none,none,none,none] (cU (cD D.str (sS "abcdefghijklmnopqrstuvwxyz"))) rfl (fx [some (.v (.r n)),some (.v (.d (D.str (sS "abcdefghijklmnopqrstuvwxyz")))),some (.own ((qR D.bl) ([]:List (List Nat×Bool)))),none,none,none,none] (kW (Pj (e:=D.bl))) rfl (kH (qz (P:=fun(c7:(List (List Nat×Bool))×List Int)=>[some (.v (.r n)),some (.v (.d (D.str (sS "abcdefghijklmnopqrstuvwxyz")))),some (.own ((qR D.bl) c7.1)),none,none,none,none]) (S:=fun(c7:(List (List Nat×Bool))×List Int)=>S c7.2) (lA:=(fun(a6:List Int×List Int)=>a6.1)) (c0:=fun(a6:List Int×List Int)=>(([]:List (List Nat×Bool)),a6.2)) (mb:=(fun(c7:(List (List Nat×Bool))×List Int) (k8:Int)=>(nox (bT c7.2)).bind fun bb=>((((lC 0 ((1:Int)+(bb.1%(11:Int)))).bind fun l16=>fM (fun(j10:Int)=>M.ok true) (fun(j10:Int)=>((((mulM j10 j10).bind fun a12=>mulM a12 (7:Int)).bind fun a13=>M.ok ((bb.1/(13:Int))+a13)).bind fun a14=>M.ok (a14%(26:Int))).bind fun a15=>fu (sS "abcdefghijklmnopqrstuvwxyz") a15) l16).bind fun a17=>(M.ok ()).bind fun w18=>M.ok (a17,w18)).bind fun z19=>joinM (sS "") z19.1).bind fun nz=>((M.ok true).bind fun a23=>((fu (sS "abcdefghijklmnopqrstuvwxyz") ((bb.1/(500:Int))%(26:Int))).bind fun a21=>br a21 nz).bind fun a24=>D4 c7.1 a24 a23).bind fun cR=>M.ok (cR,bb.2))) (RF (aQ (sv (jv (sn (Ev.bH (post2:=(pN (oL D.int) _ _)) (bz (l:=fun _=>([(0:Int),(1:Int),(2:Int),(3:Int),(1:Int),(2:Int)]:List Int)) (e:=D.int) (ah (sv (cD D.int (0:Int))) (ah (sv (cD D.int (1:Int))) (ah (sv (cD D.int (2:Int))) (ah (sv (cD D.int (3:Int))) (ah (sv (cD D.int (1:Int))) (ah (sv (cD D.int (2:Int))) aq)))))) (fun _=>(.d (.d (.d (.d (.d (.d .nil))))))) (fun _=>rfl) (fun _=>rfl)) rfl) (fun v=>bN _ v)) (sv (bO (sv (bE (R':=R) (post:=(pE D.int _ S)) (ah (sv (fW (a:=aG) rfl)) aq) (.d .nil) rfl (fJ (aG:=aG) hr hw) (fun _=>rfl))) (fun a1=>(sv (cD D.int (6:Int)))) fun a1=>(Ev.bH (post2:=(pE D.int _ S)) (gA (a:=a1.1) (b:=(6:Int)) (by decide)) rfl))) fun a2=>(Ev.map (fun v=>(v,a2.2)) (pE D.int _ S) (gY eI) fun _=>rfl))) fun a3=>aq) fun z5=>Ev.map (fun v=>(v,z5.1.2)) (R4 (fun x=>.d (.int x)) _ S) ze fun _=>rfl) (fun _=>by(repeat' (first | exact trivial | refine And.intro rfl ?_))) (fun _=>rfl) (fun c7 k8=>eS) (fun c7 k8=>(aI (fun bb=>[some (.v (.r n)),some (.v (.d (D.str (sS "abcdefghijklmnopqrstuvwxyz")))),some (.own ((qR D.bl) c7.1)),some (.v (.d (D.int k8))),some (.v (.d (D.int bb.1))),none,none]) (cU (bE (R':=R) (post:=(pE D.int _ S)) (ah (sv (fW (a:=c7.2) rfl)) aq) (.d .nil) rfl (fJ (aG:=c7.2) hr hw) (fun _=>rfl))) (fun _=>rfl) fun bb=>(aI (fun nz=>[some (.v (.r n)),some (.v (.d (D.str (sS "abcdefghijklmnopqrstuvwxyz")))),some (.own ((qR D.bl) c7.1)),some (.v (.d (D.int k8))),some (.v (.d (D.int bb.1))),some (.v (.d (D.str nz))),none]) (cU (ox (sv (cD D.str (sS ""))) (fun _ _=>rfl) (aQ (sn (KZ (q:=[some (.v (.r n)),some (.v (.d (D.str (sS "abcdefghijklmnopqrstuvwxyz")))),some (.own ((qR D.bl) c7.1)),some (.v (.d (D.int k8))),some (.v (.d (D.int bb.1))),none,none]) (p2:=fun(j10:Int)=>[some (.v (.r n)),some (.v (.d (D.str (sS "abcdefghijklmnopqrstuvwxyz")))),some (.own ((qR D.bl) c7.1)),some (.v (.d (D.int k8))),some (.v (.d (D.int bb.1))),none,some (.v (.d (D.int j10)))]) (p3:=fun(j10:Int)=>[some (.v (.r n)),some (.v (.d (D.str (sS "abcdefghijklmnopqrstuvwxyz")))),some (.own ((qR D.bl) c7.1)),some (.v (.d (D.int k8))),some (.v (.d (D.int bb.1))),none,some (.v (.d (D.int j10)))]) (mt:=(fun(j10:Int)=>M.ok true)) (me:=(fun(j10:Int)=>((((mulM j10 j10).bind fun a12=>mulM a12 (7:Int)).bind fun a13=>M.ok ((bb.1/(13:Int))+a13)).bind fun a14=>M.ok (a14%(26:Int))).bind fun a15=>fu (sS "abcdefghijklmnopqrstuvwxyz") a15)) (e:=D.str) (Gk (ah (sv (aB (sv (cD D.int (1:Int))) (sv (aB (sv (ax (a:=bb.1) (e:=D.int) rfl)) (sv (cD D.int (11:Int))) (gA (a:=bb.1) (b:=(11:Int)) (by decide)))) dI)) aq) ze) rfl (fun(j10:Int)=>⟨eS,rL,(ui (jv (sv (ax (a:=(sS "abcdefghijklmnopqrstuvwxyz")) (e:=D.str) rfl)) (sv (bO (sv (jv (sv (aB (sv (ax (a:=bb.1) (e:=D.int) rfl)) (sv (cD D.int (13:Int))) (km (a:=bb.1) (b:=(13:Int)) (rG (by decide) (by decide))))) (sv (bO (sv (aB (sv (ax (a:=j10) (e:=D.int) rfl)) (sv (ax (a:=j10) (e:=D.int) rfl)) qD)) (fun a12=>(sv (cD D.int (7:Int)))) fun a12=>qD)) fun a13=>dI)) (fun a14=>(sv (cD D.int (26:Int)))) fun a14=>(gA (a:=a14) (b:=(26:Int)) (by decide)))) fun a15=>rB))⟩) (fun _=>by(repeat' (first | exact trivial | refine And.intro rfl ?_))) (fun _=>by(repeat' (first | exact trivial | refine And.intro rfl ?_)))) (fun v=>bN _ v)) fun a17=>aq) fun z19=>(yM eI))) (fun _=>rfl) fun nz=>(aI (fun cR=>[some (.v (.r n)),some (.v (.d (D.str (sS "abcdefghijklmnopqrstuvwxyz")))),some (.own ((qR D.bl) cR)),some (.v (.d (D.int k8))),some (.v (.d (D.int bb.1))),some (.v (.d (D.str nz))),none]) (Oo rfl (sv (cD D.bl true)) (fun _=>(sv (bO (sv (aB (sv (ax (a:=(sS "abcdefghijklmnopqrstuvwxyz")) (e:=D.str) rfl)) (sv (aB (sv (aB (sv (ax (a:=bb.1) (e:=D.int) rfl)) (sv (cD D.int (500:Int))) (km (a:=bb.1) (b:=(500:Int)) (rG (by decide) (by decide))))) (sv (cD D.int (26:Int))) (gA (a:=(bb.1/(500:Int))) (b:=(26:Int)) (by decide)))) rB)) (fun a21=>(sv (ax (a:=nz) (e:=D.str) rfl))) fun a21=>dW)))) (fun _=>rfl) fun cR=>(jK rfl (by(repeat' (first | exact trivial | refine And.intro rfl ?_))))))))) fun r25=>(aU (OQ (φ:=fun v26=>(v26,r25.2)) (cY (ah (dc (dg (a:=r25.1) rfl)) aq) (LU (Qk rfl))) fun _=>rfl))))))
def jj(aG:List Int):M (List Nat×List Int):=(M.ok (sS " !\"#$&'()*+,-./0123456789:;<=>?@ABCDEFGHIJKLMNOPQRSTUVWXYZ[\\]^_`abcdefghijklmnopqrstuvwxyz{|}~")).bind fun jf=>(((((nox (bT aG)).bind fun a2=>M.ok ((a2.1%(10:Int)),a2.2)).bind fun a3=>(M.ok ()).bind fun w4=>M.ok (a3,w4)).bind fun z5=>(lC 0 z5.1.1).bind fun v=>M.ok (v,z5.1.2)).bind fun a6=>foldM (fun(c7:List Nat×List Int) (k8:Int)=>(nox (bT c7.2)).bind fun bb=>(bQ [jf,(sS "' a:"),(sS "ab''")] (bb.1%(3:Int))).bind fun iU=>((((gx iU).bind fun a11=>lH (bb.1/(3:Int)) a11).bind fun a12=>fu iU a12).bind fun a13=>br c7.1 a13).bind fun oY=>M.ok (oY,bb.2)) ((sS ""),a6.2) a6.1).bind fun r15=>M.ok ((r15.1,r15.2))
theorem EW{R:List Ob→Prop}{S:(List Int)→List Ob}{n:Nat}(hr:∀ d,(S d)[n]? =some ((oL D.int) d))(hw:∀ d d',(S d).set n ((oL D.int) d')=S d'){aG:List Int}:cE R jl [.r n] (S aG) (jj aG) (fun v=>(.val (.d (D.str v.1)),S v.2)):=(dE (aI (fun jf=>[some (.v (.r n)),some (.v (.d (D.str jf))),none,none,none,none]) (cU (cD D.str (sS " !\"#$&'()*+,-./0123456789:;<=>?@ABCDEFGHIJKLMNOPQRSTUVWXYZ[\\]^_`abcdefghijklmnopqrstuvwxyz{|}~"))) (fun _=>rfl) fun jf=>(fx [some (.v (.r n)),some (.v (.d (D.str jf))),some (.v (.d (D.str (sS "")))),none,none,none] (cU (cD D.str (sS ""))) rfl (kH (qz (P:=fun(c7:List Nat×List Int)=>[some (.v (.r n)),some (.v (.d (D.str jf))),some (.v (.d (D.str c7.1))),none,none,none]) (S:=fun(c7:List Nat×List Int)=>S c7.2) (lA:=(fun(a6:List Int×List Int)=>a6.1)) (c0:=fun(a6:List Int×List Int)=>((sS ""),a6.2)) (mb:=(fun(c7:List Nat×List Int) (k8:Int)=>(nox (bT c7.2)).bind fun bb=>(bQ [jf,(sS "' a:"),(sS "ab''")] (bb.1%(3:Int))).bind fun iU=>((((gx iU).bind fun a11=>lH (bb.1/(3:Int)) a11).bind fun a12=>fu iU a12).bind fun a13=>br c7.1 a13).bind fun oY=>M.ok (oY,bb.2))) (RF (aQ (sv (bO (sv (bE (R':=R) (post:=(pE D.int _ S)) (ah (sv (fW (a:=aG) rfl)) aq) (.d .nil) rfl (fJ (aG:=aG) hr hw) (fun _=>rfl))) (fun a2=>(sv (cD D.int (10:Int)))) fun a2=>(Ev.bH (post2:=(pE D.int _ S)) (gA (a:=a2.1) (b:=(10:Int)) (by decide)) rfl))) fun a3=>aq) fun z5=>Ev.map (fun v=>(v,z5.1.2)) (R4 (fun x=>.d (.int x)) _ S) ze fun _=>rfl) (fun _=>by(repeat' (first | exact trivial | refine And.intro rfl ?_))) (fun _=>rfl) (fun c7 k8=>eS) (fun c7 k8=>(aI (fun bb=>[some (.v (.r n)),some (.v (.d (D.str jf))),some (.v (.d (D.str c7.1))),some (.v (.d (D.int k8))),some (.v (.d (D.int bb.1))),none]) (cU (bE (R':=R) (post:=(pE D.int _ S)) (ah (sv (fW (a:=c7.2) rfl)) aq) (.d .nil) rfl (fJ (aG:=c7.2) hr hw) (fun _=>rfl))) (fun _=>rfl) fun bb=>(aI (fun iU=>[some (.v (.r n)),some (.v (.d (D.str jf))),some (.v (.d (D.str c7.1))),some (.v (.d (D.int k8))),some (.v (.d (D.int bb.1))),some (.v (.d (D.str iU)))]) (cU (aB (sn (Ev.bH (post2:=(pN (oL D.str) _ _)) (bz (l:=fun _=>([jf,(sS "' a:"),(sS "ab''")]:List (List Nat))) (e:=D.str) (ah (sv (ax (a:=jf) (e:=D.str) rfl)) (ah (sv (cD D.str (sS "' a:"))) (ah (sv (cD D.str (sS "ab''"))) aq))) (fun _=>(.d (.d (.d .nil)))) (fun _=>rfl) (fun _=>rfl)) rfl) (fun v=>bN _ v)) (sv (aB (sv (ax (a:=bb.1) (e:=D.int) rfl)) (sv (cD D.int (3:Int))) (gA (a:=bb.1) (b:=(3:Int)) (by decide)))) (gY eI))) (fun _=>rfl) fun iU=>(aI (fun oY=>[some (.v (.r n)),some (.v (.d (D.str jf))),some (.v (.d (D.str oY))),some (.v (.d (D.int k8))),some (.v (.d (D.int bb.1))),some (.v (.d (D.str iU)))]) (cU (jv (sv (ax (a:=c7.1) (e:=D.str) rfl)) (sv (jv (sv (ax (a:=iU) (e:=D.str) rfl)) (sv (jv (sv (aB (sv (ax (a:=bb.1) (e:=D.int) rfl)) (sv (cD D.int (3:Int))) (km (a:=bb.1) (b:=(3:Int)) (rG (by decide) (by decide))))) (sv (cY (ah (sv (ax (a:=iU) (e:=D.str) rfl)) aq) kS)) fun a11=>tM)) fun a12=>rB)) fun a13=>dW)) (fun _=>rfl) fun oY=>(jK rfl (by(repeat' (first | exact trivial | refine And.intro rfl ?_))))))))) fun r15=>(aU (fj (ax (a:=r15.1) (e:=D.str) rfl) rfl))))))
def gh(aG:List Int):M ((List (List Nat×List Nat))×List Int):=((nox (lu aG)).bind fun a6=>oH (fun i9 c2=>M.ok true) (fun i9 c2=>((nox (jj c2)).bind fun a3=>(M.ok ()).bind fun w4=>M.ok (a3,w4)).bind fun z5=>M.ok ((i9,z5.1.1),z5.1.2)) a6.1 a6.2).bind fun v7=>M.ok (v7)
theorem qJ{R:List Ob→Prop}{S:(List Int)→List Ob}{n:Nat}(hr:∀ d,(S d)[n]? =some ((oL D.int) d))(hw:∀ d d',(S d).set n ((oL D.int) d')=S d'){aG:List Int}:cE R eR [.r n] (S aG) (gh aG) (fun v=>(.new ((oL (aP D.str D.str)) v.1),S v.2)):=(dE (aU (OQ (φ:=fun v7=>v7) (GV (q:=[some (.v (.r n)),none]) (p2:=fun i9=>[some (.v (.r n)),some (.v (.d (D.str i9)))]) (p3:=fun i9=>[some (.v (.r n)),some (.v (.d (D.str i9)))]) (S:=S) (lA:=(fun(a6:List (List Nat)×List Int)=>a6.1)) (cA:=(fun(a6:List (List Nat)×List Int)=>a6.2)) (mt:=(fun i9 c2=>M.ok true)) (me:=(fun i9 c2=>((nox (jj c2)).bind fun a3=>(M.ok ()).bind fun w4=>M.ok (a3,w4)).bind fun z5=>M.ok ((i9,z5.1.1),z5.1.2))) (e:=(aP D.str D.str)) (Qj (sn (bE (R':=R) (post:=(Lk (oL D.str) _ S)) (ah (sv (fW (a:=aG) rfl)) aq) (.d .nil) rfl (Eh (aG:=aG) hr hw) (fun _=>rfl)) (fun v=>bN _ v.1))) rfl (fun i9 c2=>⟨eS,rL,(ui (Ev.map (fun(z5:(List Nat×List Int)×Unit)=>((i9,z5.1.1),z5.1.2)) (pE (aP D.str D.str) _ S) (fS (ah (sv (ax (a:=i9) (e:=D.str) rfl)) (aQ (sv (bE (R':=R) (post:=(pE D.str _ S)) (ah (sv (fW (a:=c2) rfl)) aq) (.d .nil) rfl (EW (aG:=c2) hr hw) (fun _=>rfl))) fun a3=>aq)) (fun _=>(.d (.d .nil))) (fun _=>rfl) (fun _=>rfl)) fun _=>rfl))⟩) (fun _=>by(repeat' (first | exact trivial | refine And.intro rfl ?_))) (fun _=>by(repeat' (first | exact trivial | refine And.intro rfl ?_)))) fun _=>rfl)))
def fg(aK:List Int)(aG:List Int):M (Int×List Int):=(nox (bT aG)).bind fun one1=>(eU (cz aK (none:Option Int) (some (63:Int))) [one1.1]).bind fun qg=>((((((lH (one1.1/(4:Int)) (qg.length:Int)).bind fun a3=>bQ qg a3).bind fun a4=>(DX (10:Int) (60:Int)).bind fun a5=>lH a4 a5).bind fun a6=>(((DX (10:Int) (59:Int)).bind fun a7=>M.ok (a7+one1.1)).bind fun a8=>(M.ok ()).bind fun w9=>M.ok (a8,w9)).bind fun w10=>M.ok (a6,w10)).bind fun z11=>M.ok [((one1.1/(4:Int))%(10:Int)),((one1.1/(4:Int))%(4:Int)),z11.1,z11.2.1]).bind fun a12=>bQ a12 (one1.1%(4:Int))).bind fun v13=>M.ok ((v13,one1.2))
theorem kv{R:List Ob→Prop}{S:(List Int)→List Ob}{n:Nat}(hr:∀ d,(S d)[n]? =some ((oL D.int) d))(hw:∀ d d',(S d).set n ((oL D.int) d')=S d'){aK:List Int}{aG:List Int}:cE R cX [.d ((eL D.int) aK),.r n] (S aG) (fg aK aG) (fun v=>(.val (.d (D.int v.1)),S v.2)):=(dE (aI (fun one1=>[some (.v (.d ((eL D.int) aK))),some (.v (.r n)),some (.v (.d (D.int one1.1))),none]) (cU (bE (R':=R) (post:=(pE D.int _ S)) (ah (sv (fW (a:=aG) rfl)) aq) (.d .nil) rfl (fJ (aG:=aG) hr hw) (fun _=>rfl))) (fun _=>rfl) fun one1=>(aI (fun qg=>[some (.v (.d ((eL D.int) aK))),some (.v (.r n)),some (.v (.d (D.int one1.1))),some (.own ((oL D.int) qg))]) (kW (aB (sn (fO (sv (ax (a:=aK) (e:=(eL D.int)) rfl)) pn (pe (sv (cD D.int (63:Int)))) (NX eI)) (fun v=>bN _ v)) (sn (Ev.bH (post2:=(pN (oL D.int) _ _)) (bz (l:=fun _=>([one1.1]:List Int)) (e:=D.int) (ah (sv (ax (a:=one1.1) (e:=D.int) rfl)) aq) (fun _=>(.d .nil)) (fun _=>rfl) (fun _=>rfl)) rfl) (fun v=>bN _ v)) (add_l eI eI))) (fun _=>rfl) fun qg=>(aU (iH (φ:=fun v13=>(v13,one1.2)) (bO (sn (Ev.map (fun(z11:Int×(Int×Unit))=>[((one1.1/(4:Int))%(10:Int)),((one1.1/(4:Int))%(4:Int)),z11.1,z11.2.1]) (pN (oL D.int) _ _) (bz (l:=fun z11=>([((one1.1/(4:Int))%(10:Int)),((one1.1/(4:Int))%(4:Int)),z11.1,z11.2.1]:List Int)) (e:=D.int) (ah (sv (aB (sv (aB (sv (ax (a:=one1.1) (e:=D.int) rfl)) (sv (cD D.int (4:Int))) (km (a:=one1.1) (b:=(4:Int)) (rG (by decide) (by decide))))) (sv (cD D.int (10:Int))) (gA (a:=(one1.1/(4:Int))) (b:=(10:Int)) (by decide)))) (ah (sv (aB (sv (aB (sv (ax (a:=one1.1) (e:=D.int) rfl)) (sv (cD D.int (4:Int))) (km (a:=one1.1) (b:=(4:Int)) (rG (by decide) (by decide))))) (sv (cD D.int (4:Int))) (gA (a:=(one1.1/(4:Int))) (b:=(4:Int)) (by decide)))) (aQ (sv (pP (sv (jv (dc (dg (a:=qg) rfl)) (sv (aB (sv (aB (sv (ax (a:=one1.1) (e:=D.int) rfl)) (sv (cD D.int (4:Int))) (km (a:=one1.1) (b:=(4:Int)) (rG (by decide) (by decide))))) (sv (cY (ah (dc (dg (a:=qg) rfl)) aq) (oG (cb rfl)))) tM)) fun a3=>(gY (cb rfl)))) (fun a4=>(sv (aB (sv (cD D.int (10:Int))) (sv (cD D.int (60:Int))) Lo))) fun a4 a5=>tM)) fun a6=>(aQ (sv (bO (sv (aB (sv (cD D.int (10:Int))) (sv (cD D.int (59:Int))) Lo)) (fun a7=>(sv (ax (a:=one1.1) (e:=D.int) rfl))) fun a7=>dI)) fun a8=>aq)))) (fun _=>(.d (.d (.d (.d .nil))))) (fun _=>rfl) (fun _=>rfl)) fun _=>rfl) (fun v=>bN _ v)) (fun a12=>(sv (aB (sv (ax (a:=one1.1) (e:=D.int) rfl)) (sv (cD D.int (4:Int))) (gA (a:=one1.1) (b:=(4:Int)) (by decide))))) fun a12=>(gY eI)) fun _=>rfl)))))
def mV(aK:List Int)(aG:List Int):M (D×List Int):=(nox (bT aG)).bind fun aO=>(bQ [(sS "put"),(sS "change"),(sS "take"),(sS "stamp"),(sS "drop"),(sS "seal"),(sS "pour"),(sS "thin"),(sS "pack"),(sS "put"),(sS "change")] (aO.1%(11:Int))).bind fun ej=>(if(eqB ej (sS "put"))=true then(((((nox (gh aO.2)).bind fun v=>M.ok ((eL (aP D.str D.str)) v.1,v.2)).bind fun a3=>(M.ok ()).bind fun w4=>M.ok (a3,w4)).bind fun z5=>M.ok ((D.tup [(D.str ej),z5.1.1]),z5.1.2)).bind fun v6=>M.ok (v6))else((if(eqB ej (sS "change"))=true then(((((nox (fg aK aO.2)).bind fun v=>M.ok (D.int v.1,v.2)).bind fun a7=>(((nox (gh a7.2)).bind fun v=>M.ok ((eL (aP D.str D.str)) v.1,v.2)).bind fun a8=>(M.ok ()).bind fun w9=>M.ok (a8,w9)).bind fun w10=>M.ok (a7,w10)).bind fun z11=>M.ok ((D.tup [(D.str ej),z11.1.1,z11.2.1.1]),z11.2.1.2)).bind fun v12=>M.ok (v12))else((if(d8 ej [(sS "stamp"),(sS "seal"),(sS "thin")])=true then(M.ok (((D.tup [(D.str ej)]),aO.2)))else((if(eqB ej (sS "pour"))=true then(((((nox (fg aK aO.2)).bind fun v=>M.ok (D.int v.1,v.2)).bind fun a13=>(((nox (fg aK a13.2)).bind fun v=>M.ok (D.int v.1,v.2)).bind fun a14=>(M.ok ()).bind fun w15=>M.ok (a14,w15)).bind fun w16=>M.ok (a13,w16)).bind fun z17=>M.ok ((D.tup [(D.str ej),z17.1.1,z17.2.1.1]),z17.2.1.2)).bind fun v18=>M.ok (v18))else(((((nox (fg aK aO.2)).bind fun v=>M.ok (D.int v.1,v.2)).bind fun a19=>(M.ok ()).bind fun w20=>M.ok (a19,w20)).bind fun z21=>M.ok ((D.tup [(D.str ej),z21.1.1]),z21.1.2)).bind fun v22=>M.ok (v22)))))))))
theorem EX{R:List Ob→Prop}{S:(List Int)→List Ob}{n:Nat}(hr:∀ d,(S d)[n]? =some ((oL D.int) d))(hw:∀ d d',(S d).set n ((oL D.int) d')=S d'){aK:List Int}{aG:List Int}:cE R gJ [.d ((eL D.int) aK),.r n] (S aG) (mV aK aG) (fun v=>(.val (.d (eY v.1)),S v.2)):=(dE (aI (fun aO=>[some (.v (.d ((eL D.int) aK))),some (.v (.r n)),some (.v (.d (D.int aO.1))),none]) (cU (bE (R':=R) (post:=(pE D.int _ S)) (ah (sv (fW (a:=aG) rfl)) aq) (.d .nil) rfl (fJ (aG:=aG) hr hw) (fun _=>rfl))) (fun _=>rfl) fun aO=>(aI (fun ej=>[some (.v (.d ((eL D.int) aK))),some (.v (.r n)),some (.v (.d (D.int aO.1))),some (.v (.d (D.str ej)))]) (cU (aB (sn (Ev.bH (post2:=(pN (oL D.str) _ _)) (bz (l:=fun _=>([(sS "put"),(sS "change"),(sS "take"),(sS "stamp"),(sS "drop"),(sS "seal"),(sS "pour"),(sS "thin"),(sS "pack"),(sS "put"),(sS "change")]:List (List Nat))) (e:=D.str) (ah (sv (cD D.str (sS "put"))) (ah (sv (cD D.str (sS "change"))) (ah (sv (cD D.str (sS "take"))) (ah (sv (cD D.str (sS "stamp"))) (ah (sv (cD D.str (sS "drop"))) (ah (sv (cD D.str (sS "seal"))) (ah (sv (cD D.str (sS "pour"))) (ah (sv (cD D.str (sS "thin"))) (ah (sv (cD D.str (sS "pack"))) (ah (sv (cD D.str (sS "put"))) (ah (sv (cD D.str (sS "change"))) aq))))))))))) (fun _=>(.d (.d (.d (.d (.d (.d (.d (.d (.d (.d (.d .nil)))))))))))) (fun _=>rfl) (fun _=>rfl)) rfl) (fun v=>bN _ v)) (sv (aB (sv (ax (a:=aO.1) (e:=D.int) rfl)) (sv (cD D.int (11:Int))) (gA (a:=aO.1) (b:=(11:Int)) (by decide)))) (gY eI))) (fun _=>rfl) fun ej=>(eV (fy (sv (aB (sv (ax (a:=ej) (e:=D.str) rfl)) (sv (cD D.str (sS "put"))) (d0 aL aL qS (by decide))))) (aU (iH (φ:=fun v6=>v6) (Ev.map (fun(z5:(D×List Int)×Unit)=>((D.tup [(D.str ej),z5.1.1]),z5.1.2)) (pE eY _ S) (fS (ah (sv (toY (ax (a:=ej) (e:=D.str) rfl))) (aQ (Ev.map (fun v=>((eL (aP D.str D.str)) v.1,v.2)) (pE eY _ S) (sn (bE (R':=R) (post:=(Lk (oL (aP D.str D.str)) _ S)) (ah (sv (fW (a:=aO.2) rfl)) aq) (.d .nil) rfl (qJ (aG:=aO.2) hr hw) (fun _=>rfl)) (fun v=>bN _ v.1)) fun _=>rfl) fun a3=>aq)) (fun _=>(.d (.d .nil))) (fun _=>rfl) (fun _=>rfl)) fun _=>rfl) fun _=>rfl)) (eV (fy (sv (aB (sv (ax (a:=ej) (e:=D.str) rfl)) (sv (cD D.str (sS "change"))) (d0 aL aL qS (by decide))))) (aU (iH (φ:=fun v12=>v12) (Ev.map (fun(z11:(D×List Int)×((D×List Int)×Unit))=>((D.tup [(D.str ej),z11.1.1,z11.2.1.1]),z11.2.1.2)) (pE eY _ S) (fS (ah (sv (toY (ax (a:=ej) (e:=D.str) rfl))) (aQ (sv (Ev.map (fun v=>(D.int v.1,v.2)) (pE eY _ S) (bE (R':=R) (post:=(pE D.int _ S)) (ah (sv (ax (a:=aK) (e:=(eL D.int)) rfl)) (ah (sv (fW (a:=aO.2) rfl)) aq)) (.d (.d .nil)) rfl (kv (aK:=aK) (aG:=aO.2) hr hw) (fun _=>rfl)) fun _=>rfl)) fun a7=>(aQ (Ev.map (fun v=>((eL (aP D.str D.str)) v.1,v.2)) (pE eY _ S) (sn (bE (R':=R) (post:=(Lk (oL (aP D.str D.str)) _ S)) (ah (sv (fW (a:=a7.2) rfl)) aq) (.d .nil) rfl (qJ (aG:=a7.2) hr hw) (fun _=>rfl)) (fun v=>bN _ v.1)) fun _=>rfl) fun a8=>aq))) (fun _=>(.d (.d (.d .nil)))) (fun _=>rfl) (fun _=>rfl)) fun _=>rfl) fun _=>rfl)) (eV (fy (sv (aB (sv (ax (a:=ej) (e:=D.str) rfl)) (sn (Ev.bH (post2:=(pN (oL D.str) _ _)) (bz (l:=fun _=>([(sS "stamp"),(sS "seal"),(sS "thin")]:List (List Nat))) (e:=D.str) (ah (sv (cD D.str (sS "stamp"))) (ah (sv (cD D.str (sS "seal"))) (ah (sv (cD D.str (sS "thin"))) aq))) (fun _=>(.d (.d (.d .nil)))) (fun _=>rfl) (fun _=>rfl)) rfl) (fun v=>bN _ v)) (CJ aL eI qS (by decide))))) (aU (fj (Ev.bH (post2:=(pD eY _ _)) (fS (ah (sv (toY (ax (a:=ej) (e:=D.str) rfl))) aq) (fun _=>(.d .nil)) (fun _=>rfl) (fun _=>rfl)) rfl) rfl)) (eV (fy (sv (aB (sv (ax (a:=ej) (e:=D.str) rfl)) (sv (cD D.str (sS "pour"))) (d0 aL aL qS (by decide))))) (aU (iH (φ:=fun v18=>v18) (Ev.map (fun(z17:(D×List Int)×((D×List Int)×Unit))=>((D.tup [(D.str ej),z17.1.1,z17.2.1.1]),z17.2.1.2)) (pE eY _ S) (fS (ah (sv (toY (ax (a:=ej) (e:=D.str) rfl))) (aQ (sv (Ev.map (fun v=>(D.int v.1,v.2)) (pE eY _ S) (bE (R':=R) (post:=(pE D.int _ S)) (ah (sv (ax (a:=aK) (e:=(eL D.int)) rfl)) (ah (sv (fW (a:=aO.2) rfl)) aq)) (.d (.d .nil)) rfl (kv (aK:=aK) (aG:=aO.2) hr hw) (fun _=>rfl)) fun _=>rfl)) fun a13=>(aQ (sv (Ev.map (fun v=>(D.int v.1,v.2)) (pE eY _ S) (bE (R':=R) (post:=(pE D.int _ S)) (ah (sv (ax (a:=aK) (e:=(eL D.int)) rfl)) (ah (sv (fW (a:=a13.2) rfl)) aq)) (.d (.d .nil)) rfl (kv (aK:=aK) (aG:=a13.2) hr hw) (fun _=>rfl)) fun _=>rfl)) fun a14=>aq))) (fun _=>(.d (.d (.d .nil)))) (fun _=>rfl) (fun _=>rfl)) fun _=>rfl) fun _=>rfl)) (aU (iH (φ:=fun v22=>v22) (Ev.map (fun(z21:(D×List Int)×Unit)=>((D.tup [(D.str ej),z21.1.1]),z21.1.2)) (pE eY _ S) (fS (ah (sv (toY (ax (a:=ej) (e:=D.str) rfl))) (aQ (sv (Ev.map (fun v=>(D.int v.1,v.2)) (pE eY _ S) (bE (R':=R) (post:=(pE D.int _ S)) (ah (sv (ax (a:=aK) (e:=(eL D.int)) rfl)) (ah (sv (fW (a:=aO.2) rfl)) aq)) (.d (.d .nil)) rfl (kv (aK:=aK) (aG:=aO.2) hr hw) (fun _=>rfl)) fun _=>rfl)) fun a19=>aq)) (fun _=>(.d (.d .nil))) (fun _=>rfl) (fun _=>rfl)) fun _=>rfl) fun _=>rfl)))))))))
def mO(cJ:D):M ((List Nat)):=((qZ cJ (0:Int)).bind lW).bind fun tQ=>(((qV cJ (some (1:Int)) (none:Option Int)).bind mr).bind fun a2=>foldM (fun(c3:List Nat) (one4:D)=>((((M.ok one4).bind sk).bind fun b5=>if b5=true then(((br c3 (sS " ")).bind fun a45=>((((M.ok one4).bind uy).bind fun a46=>(M.ok ()).bind fun w47=>M.ok (a46,w47)).bind fun z48=>uM z48.1).bind fun a49=>br a45 a49).bind fun nA=>M.ok nA)else((((AW one4 ((eL eY) ([]:List D))).bind fun b51=>if b51=true then((br c3 (sS " none")).bind fun nD=>M.ok nD)else((((M.ok one4).bind (yL (p5 lW lW))).bind fun a69=>foldM (fun(c70:List Nat) (cS:List Nat×List Nat)=>(((br c70 (sS " ")).bind fun a72=>br a72 cS.1).bind fun a73=>br a73 (sS ":'")).bind fun j2=>(foldM (fun(c75:List Nat) (eZ:List Nat)=>((br c75 eZ).bind fun a77=>(bQ [(sS ""),(sS "'")] (if(eqB eZ (sS "'"))=true then(1:Int)else 0)).bind fun a78=>br a77 a78).bind fun jg=>M.ok jg) j2 (chars cS.2)).bind fun r80=>(br r80 (sS "'")).bind fun kr=>M.ok kr) c3 a69).bind fun r82=>M.ok r82)):M (List Nat)).bind fun j67=>M.ok j67)):M (List Nat)).bind fun j44=>M.ok j44) tQ a2).bind fun r83=>M.ok (r83)
theorem EK{R:List Ob→Prop}{σ:List Ob}{cJ:D}:cE R gI [.d (eY cJ)] σ (mO cJ) (fun v=>(.val (.d (D.str v)),σ)):=(dE (aI (fun tQ=>[some (.v (.d (eY cJ))),some (.v (.d (D.str tQ))),none,none,none,none]) (cU (FH (aB (sv (ax (a:=cJ) (e:=eY) rfl)) (sv (cD D.int (0:Int))) Oy) vN zJ)) (fun _=>rfl) fun tQ=>(kH (qz (P:=fun(c3:List Nat)=>[some (.v (.d (eY cJ))),some (.v (.d (D.str c3))),none,none,none,none]) (S:=fun(c3:List Nat)=>σ) (lA:=(fun(a2:List D)=>a2)) (c0:=fun(a2:List D)=>tQ) (mb:=(fun(c3:List Nat) (one4:D)=>((((M.ok one4).bind sk).bind fun b5=>if b5=true then(((br c3 (sS " ")).bind fun a45=>((((M.ok one4).bind uy).bind fun a46=>(M.ok ()).bind fun w47=>M.ok (a46,w47)).bind fun z48=>uM z48.1).bind fun a49=>br a45 a49).bind fun nA=>M.ok nA)else((((AW one4 ((eL eY) ([]:List D))).bind fun b51=>if b51=true then((br c3 (sS " none")).bind fun nD=>M.ok nD)else((((M.ok one4).bind (yL (p5 lW lW))).bind fun a69=>foldM (fun(c70:List Nat) (cS:List Nat×List Nat)=>(((br c70 (sS " ")).bind fun a72=>br a72 cS.1).bind fun a73=>br a73 (sS ":'")).bind fun j2=>(foldM (fun(c75:List Nat) (eZ:List Nat)=>((br c75 eZ).bind fun a77=>(bQ [(sS ""),(sS "'")] (if(eqB eZ (sS "'"))=true then(1:Int)else 0)).bind fun a78=>br a77 a78).bind fun jg=>M.ok jg) j2 (chars cS.2)).bind fun r80=>(br r80 (sS "'")).bind fun kr=>M.ok kr) c3 a69).bind fun r82=>M.ok r82)):M (List Nat)).bind fun j67=>M.ok j67)):M (List Nat)).bind fun j44=>M.ok j44)) (Fg (sv (fO (sv (ax (a:=cJ) (e:=eY) rfl)) (pe (sv (cD D.int (1:Int)))) pn N7))) (fun _=>by(repeat' (first | exact trivial | refine And.intro rfl ?_))) (fun _=>rfl) (fun c3 one4=>eS) (fun c3 one4=>(B6 (b:=fun v=>v) (Pc:=fun(j44:List Nat)=>[some (.v (.d (eY cJ))),some (.v (.d (D.str j44))),some (.v (.d (eY one4))),none,none,none]) (Sc:=fun(j44:List Nat)=>σ) (tB (b:=fun v=>v) (sv (Ng (sv (ax (a:=one4) (e:=eY) rfl))))) (fun b5=>(aI (fun nA=>[some (.v (.d (eY cJ))),some (.v (.d (D.str nA))),some (.v (.d (eY one4))),none,none,none]) (cU (pP (sv (aB (sv (ax (a:=c3) (e:=D.str) rfl)) (sv (cD D.str (sS " "))) dW)) (fun a45=>(sv (vF (aQ (sv (FH (ax (a:=one4) (e:=eY) rfl) LF O9)) fun a46=>aq) fun z48=>K5))) fun a45 a49=>dW)) (fun _=>rfl) fun nA=>(pj rfl (by(repeat' (first | exact trivial | refine And.intro rfl ?_)))))) (fun b5=>(B6 (b:=fun v=>v) (Pc:=fun(j67:List Nat)=>[some (.v (.d (eY cJ))),some (.v (.d (D.str j67))),some (.v (.d (eY one4))),none,none,none]) (Sc:=fun(j67:List Nat)=>σ) (tB (b:=fun v=>v) (sv (aB (sv (ax (a:=one4) (e:=eY) rfl)) (sn (Ev.bH (post2:=(pN (oL eY) _ _)) (bz (l:=fun _=>([]:List D)) (e:=eY) aq (fun _=>.nil) (fun _=>rfl) (fun _=>rfl)) rfl) (fun v=>bN _ v)) (SH aL aL)))) (fun b51=>(aI (fun nD=>[some (.v (.d (eY cJ))),some (.v (.d (D.str nD))),some (.v (.d (eY one4))),none,none,none]) (cU (aB (sv (ax (a:=c3) (e:=D.str) rfl)) (sv (cD D.str (sS " none"))) dW)) (fun _=>rfl) fun nD=>(pj rfl (by(repeat' (first | exact trivial | refine And.intro rfl ?_)))))) (fun b51=>(kH (qz (P:=fun(c70:List Nat)=>[some (.v (.d (eY cJ))),some (.v (.d (D.str c70))),some (.v (.d (eY one4))),none,none,none]) (S:=fun(c70:List Nat)=>σ) (lA:=(fun(a69:List (List Nat×List Nat))=>a69)) (c0:=fun(a69:List (List Nat×List Nat))=>c3) (mb:=(fun(c70:List Nat) (cS:List Nat×List Nat)=>(((br c70 (sS " ")).bind fun a72=>br a72 cS.1).bind fun a73=>br a73 (sS ":'")).bind fun j2=>(foldM (fun(c75:List Nat) (eZ:List Nat)=>((br c75 eZ).bind fun a77=>(bQ [(sS ""),(sS "'")] (if(eqB eZ (sS "'"))=true then(1:Int)else 0)).bind fun a78=>br a77 a78).bind fun jg=>M.ok jg) j2 (chars cS.2)).bind fun r80=>(br r80 (sS "'")).bind fun kr=>M.ok kr)) (Jr (sv (FH (ax (a:=one4) (e:=eY) rfl) (Lm (IA vN vN)) (P0 (KU zJ zJ))))) (fun _=>by(repeat' (first | exact trivial | refine And.intro rfl ?_))) (fun _=>rfl) (fun c70 cS=>(zr rfl rfl (jD eS (jD eS vL)))) (fun c70 cS=>(aI (fun j2=>[some (.v (.d (eY cJ))),some (.v (.d (D.str j2))),some (.v (.d (eY one4))),some (.v (.d (D.str cS.1))),some (.v (.d (D.str cS.2))),none]) (cU (bO (sv (bO (sv (aB (sv (ax (a:=c70) (e:=D.str) rfl)) (sv (cD D.str (sS " "))) dW)) (fun a72=>(sv (ax (a:=cS.1) (e:=D.str) rfl))) fun a72=>dW)) (fun a73=>(sv (cD D.str (sS ":'")))) fun a73=>dW)) (fun _=>rfl) fun j2=>(kH (Em (P:=fun(c75:List Nat)=>[some (.v (.d (eY cJ))),some (.v (.d (D.str c75))),some (.v (.d (eY one4))),some (.v (.d (D.str cS.1))),some (.v (.d (D.str cS.2))),none]) (S:=fun(c75:List Nat)=>σ) (c0:=j2) (mb:=(fun(c75:List Nat) (eZ:List Nat)=>((br c75 eZ).bind fun a77=>(bQ [(sS ""),(sS "'")] (if(eqB eZ (sS "'"))=true then(1:Int)else 0)).bind fun a78=>br a77 a78).bind fun jg=>M.ok jg)) (xJ (sv (ax (a:=cS.2) (e:=D.str) rfl))) (by(repeat' (first | exact trivial | refine And.intro rfl ?_))) rfl (fun c75 eZ=>eS) (fun c75 eZ=>(aI (fun jg=>[some (.v (.d (eY cJ))),some (.v (.d (D.str jg))),some (.v (.d (eY one4))),some (.v (.d (D.str cS.1))),some (.v (.d (D.str cS.2))),some (.v (.d (D.str eZ)))]) (cU (pP (sv (aB (sv (ax (a:=c75) (e:=D.str) rfl)) (sv (ax (a:=eZ) (e:=D.str) rfl)) dW)) (fun a77=>(sv (aB (sn (Ev.bH (post2:=(pN (oL D.str) _ _)) (bz (l:=fun _=>([(sS ""),(sS "'")]:List (List Nat))) (e:=D.str) (ah (sv (cD D.str (sS ""))) (ah (sv (cD D.str (sS "'"))) aq)) (fun _=>(.d (.d .nil))) (fun _=>rfl) (fun _=>rfl)) rfl) (fun v=>bN _ v)) (sv (cY (ah (sv (aB (sv (ax (a:=eZ) (e:=D.str) rfl)) (sv (cD D.str (sS "'"))) (d0 aL aL qS (by decide)))) aq) Cg)) (gY eI)))) fun a77 a78=>dW)) (fun _=>rfl) fun jg=>(jK rfl (by(repeat' (first | exact trivial | refine And.intro rfl ?_))))))) fun r80=>(aI (fun kr=>[some (.v (.d (eY cJ))),some (.v (.d (D.str kr))),some (.v (.d (eY one4))),some (.v (.d (D.str cS.1))),some (.v (.d (D.str cS.2))),none]) (cU (aB (sv (ax (a:=r80) (e:=D.str) rfl)) (sv (cD D.str (sS "'"))) dW)) (fun _=>rfl) fun kr=>(jK rfl (by(repeat' (first | exact trivial | refine And.intro rfl ?_))))))))) fun r82=>(pj rfl (by(repeat' (first | exact trivial | refine And.intro rfl ?_)))))) fun j67=>(pj rfl (by(repeat' (first | exact trivial | refine And.intro rfl ?_)))))) fun j44=>(jK rfl (by(repeat' (first | exact trivial | refine And.intro rfl ?_))))))) fun r83=>(aU (fj (ax (a:=r83) (e:=D.str) rfl) rfl)))))
def iT(sE:List Nat)(aE:List Nat):M ((List Nat)):=(((br sE (sS ":'")).bind fun a1=>(B1 aE (sS "'") (sS "''")).bind fun a2=>br a1 a2).bind fun a3=>br a3 (sS "'")).bind fun v4=>M.ok (v4)
theorem D8{R:List Ob→Prop}{σ:List Ob}{sE:List Nat}{aE:List Nat}:cE R jQ [.d (D.str sE),.d (D.str aE)] σ (iT sE aE) (fun v=>(.val (.d (D.str v)),σ)):=(dE (aU (iH (φ:=fun v4=>v4) (bO (sv (pP (sv (aB (sv (ax (a:=sE) (e:=D.str) rfl)) (sv (cD D.str (sS ":'"))) dW)) (fun a1=>(sv (Qr (i:=1) rfl))) fun a1 a2=>dW)) (fun a3=>(sv (cD D.str (sS "'")))) fun a3=>dW) fun _=>rfl)))
def ib(bV:List (List Nat×List Nat)):M ((List Nat)):=(if(eqB (bV.length:Int) (0:Int))=true then(M.ok ((sS "none")))else((((fM (fun(bR:List Nat×List Nat)=>M.ok true) (fun(bR:List Nat×List Nat)=>nox (iT bR.1 bR.2)) bV).bind fun a2=>(M.ok ()).bind fun w3=>M.ok (a2,w3)).bind fun z4=>joinM (sS " ") z4.1).bind fun v5=>M.ok (v5)))
theorem yE{R:List Ob→Prop}{σ:List Ob}{bV:List (List Nat×List Nat)}:cE R il [.d ((eL (aP D.str D.str)) bV)] σ (ib bV) (fun v=>(.val (.d (D.str v)),σ)):=(dE (eV (fy (sv (aB (sv (cY (ah (sv (ax (a:=bV) (e:=(eL (aP D.str D.str))) rfl)) aq) (oG eI))) (sv (cD D.int (0:Int))) (d0 aL aL qI (by decide))))) (aU (fj (cD D.str (sS "none")) rfl)) (aU (iH (φ:=fun v5=>v5) (ox (sv (cD D.str (sS " "))) (fun _ _=>rfl) (aQ (sn (Cj (q:=[some (.v (.d ((eL (aP D.str D.str)) bV))),none,none]) (p2:=fun(bR:List Nat×List Nat)=>[some (.v (.d ((eL (aP D.str D.str)) bV))),some (.v (.d (D.str bR.1))),some (.v (.d (D.str bR.2)))]) (p3:=fun(bR:List Nat×List Nat)=>[some (.v (.d ((eL (aP D.str D.str)) bV))),some (.v (.d (D.str bR.1))),some (.v (.d (D.str bR.2)))]) (mt:=(fun(bR:List Nat×List Nat)=>M.ok true)) (me:=(fun(bR:List Nat×List Nat)=>nox (iT bR.1 bR.2))) (e:=D.str) (Jr (sv (ax (a:=bV) (e:=(eL (aP D.str D.str))) rfl))) rfl (fun(bR:List Nat×List Nat)=>⟨(zr rfl rfl (jD eS (jD eS vL))),rL,(ui (bE (R':=R) (post:=(pD D.str _ _)) (ah (sv (ax (a:=bR.1) (e:=D.str) rfl)) (ah (sv (ax (a:=bR.2) (e:=D.str) rfl)) aq)) (.d (.d .nil)) rfl (D8 (sE:=bR.1) (aE:=bR.2)) (fun _=>rfl)))⟩) (fun _=>by(repeat' (first | exact trivial | refine And.intro rfl ?_))) (fun _=>by(repeat' (first | exact trivial | refine And.intro rfl ?_)))) (fun v=>bN _ v)) fun a2=>aq) fun z4=>(yM eI)) fun _=>rfl))))
def mI(cJ:D):M ((List Nat)):=((((qZ cJ (0:Int)).bind lW).bind fun a1=>(M.ok ()).bind fun w2=>M.ok (a1,w2)).bind fun z3=>M.ok [z3.1]).bind fun vC=>(((qV cJ (some (1:Int)) (none:Option Int)).bind mr).bind fun a5=>foldM (fun(c6:List (List Nat)) (one7:D)=>((((M.ok one7).bind k9).bind fun b8=>if b8=true then(((((((M.ok one7).bind (yL (p5 lW lW))).bind fun a24=>(M.ok ()).bind fun w25=>M.ok (a24,w25)).bind fun z26=>nox (ib z26.1)).bind fun a27=>(M.ok ()).bind fun w28=>M.ok (a27,w28)).bind fun z29=>iy c6 z29.1).bind fun oZ=>M.ok oZ)else(((((((M.ok one7).bind uy).bind fun a31=>(M.ok ()).bind fun w32=>M.ok (a31,w32)).bind fun z33=>uM z33.1).bind fun a34=>(M.ok ()).bind fun w35=>M.ok (a34,w35)).bind fun z36=>iy c6 z36.1).bind fun o3=>M.ok o3)):M (List (List Nat))).bind fun j23=>M.ok j23) vC a5).bind fun r38=>(joinM (sS " ") r38).bind fun v39=>M.ok (v39)
theorem EY{R:List Ob→Prop}{σ:List Ob}{cJ:D}:cE R kg [.d (eY cJ)] σ (mI cJ) (fun v=>(.val (.d (D.str v)),σ)):=(dE (aI (fun vC=>[some (.v (.d (eY cJ))),some (.own ((oL D.str) vC)),none]) (kW (Ev.map (fun(z3:List Nat×Unit)=>[z3.1]) (pN (oL D.str) _ _) (bz (l:=fun z3=>([z3.1]:List (List Nat))) (e:=D.str) (aQ (sv (FH (aB (sv (ax (a:=cJ) (e:=eY) rfl)) (sv (cD D.int (0:Int))) Oy) vN zJ)) fun a1=>aq) (fun _=>(.d .nil)) (fun _=>rfl) (fun _=>rfl)) fun _=>rfl)) (fun _=>rfl) fun vC=>(kH (qz (P:=fun(c6:List (List Nat))=>[some (.v (.d (eY cJ))),some (.own ((oL D.str) c6)),none]) (S:=fun(c6:List (List Nat))=>σ) (lA:=(fun(a5:List D)=>a5)) (c0:=fun(a5:List D)=>vC) (mb:=(fun(c6:List (List Nat)) (one7:D)=>((((M.ok one7).bind k9).bind fun b8=>if b8=true then(((((((M.ok one7).bind (yL (p5 lW lW))).bind fun a24=>(M.ok ()).bind fun w25=>M.ok (a24,w25)).bind fun z26=>nox (ib z26.1)).bind fun a27=>(M.ok ()).bind fun w28=>M.ok (a27,w28)).bind fun z29=>iy c6 z29.1).bind fun oZ=>M.ok oZ)else(((((((M.ok one7).bind uy).bind fun a31=>(M.ok ()).bind fun w32=>M.ok (a31,w32)).bind fun z33=>uM z33.1).bind fun a34=>(M.ok ()).bind fun w35=>M.ok (a34,w35)).bind fun z36=>iy c6 z36.1).bind fun o3=>M.ok o3)):M (List (List Nat))).bind fun j23=>M.ok j23)) (Fg (sv (fO (sv (ax (a:=cJ) (e:=eY) rfl)) (pe (sv (cD D.int (1:Int)))) pn N7))) (fun _=>by(repeat' (first | exact trivial | refine And.intro rfl ?_))) (fun _=>rfl) (fun c6 one7=>eS) (fun c6 one7=>(B6 (b:=fun v=>v) (Pc:=fun(j23:List (List Nat))=>[some (.v (.d (eY cJ))),some (.own ((oL D.str) j23)),some (.v (.d (eY one7)))]) (Sc:=fun(j23:List (List Nat))=>σ) (tB (b:=fun v=>v) (sv (Od (sv (ax (a:=one7) (e:=eY) rfl))))) (fun b8=>(aI (fun oZ=>[some (.v (.d (eY cJ))),some (.own ((oL D.str) oZ)),some (.v (.d (eY one7)))]) (kZ (ox (dc (dg (a:=c6) rfl)) (fun _ hf=>vA (cb rfl) hf) (aQ (sv (jo (R':=R) (post:=(pD D.str _ _)) (aQ (sv (FH (ax (a:=one7) (e:=eY) rfl) (Lm (IA vN vN)) (P0 (KU zJ zJ)))) fun a24=>aq) (fun _=>(.d .nil)) (fun _=>rfl) (fun z26=>(yE (bV:=z26.1))) (fun _ _=>rfl))) fun a27=>aq) fun z29=>(sR rfl))) (fun _=>rfl) fun oZ=>(pj rfl (by(repeat' (first | exact trivial | refine And.intro rfl ?_)))))) (fun b8=>(aI (fun o3=>[some (.v (.d (eY cJ))),some (.own ((oL D.str) o3)),some (.v (.d (eY one7)))]) (kZ (ox (dc (dg (a:=c6) rfl)) (fun _ hf=>vA (cb rfl) hf) (aQ (sv (vF (aQ (sv (FH (ax (a:=one7) (e:=eY) rfl) LF O9)) fun a31=>aq) fun z33=>K5)) fun a34=>aq) fun z36=>(sR rfl))) (fun _=>rfl) fun o3=>(pj rfl (by(repeat' (first | exact trivial | refine And.intro rfl ?_)))))) fun j23=>(jK rfl (by(repeat' (first | exact trivial | refine And.intro rfl ?_))))))) fun r38=>(aU (iH (φ:=fun v39=>v39) (mZ (sv (cD D.str (sS " "))) (fun _ _=>rfl) (ah (dc (dg (a:=r38) rfl)) aq) (yM (cb rfl))) fun _=>rfl)))))
def kN(aE:List Nat):M Bool:=(andM ((M.ok (0:Int)).bind fun a1=>(gx aE).bind fun a2=>if decide (a1<a2)=true then(M.ok (12:Int)).bind fun a3=>M.ok (decide (a2≤a3))else M.ok false) (((fM (fun(lM:List Nat)=>M.ok true) (fun(lM:List Nat)=>M.ok (subIn lM (sS "abcdefghijklmnopqrstuvwxyz"))) (chars aE)).bind fun a5=>(M.ok ()).bind fun w6=>M.ok (a5,w6)).bind fun z7=>M.ok (z7.1.all id))).bind fun v8=>M.ok (v8)
theorem IM{R:List Ob→Prop}{σ:List Ob}{aE:List Nat}:cE R mY [.d (D.str aE)] σ (kN aE) (fun v=>(.val (.d (D.bl v)),σ)):=(dE (aU (iH (φ:=fun v8=>v8) (EC (sv (RD (k1:=fun a b=>decide (a<b)) (k2:=fun a b=>decide (a≤b)) (sv (cD D.int (0:Int))) (fun _=>(sv (cY (ah (sv (ax (a:=aE) (e:=D.str) rfl)) aq) kS))) (fun _ _=>(sv (cD D.int (12:Int)))) (fun _ _=>ur) (fun _ _=>GL))) (zG (sv (vF (aQ (sn (Cj (q:=[some (.v (.d (D.str aE))),none]) (p2:=fun(lM:List Nat)=>[some (.v (.d (D.str aE))),some (.v (.d (D.str lM)))]) (p3:=fun(lM:List Nat)=>[some (.v (.d (D.str aE))),some (.v (.d (D.str lM)))]) (mt:=(fun(lM:List Nat)=>M.ok true)) (me:=(fun(lM:List Nat)=>M.ok (subIn lM (sS "abcdefghijklmnopqrstuvwxyz")))) (e:=D.bl) (xJ (sv (ax (a:=aE) (e:=D.str) rfl))) rfl (fun(lM:List Nat)=>⟨eS,rL,(ui (aB (sv (ax (a:=lM) (e:=D.str) rfl)) (sv (cD D.str (sS "abcdefghijklmnopqrstuvwxyz"))) JJ))⟩) (fun _=>by(repeat' (first | exact trivial | refine And.intro rfl ?_))) (fun _=>by(repeat' (first | exact trivial | refine And.intro rfl ?_)))) (fun v=>bN _ v)) fun a5=>aq) fun z7=>(Qz eI))))) fun _=>rfl)))
def fV(bV:List (List Nat×List Nat)):M Unit:=(foldM (fun(c1:List Nat) (cZ:Int×(List Nat×List Nat))=>(orM ((nox (kN cZ.2.1)).bind fun v=>M.ok (!v)) (M.ok (!eG c1 cZ.2.1))).bind fun b3=>if b3=true then((M.ok cZ.1).bind fun a4=>M.exc ⟨"NoField",some (D.int a4)⟩)else(M.ok cZ.2.1)) (sS "") (B9 bV)).bind fun r5=>M.ok ()
theorem u6{R:List Ob→Prop}{σ:List Ob}(hR:R σ){bV:List (List Nat×List Nat)}:cE R fU [.d ((eL (aP D.str D.str)) bV)] σ (fV bV) (fun v=>(.val (.d (eN v)),σ)):=(JL (P:=fun _=>[none,none,none,none,none]) (fx [some (.v (.d ((eL (aP D.str D.str)) bV))),some (.v (.d (D.str (sS "")))),none,none,none] (cU (cD D.str (sS ""))) rfl (kH (Em (P:=fun(c1:List Nat)=>[some (.v (.d ((eL (aP D.str D.str)) bV))),some (.v (.d (D.str c1))),none,none,none]) (S:=fun(c1:List Nat)=>σ) (c0:=(sS "")) (mb:=(fun(c1:List Nat) (cZ:Int×(List Nat×List Nat))=>(orM ((nox (kN cZ.2.1)).bind fun v=>M.ok (!v)) (M.ok (!eG c1 cZ.2.1))).bind fun b3=>if b3=true then((M.ok cZ.1).bind fun a4=>M.exc ⟨"NoField",some (D.int a4)⟩)else(M.ok cZ.2.1))) (O4 (sv (ax (a:=bV) (e:=(eL (aP D.str D.str))) rfl))) (by(repeat' (first | exact trivial | refine And.intro rfl ?_))) rfl (fun c1 cZ=>(zr rfl rfl (jD eS (jD (zr rfl rfl (jD eS (jD eS vL))) vL)))) (fun c1 cZ=>(jO (b:=fun v=>v) (zM (PJ (tB (b:=fun v=>v) (sv (bE (R':=R) (post:=(pD D.bl _ _)) (ah (sv (ax (a:=cZ.2.1) (e:=D.str) rfl)) aq) (.d .nil) rfl (IM (aE:=cZ.2.1)) (fun _=>rfl))))) (yt (fy (sv (aB (sv (ax (a:=cZ.2.1) (e:=D.str) rfl)) (sv (ax (a:=c1) (e:=D.str) rfl)) Nl))))) (fun b3=>(aU (Jp (sv (ax (a:=cZ.1) (e:=D.int) rfl)) (fun _=>hR)))) (fun b3=>(fx [some (.v (.d ((eL (aP D.str D.str)) bV))),some (.v (.d (D.str cZ.2.1))),some (.v (.d (D.int cZ.1))),some (.v (.d (D.str cZ.2.1))),some (.v (.d (D.str cZ.2.2)))] (cU (ax (a:=cZ.2.1) (e:=D.str) rfl)) rfl (jK rfl (by(repeat' (first | exact trivial | refine And.intro rfl ?_))))))))) fun r5=>(pj (p':=[none,none,none,none,none]) rfl (by(repeat' (first | exact trivial | refine And.intro rfl ?_)))))) (fun _=>rfl))
def gU(kB:Bool):M Unit:=(if(!kB)=true then(M.exc ⟨"NoLine",none⟩)else(M.ok ()))
theorem pA{R:List Ob→Prop}{σ:List Ob}(hR:R σ){kB:Bool}:cE R fw [.d (D.bl kB)] σ (gU kB) (fun v=>(.val (.d (eN v)),σ)):=(JL (P:=fun _=>[none]) (eV (IV (fy (sv (ax (a:=kB) (e:=D.bl) rfl)))) (aU (Ms hR)) (pj (p':=[none]) rfl (by(repeat' (first | exact trivial | refine And.intro rfl ?_))))) (fun _=>rfl))
def cy(aE:List Nat):M Int:=(((andM ((M.ok (0:Int)).bind fun a1=>(gx aE).bind fun a2=>if decide (a1<a2)=true then(M.ok (60:Int)).bind fun a3=>M.ok (decide (a2≤a3))else M.ok false) (orM ((fu aE (0:Int)).bind fun a4=>M.ok (!(eqB a4 (sS "0")))) (M.ok (eqB aE (sS "0"))))).bind fun a5=>(M.ok ()).bind fun w6=>M.ok (a5,w6)).bind fun z7=>gU z7.1).bind fun u8=>(foldM (fun(c9:Unit) (nE:List Nat)=>(gU (subIn nE (sS "0123456789"))).bind fun u11=>M.ok ()) () (chars aE)).bind fun r12=>(xc aE).bind fun v13=>M.ok (v13)
theorem wM{R:List Ob→Prop}{σ:List Ob}(hR:R σ){aE:List Nat}:cE R iz [.d (D.str aE)] σ (cy aE) (fun v=>(.val (.d (D.int v)),σ)):=(dE (aI (fun u8=>[some (.v (.d (D.str aE))),none]) (kZ (sY (post:=(pD eN _ _)) (aQ (sv (EC (sv (RD (k1:=fun a b=>decide (a<b)) (k2:=fun a b=>decide (a≤b)) (sv (cD D.int (0:Int))) (fun _=>(sv (cY (ah (sv (ax (a:=aE) (e:=D.str) rfl)) aq) kS))) (fun _ _=>(sv (cD D.int (60:Int)))) (fun _ _=>ur) (fun _ _=>GL))) (zG (sv (QV (sv (bO (sv (aB (sv (ax (a:=aE) (e:=D.str) rfl)) (sv (cD D.int (0:Int))) rB)) (fun a4=>(sv (cD D.str (sS "0")))) fun a4=>(nX aL aL qS (by decide)))) (NU (sv (aB (sv (ax (a:=aE) (e:=D.str) rfl)) (sv (cD D.str (sS "0"))) (d0 aL aL qS (by decide)))))))))) fun a5=>aq) (fun _=>(.d .nil)) (fun _=>rfl) (fun z7=>(pA (kB:=z7.1) hR)) (fun _ _=>rfl))) (fun _=>rfl) fun u8=>(kH (Em (P:=fun(c9:Unit)=>[some (.v (.d (D.str aE))),none]) (S:=fun(c9:Unit)=>σ) (c0:=()) (mb:=(fun(c9:Unit) (nE:List Nat)=>(gU (subIn nE (sS "0123456789"))).bind fun u11=>M.ok ())) (xJ (sv (ax (a:=aE) (e:=D.str) rfl))) (by(repeat' (first | exact trivial | refine And.intro rfl ?_))) rfl (fun c9 nE=>eS) (fun c9 nE=>(aI (fun u11=>[some (.v (.d (D.str aE))),some (.v (.d (D.str nE)))]) (kZ (jR (post:=(pD eN _ _)) (ah (sv (aB (sv (ax (a:=nE) (e:=D.str) rfl)) (sv (cD D.str (sS "0123456789"))) JJ)) aq) (.d .nil) rfl (pA (kB:=(subIn nE (sS "0123456789"))) hR) (fun _=>rfl))) (fun _=>rfl) fun u11=>(jK rfl (by(repeat' (first | exact trivial | refine And.intro rfl ?_))))))) fun r12=>(aU (iH (φ:=fun v13=>v13) (cY (ah (sv (ax (a:=aE) (e:=D.str) rfl)) aq) LA) fun _=>rfl)))))
end K34
namespace K34
open PySem L2 PyProof.Rows Vw
abbrev hI:List Nat×Int→Ob:=fun a=>.ins "FieldReader" [("line",.d (.str a.1)),("at",.d (.int a.2))]
def aC(aX:List Nat×Int)(cx:Int):M ((List Nat)):=(gR aX.1 (some aX.2) (some (aX.2+cx))).bind fun v1=>M.ok (v1)
theorem dH{R:List Ob→Prop}{σ:List Ob}{n:Nat}{aX:List Nat×Int}{cx:Int}(hk:σ[n]? =some (hI aX)):cE R cn [.r n,.d (D.int cx)] σ (aC aX cx) (fun v=>(.val (.d (D.str v)),σ)):=(dE (aU (iH (φ:=fun v1=>v1) (fO (sv (jN (i:=0) (a:=aX.1) (e:=fun v=>.d (D.str v)) rfl hk rfl rfl)) (pe (sv (jN (i:=0) (a:=aX.2) (e:=fun v=>.d (D.int v)) rfl hk rfl rfl))) (pe (sv (aB (sv (jN (i:=0) (a:=aX.2) (e:=fun v=>.d (D.int v)) rfl hk rfl rfl)) (sv (ax (a:=cx) (e:=D.int) rfl)) dI))) jx) fun _=>rfl)))
def aT(aX:List Nat×Int)(g9:List Nat):M (Unit×(List Nat×Int)):=((((((gx g9).bind fun a1=>(M.ok ()).bind fun w2=>M.ok (a1,w2)).bind fun z3=>nox (aC aX z3.1)).bind fun a4=>M.ok (eqB a4 g9)).bind fun a5=>(M.ok ()).bind fun w6=>M.ok (a5,w6)).bind fun z7=>gU z7.1).bind fun u8=>((gx g9).bind fun a9=>M.ok (aX.1,(aX.2+a9))).bind fun d10=>M.ok ((),d10)
theorem ic{R:List Ob→Prop}{S:(List Nat×Int)→List Ob}{n:Nat}(hr:∀ d,(S d)[n]? =some (hI d))(hw:∀ d d',(S d).set n (hI d')=S d')(hR:∀ d,R (S d)){aX:List Nat×Int}{g9:List Nat}:cE R eB [.r n,.d (D.str g9)] (S aX) (aT aX g9) (fun v=>(.val (.d (eN v.1)),S v.2)):=(JL (P:=fun _=>[none,none]) (aI (fun u8=>[some (.v (.r n)),some (.v (.d (D.str g9)))]) (kZ (sY (post:=(pD eN _ _)) (aQ (sv (bO (sv (MY (R':=R) (post:=(pD D.str _ _)) (sv (fW (a:=aX) rfl)) (iw (hr _) rfl) (aQ (sv (cY (ah (sv (ax (a:=g9) (e:=D.str) rfl)) aq) kS)) fun a1=>aq) (fun _=>(.d .nil)) (fun _=>rfl) (fun z3=>(dH (aX:=aX) (cx:=z3.1) (hr _) )) (fun _ _=>rfl))) (fun a4=>(sv (ax (a:=g9) (e:=D.str) rfl))) fun a4=>(d0 aL aL qS (by decide)))) fun a5=>aq) (fun _=>(.d .nil)) (fun _=>rfl) (fun z7=>(pA (kB:=z7.1) (hR _))) (fun _ _=>rfl))) (fun _=>rfl) fun u8=>(aI (fun d10=>[some (.v (.r n)),some (.v (.d (D.str g9)))]) (Cn (φ:=fun a9=>(aX.1,(aX.2+a9))) (S:=S) (a:=aX.2) rfl rfl (hr _) rfl rfl (sv (cY (ah (sv (ax (a:=g9) (e:=D.str) rfl)) aq) kS)) (fun a9=>hw _ (aX.1,(aX.2+a9)))) (fun _=>rfl) fun d10=>(pj (p':=[none,none]) rfl (by(repeat' (first | exact trivial | refine And.intro rfl ?_)))))) (fun _=>rfl))
def cP(aX:List Nat×Int):M (List Nat×(List Nat×Int)):=(qQ (fun(c1:List Nat×Int)=>andM ((gx c1.1).bind fun a2=>M.ok (decide (c1.2<a2))) ((fu c1.1 c1.2).bind fun a3=>M.ok (subIn a3 (sS "abcdefghijklmnopqrstuvwxyz")))) (fun(c1:List Nat×Int)=>((M.ok (1:Int)).bind fun a4=>M.ok (c1.1,(c1.2+a4))).bind fun d5=>M.ok d5) ef aX).bind fun r6=>(gR r6.1 (some aX.2) (some r6.2)).bind fun v7=>M.ok ((v7,r6))
theorem pk{R:List Ob→Prop}{S:(List Nat×Int)→List Ob}{n:Nat}(hr:∀ d,(S d)[n]? =some (hI d))(hw:∀ d d',(S d).set n (hI d')=S d'){aX:List Nat×Int}:cE R gO [.r n] (S aX) (cP aX) (fun v=>(.val (.d (D.str v.1)),S v.2)):=(dE (fx [some (.v (.r n)),some (.v (.d (D.int aX.2)))] (cU (jN (i:=0) (a:=aX.2) (e:=fun v=>.d (D.int v)) rfl (hr _) rfl rfl)) rfl (kH (JA (P:=fun(c1:List Nat×Int)=>[some (.v (.r n)),some (.v (.d (D.int aX.2)))]) (S:=fun(c1:List Nat×Int)=>S c1) (c0:=aX) (mt:=(fun(c1:List Nat×Int)=>andM ((gx c1.1).bind fun a2=>M.ok (decide (c1.2<a2))) ((fu c1.1 c1.2).bind fun a3=>M.ok (subIn a3 (sS "abcdefghijklmnopqrstuvwxyz"))))) (mb:=(fun(c1:List Nat×Int)=>((M.ok (1:Int)).bind fun a4=>M.ok (c1.1,(c1.2+a4))).bind fun d5=>M.ok d5)) (by(repeat' (first | exact trivial | refine And.intro rfl ?_))) rfl (fun c1=>(tG (tB (b:=fun v=>v) (sv (jv (sv (jN (i:=0) (a:=c1.2) (e:=fun v=>.d (D.int v)) rfl (hr _) rfl rfl)) (sv (cY (ah (sv (jN (i:=0) (a:=c1.1) (e:=fun v=>.d (D.str v)) rfl (hr _) rfl rfl)) aq) kS)) fun a2=>ur))) (o7 (tB (b:=fun v=>v) (sv (bO (sv (aB (sv (jN (i:=0) (a:=c1.1) (e:=fun v=>.d (D.str v)) rfl (hr _) rfl rfl)) (sv (jN (i:=0) (a:=c1.2) (e:=fun v=>.d (D.int v)) rfl (hr _) rfl rfl)) rB)) (fun a3=>(sv (cD D.str (sS "abcdefghijklmnopqrstuvwxyz")))) fun a3=>JJ)))))) (fun c1=>(aI (fun d5=>[some (.v (.r n)),some (.v (.d (D.int aX.2)))]) (Cn (φ:=fun a4=>(c1.1,(c1.2+a4))) (S:=S) (a:=c1.2) rfl rfl (hr _) rfl rfl (sv (cD D.int (1:Int))) (fun a4=>hw _ (c1.1,(c1.2+a4)))) (fun _=>rfl) fun d5=>(jK rfl (by(repeat' (first | exact trivial | refine And.intro rfl ?_))))))) fun r6=>(aU (iH (φ:=fun v7=>(v7,r6)) (fO (sv (jN (i:=0) (a:=r6.1) (e:=fun v=>.d (D.str v)) rfl (hr _) rfl rfl)) (pe (sv (ax (a:=aX.2) (e:=D.int) rfl))) (pe (sv (jN (i:=0) (a:=r6.2) (e:=fun v=>.d (D.int v)) rfl (hr _) rfl rfl))) jx) fun _=>rfl)))))
def cN(aX:List Nat×Int):M (List Nat×(List Nat×Int)):=(aT aX (sS "'")).bind fun u1=>(qQ (fun(c2:(List (List Nat))×(List Nat×Int))=>orM ((nox (aC c2.2 (1:Int))).bind fun a3=>M.ok (!(eqB a3 (sS "'")))) ((nox (aC c2.2 (2:Int))).bind fun a4=>M.ok (eqB a4 (sS "''")))) (fun(c2:(List (List Nat))×(List Nat×Int))=>((((nox (aC c2.2 (1:Int))).bind fun a5=>M.ok (!(eqB a5 (sS "")))).bind fun a6=>(M.ok ()).bind fun w7=>M.ok (a6,w7)).bind fun z8=>gU z8.1).bind fun u9=>(((nox (aC c2.2 (1:Int))).bind fun a10=>(M.ok ()).bind fun w11=>M.ok (a10,w11)).bind fun z12=>iy c2.1 z12.1).bind fun ka=>((((((nox (aC c2.2 (1:Int))).bind fun a14=>M.ok (eqB a14 (sS "'"))).bind fun a15=>(M.ok ()).bind fun w16=>M.ok (a15,w16)).bind fun z17=>M.ok (if z17.1=true then(1:Int)else 0)).bind fun a18=>M.ok ((1:Int)+a18)).bind fun a19=>M.ok (c2.2.1,(c2.2.2+a19))).bind fun d20=>M.ok (ka,d20)) ef (([]:List (List Nat)),u1.2)).bind fun r21=>(aT r21.2 (sS "'")).bind fun u22=>(joinM (sS "") r21.1).bind fun v23=>M.ok ((v23,u22.2))
theorem pI{R:List Ob→Prop}{S:(List Nat×Int)→List Ob}{n:Nat}(hr:∀ d,(S d)[n]? =some (hI d))(hw:∀ d d',(S d).set n (hI d')=S d')(hR:∀ d,R (S d)){aX:List Nat×Int}:cE R gT [.r n] (S aX) (cN aX) (fun v=>(.val (.d (D.str v.1)),S v.2)):=(dE (aI (fun u1=>[some (.v (.r n)),none]) (kZ (md (post:=(pE eN _ S)) (sv (fW (a:=aX) rfl)) (iw (hr _) rfl) (ah (sv (cD D.str (sS "'"))) aq) (.d .nil) rfl (ic (aX:=aX) (g9:=(sS "'")) hr hw hR) (fun _=>rfl))) (fun _=>rfl) fun u1=>(fx [some (.v (.r n)),some (.own ((oL D.str) ([]:List (List Nat))))] (kW (Ev.bH (post2:=(pN (oL D.str) _ _)) (bz (l:=fun _=>([]:List (List Nat))) (e:=D.str) aq (fun _=>.nil) (fun _=>rfl) (fun _=>rfl)) rfl)) rfl (kH (JA (P:=fun(c2:(List (List Nat))×(List Nat×Int))=>[some (.v (.r n)),some (.own ((oL D.str) c2.1))]) (S:=fun(c2:(List (List Nat))×(List Nat×Int))=>S c2.2) (c0:=(([]:List (List Nat)),u1.2)) (mt:=(fun(c2:(List (List Nat))×(List Nat×Int))=>orM ((nox (aC c2.2 (1:Int))).bind fun a3=>M.ok (!(eqB a3 (sS "'")))) ((nox (aC c2.2 (2:Int))).bind fun a4=>M.ok (eqB a4 (sS "''"))))) (mb:=(fun(c2:(List (List Nat))×(List Nat×Int))=>((((nox (aC c2.2 (1:Int))).bind fun a5=>M.ok (!(eqB a5 (sS "")))).bind fun a6=>(M.ok ()).bind fun w7=>M.ok (a6,w7)).bind fun z8=>gU z8.1).bind fun u9=>(((nox (aC c2.2 (1:Int))).bind fun a10=>(M.ok ()).bind fun w11=>M.ok (a10,w11)).bind fun z12=>iy c2.1 z12.1).bind fun ka=>((((((nox (aC c2.2 (1:Int))).bind fun a14=>M.ok (eqB a14 (sS "'"))).bind fun a15=>(M.ok ()).bind fun w16=>M.ok (a15,w16)).bind fun z17=>M.ok (if z17.1=true then(1:Int)else 0)).bind fun a18=>M.ok ((1:Int)+a18)).bind fun a19=>M.ok (c2.2.1,(c2.2.2+a19))).bind fun d20=>M.ok (ka,d20))) (by(repeat' (first | exact trivial | refine And.intro rfl ?_))) rfl (fun c2=>(zM (tB (b:=fun v=>v) (sv (bO (sv (oO (R':=R) (post:=(pD D.str _ _)) (sv (fW (a:=c2.2) rfl)) (iw (hr _) rfl) (ah (sv (cD D.int (1:Int))) aq) (.d .nil) rfl (dH (aX:=c2.2) (cx:=(1:Int)) (hr _) ) (fun _=>rfl))) (fun a3=>(sv (cD D.str (sS "'")))) fun a3=>(nX aL aL qS (by decide))))) (yt (tB (b:=fun v=>v) (sv (bO (sv (oO (R':=R) (post:=(pD D.str _ _)) (sv (fW (a:=c2.2) rfl)) (iw (hr _) rfl) (ah (sv (cD D.int (2:Int))) aq) (.d .nil) rfl (dH (aX:=c2.2) (cx:=(2:Int)) (hr _) ) (fun _=>rfl))) (fun a4=>(sv (cD D.str (sS "''")))) fun a4=>(d0 aL aL qS (by decide)))))))) (fun c2=>(aI (fun u9=>[some (.v (.r n)),some (.own ((oL D.str) c2.1))]) (kZ (sY (post:=(pD eN _ _)) (aQ (sv (bO (sv (oO (R':=R) (post:=(pD D.str _ _)) (sv (fW (a:=c2.2) rfl)) (iw (hr _) rfl) (ah (sv (cD D.int (1:Int))) aq) (.d .nil) rfl (dH (aX:=c2.2) (cx:=(1:Int)) (hr _) ) (fun _=>rfl))) (fun a5=>(sv (cD D.str (sS "")))) fun a5=>(nX aL aL qS (by decide)))) fun a6=>aq) (fun _=>(.d .nil)) (fun _=>rfl) (fun z8=>(pA (kB:=z8.1) (hR _))) (fun _ _=>rfl))) (fun _=>rfl) fun u9=>(aI (fun ka=>[some (.v (.r n)),some (.own ((oL D.str) ka))]) (kZ (ox (dc (dg (a:=c2.1) rfl)) (fun _ hf=>vA (cb rfl) hf) (aQ (sv (oO (R':=R) (post:=(pD D.str _ _)) (sv (fW (a:=c2.2) rfl)) (iw (hr _) rfl) (ah (sv (cD D.int (1:Int))) aq) (.d .nil) rfl (dH (aX:=c2.2) (cx:=(1:Int)) (hr _) ) (fun _=>rfl))) fun a10=>aq) fun z12=>(sR rfl))) (fun _=>rfl) fun ka=>(aI (fun d20=>[some (.v (.r n)),some (.own ((oL D.str) ka))]) (Cn (φ:=fun a19=>(c2.2.1,(c2.2.2+a19))) (S:=S) (a:=c2.2.2) rfl rfl (hr _) rfl rfl (sv (jv (sv (cD D.int (1:Int))) (sv (vF (aQ (sv (bO (sv (oO (R':=R) (post:=(pD D.str _ _)) (sv (fW (a:=c2.2) rfl)) (iw (hr _) rfl) (ah (sv (cD D.int (1:Int))) aq) (.d .nil) rfl (dH (aX:=c2.2) (cx:=(1:Int)) (hr _) ) (fun _=>rfl))) (fun a14=>(sv (cD D.str (sS "'")))) fun a14=>(d0 aL aL qS (by decide)))) fun a15=>aq) fun z17=>Cg)) fun a18=>dI)) (fun a19=>hw _ (c2.2.1,(c2.2.2+a19)))) (fun _=>rfl) fun d20=>(jK rfl (by(repeat' (first | exact trivial | refine And.intro rfl ?_))))))))) fun r21=>(aI (fun u22=>[some (.v (.r n)),some (.own ((oL D.str) r21.1))]) (kZ (md (post:=(pE eN _ S)) (sv (fW (a:=r21.2) rfl)) (iw (hr _) rfl) (ah (sv (cD D.str (sS "'"))) aq) (.d .nil) rfl (ic (aX:=r21.2) (g9:=(sS "'")) hr hw hR) (fun _=>rfl))) (fun _=>rfl) fun u22=>(aU (iH (φ:=fun v23=>(v23,u22.2)) (mZ (sv (cD D.str (sS ""))) (fun _ _=>rfl) (ah (dc (dg (a:=r21.1) rfl)) aq) (yM (cb rfl))) fun _=>rfl)))))))
def bo(aX:List Nat×Int):M ((List Nat×List Nat)×(List Nat×Int)):=(nox (cP aX)).bind fun bR=>(aT bR.2 (sS ":")).bind fun u2=>(((cN u2.2).bind fun a3=>(M.ok ()).bind fun w4=>M.ok (a3,w4)).bind fun z5=>M.ok ((bR.1,z5.1.1),z5.1.2)).bind fun v6=>M.ok (v6)
theorem jE{R:List Ob→Prop}{S:(List Nat×Int)→List Ob}{n:Nat}(hr:∀ d,(S d)[n]? =some (hI d))(hw:∀ d d',(S d).set n (hI d')=S d')(hR:∀ d,R (S d)){aX:List Nat×Int}:cE R eF [.r n] (S aX) (bo aX) (fun v=>(.val (.d ((aP D.str D.str) v.1)),S v.2)):=(dE (aI (fun bR=>[some (.v (.r n)),some (.v (.d (D.str bR.1)))]) (cU (oO (R':=R) (post:=(pE D.str _ S)) (sv (fW (a:=aX) rfl)) (iw (hr _) rfl) aq .nil rfl (pk (aX:=aX) hr hw ) (fun _=>rfl))) (fun _=>rfl) fun bR=>(aI (fun u2=>[some (.v (.r n)),some (.v (.d (D.str bR.1)))]) (kZ (md (post:=(pE eN _ S)) (sv (fW (a:=bR.2) rfl)) (iw (hr _) rfl) (ah (sv (cD D.str (sS ":"))) aq) (.d .nil) rfl (ic (aX:=bR.2) (g9:=(sS ":")) hr hw hR) (fun _=>rfl))) (fun _=>rfl) fun u2=>(aU (iH (φ:=fun v6=>v6) (Ev.map (fun(z5:(List Nat×(List Nat×Int))×Unit)=>((bR.1,z5.1.1),z5.1.2)) (pE (aP D.str D.str) _ S) (fS (ah (sv (ax (a:=bR.1) (e:=D.str) rfl)) (aQ (sv (md (post:=(pE D.str _ S)) (sv (fW (a:=u2.2) rfl)) (iw (hr _) rfl) aq .nil rfl (pI (aX:=u2.2) hr hw hR) (fun _=>rfl))) fun a3=>aq)) (fun _=>(.d (.d .nil))) (fun _=>rfl) (fun _=>rfl)) fun _=>rfl) fun _=>rfl)))))
end K34
namespace K34
open PySem L2 PyProof.Rows Vw
theorem BS(line:List Nat):hM [.r 0,.d (.str line)] [.ins "FieldReader" []]=.ok (.val (.d .non)) ⟨[],[hI (line,0)]⟩:=by kernel_rfl
def kT(aE:List Nat):M ((Bool×(List (List Nat×List Nat)))×List Ob):=(if(eqB aE (sS "none"))=true then(M.ok (((true,([]:List (List Nat×List Nat))),([]:List Ob))))else((((bo (aE,(0:Int))).bind fun a2=>(M.ok ()).bind fun w3=>M.ok (a2,w3)).bind fun z4=>M.ok ([z4.1.1],z4.1.2)).bind fun qh=>(qQ (fun(c6:(List (List Nat×List Nat))×(List Nat×Int))=>(gx aE).bind fun a7=>M.ok (decide (c6.2.2<a7))) (fun(c6:(List (List Nat×List Nat))×(List Nat×Int))=>(aT c6.2 (sS " ")).bind fun u8=>(((bo u8.2).bind fun a9=>(M.ok ()).bind fun w10=>M.ok (a9,w10)).bind fun z11=>(iy c6.1 z11.1.1).bind fun v=>M.ok (v,z11.1.2)).bind fun iV=>M.ok (iV.1,iV.2)) ef (qh.1,qh.2)).bind fun r13=>(zE cM "NoField" ⟨"NoLine",none⟩ (fV r13.1)).bind fun u14=>M.ok (((false,r13.1),([hI r13.2]:List Ob)))))
theorem x8{aE:List Nat}:cE (fun _=>True) dU [.d (D.str aE)] [] (kT aE) (fun v=>((bif v.1.1 then RV.new ((oL (aP D.str D.str)) v.1.2)else RV.val (.d ((eL (aP D.str D.str)) v.1.2))),v.2)):=(dE (eV (fy (sv (aB (sv (ax (a:=aE) (e:=D.str) rfl)) (sv (cD D.str (sS "none"))) (d0 aL aL qS (by decide))))) (aU (Ou (Ev.bH (post2:=(pN (oL (aP D.str D.str)) _ _)) (bz (l:=fun _=>([]:List (List Nat×List Nat))) (e:=(aP D.str D.str)) aq (fun _=>.nil) (fun _=>rfl) (fun _=>rfl)) rfl) rfl)) (De [some (.v (.d (D.str aE))),some (.v (.r 0)),none] ([hI (aE,(0:Int))]:List Ob) (cU (QC (o:=fun _=>hI (aE,(0:Int))) (ah (sv (ax (a:=aE) (e:=D.str) rfl)) aq) (fun _=>(.d .nil)) (fun _=>rfl) (fun _=>BS _))) rfl rfl (aI (fun qh=>[some (.v (.d (D.str aE))),some (.v (.r 0)),some (.own ((oL (aP D.str D.str)) qh.1))]) (kW (Ev.map (fun(z4:((List Nat×List Nat)×(List Nat×Int))×Unit)=>([z4.1.1],z4.1.2)) (Lk (oL (aP D.str D.str)) _ (fun(d:List Nat×Int)=>[hI d])) (bz (l:=fun z4=>([z4.1.1]:List (List Nat×List Nat))) (e:=(aP D.str D.str)) (aQ (sv (md (post:=(pE (aP D.str D.str) _ (fun(d:List Nat×Int)=>[hI d]))) (sv (fW (a:=(aE,(0:Int))) rfl)) (iw rfl rfl) aq .nil rfl (jE (aX:=(aE,(0:Int))) (S:=(fun(d:List Nat×Int)=>[hI d])) (n:=0) (fun _=>rfl) (fun _ _=>rfl) (fun _=>trivial)) (fun _=>rfl))) fun a2=>aq) (fun _=>(.d .nil)) (fun _=>rfl) (fun _=>rfl)) fun _=>rfl)) (fun _=>rfl) fun qh=>(kH (JA (P:=fun(c6:(List (List Nat×List Nat))×(List Nat×Int))=>[some (.v (.d (D.str aE))),some (.v (.r 0)),some (.own ((oL (aP D.str D.str)) c6.1))]) (S:=fun(c6:(List (List Nat×List Nat))×(List Nat×Int))=>(fun(d:List Nat×Int)=>[hI d]) c6.2) (c0:=(qh.1,qh.2)) (mt:=(fun(c6:(List (List Nat×List Nat))×(List Nat×Int))=>(gx aE).bind fun a7=>M.ok (decide (c6.2.2<a7)))) (mb:=(fun(c6:(List (List Nat×List Nat))×(List Nat×Int))=>(aT c6.2 (sS " ")).bind fun u8=>(((bo u8.2).bind fun a9=>(M.ok ()).bind fun w10=>M.ok (a9,w10)).bind fun z11=>(iy c6.1 z11.1.1).bind fun v=>M.ok (v,z11.1.2)).bind fun iV=>M.ok (iV.1,iV.2))) (by(repeat' (first | exact trivial | refine And.intro rfl ?_))) rfl (fun c6=>(tB (b:=fun v=>v) (sv (jv (sv (jN (i:=1) (a:=c6.2.2) (e:=fun v=>.d (D.int v)) rfl rfl rfl rfl)) (sv (cY (ah (sv (ax (a:=aE) (e:=D.str) rfl)) aq) kS)) fun a7=>ur)))) (fun c6=>(aI (fun u8=>[some (.v (.d (D.str aE))),some (.v (.r 0)),some (.own ((oL (aP D.str D.str)) c6.1))]) (kZ (md (post:=(pE eN _ (fun(d:List Nat×Int)=>[hI d]))) (sv (fW (a:=c6.2) rfl)) (iw rfl rfl) (ah (sv (cD D.str (sS " "))) aq) (.d .nil) rfl (ic (aX:=c6.2) (g9:=(sS " ")) (S:=(fun(d:List Nat×Int)=>[hI d])) (n:=0) (fun _=>rfl) (fun _ _=>rfl) (fun _=>trivial)) (fun _=>rfl))) (fun _=>rfl) fun u8=>(aI (fun iV=>[some (.v (.d (D.str aE))),some (.v (.r 0)),some (.own ((oL (aP D.str D.str)) iV.1))]) (kZ (ox (dc (dg (a:=c6.1) rfl)) (fun _ hf=>vA (cb rfl) hf) (aQ (sv (md (post:=(pE (aP D.str D.str) _ (fun(d:List Nat×Int)=>[hI d]))) (sv (fW (a:=u8.2) rfl)) (iw rfl rfl) aq .nil rfl (jE (aX:=u8.2) (S:=(fun(d:List Nat×Int)=>[hI d])) (n:=0) (fun _=>rfl) (fun _ _=>rfl) (fun _=>trivial)) (fun _=>rfl))) fun a9=>aq) fun z11=>(Ev.map (fun v=>(v,z11.1.2)) (UN 2 (oL (aP D.str D.str)) _ (fun(d:List Nat×Int)=>[hI d])) (sR rfl) fun _=>rfl))) (fun _=>rfl) fun iV=>(jK rfl (by(repeat' (first | exact trivial | refine And.intro rfl ?_)))))))) fun r13=>(aI (fun u14=>[some (.v (.d (D.str aE))),some (.v (.r 0)),some (.v (.d ((eL (aP D.str D.str)) r13.1)))]) (Ph (kZ (jR (post:=(pD eN _ _)) (ah (dc (dg (a:=r13.1) rfl)) aq) (.o rfl (bN _ _) .nil) rfl (u6 (bV:=r13.1) trivial) (fun _=>rfl))) (MM (R:=(fun _=>True)) fun σ hR=>pA hR (kB:=false))) (fun _=>rfl) fun u14=>(aU (fj (ax (a:=r13.1) (e:=(eL (aP D.str D.str))) rfl) rfl))))))))
def eT(aE:List Nat):M (Bool×(List (List Nat×List Nat))):=(kT aE).bind fun v=>M.ok v.1
theorem qy{aE:List Nat}:F3 dU [(D.str aE)] (eT aE) (fun v=>(bif v.1 then RV.new ((oL (aP D.str D.str)) v.2)else RV.val (.d ((eL (aP D.str D.str)) v.2)))):=cE.toI x8 (fun v=>Q3 (bN _ v.2))
def eJ(ar:List Nat):M D:=(sF ar (sS " ")).bind fun t1=>(if(eqB t1.1 (sS "put"))=true then((((((eT t1.2.2).bind fun v=>M.ok v.2).bind fun v=>M.ok ((eL (aP D.str D.str)) v)).bind fun a2=>(M.ok ()).bind fun w3=>M.ok (a2,w3)).bind fun z4=>M.ok (D.tup [(D.str (sS "put")),z4.1])).bind fun v5=>M.ok (v5))else((if(eqB t1.1 (sS "change"))=true then((sF t1.2.2 (sS " ")).bind fun t6=>((((cy t6.1).bind fun v=>M.ok (D.int v)).bind fun a7=>((((eT t6.2.2).bind fun v=>M.ok v.2).bind fun v=>M.ok ((eL (aP D.str D.str)) v)).bind fun a8=>(M.ok ()).bind fun w9=>M.ok (a8,w9)).bind fun w10=>M.ok (a7,w10)).bind fun z11=>M.ok (D.tup [(D.str (sS "change")),z11.1,z11.2.1])).bind fun v12=>M.ok (v12))else((if(d8 ar [(sS "stamp"),(sS "seal"),(sS "thin")])=true then(M.ok ((D.tup [(D.str ar)])))else((gU (d8 t1.1 [(sS "take"),(sS "drop"),(sS "pack"),(sS "pour")])).bind fun u13=>((xA t1.2.2 (sS " ")).bind fun l15=>vm (fun(part14:List Nat)=>cy part14) l15).bind fun eC=>(gU (eqB (eC.length:Int) ((1:Int)+(if(eqB t1.1 (sS "pour"))=true then(1:Int)else 0)))).bind fun u17=>(((eU [(D.str t1.1)] (eC.map D.int)).bind fun a18=>(M.ok ()).bind fun w19=>M.ok (a18,w19)).bind fun z20=>M.ok (D.tup (z20.1.map eY))).bind fun v21=>M.ok (v21)))))))
theorem EZ{R:List Ob→Prop}{σ:List Ob}(hR:R σ){ar:List Nat}:cE R d4 [.d (D.str ar)] σ (eJ ar) (fun v=>(.val (.d (eY v)),σ)):=(dE (aI (fun t1=>[some (.v (.d (D.str ar))),none,some (.v (.d (D.str t1.1))),some (.v (.d (D.str t1.2.1))),some (.v (.d (D.str t1.2.2))),none,none,none]) (RG (sv (mZ (sv (ax (a:=ar) (e:=D.str) rfl)) (fun _ _=>rfl) (ah (sv (cD D.str (sS " "))) aq) Ls)) fun _=>(zr rfl rfl (jD eS (jD eS (jD eS vL))))) (fun _=>rfl) fun t1=>(eV (fy (sv (aB (sv (ax (a:=t1.1) (e:=D.str) rfl)) (sv (cD D.str (sS "put"))) (d0 aL aL qS (by decide))))) (aU (iH (φ:=fun v5=>v5) (Ev.map (fun(z4:D×Unit)=>(D.tup [(D.str (sS "put")),z4.1])) (pD eY _ _) (fS (ah (sv (toY (cD D.str (sS "put")))) (aQ (toY (PF (o:=(oL (aP D.str D.str))) (d:=(eL (aP D.str D.str))) (tO (post:=(fun v=>((bif v.1 then RV.new ((oL (aP D.str D.str)) v.2)else RV.val (.d ((eL (aP D.str D.str)) v.2))),_,_))) (ds:=[D.str t1.2.2]) (ah (sv (ax (a:=t1.2.2) (e:=D.str) rfl)) aq) (.d .nil) rfl qy (fun _=>rfl) hR) (fun v=>bN _ v))) fun a2=>aq)) (fun _=>(.d (.d .nil))) (fun _=>rfl) (fun _=>rfl)) fun _=>rfl) fun _=>rfl)) (eV (fy (sv (aB (sv (ax (a:=t1.1) (e:=D.str) rfl)) (sv (cD D.str (sS "change"))) (d0 aL aL qS (by decide))))) (aI (fun t6=>[some (.v (.d (D.str ar))),none,some (.v (.d (D.str t1.1))),some (.v (.d (D.str t6.2.1))),some (.v (.d (D.str t1.2.2))),some (.v (.d (D.str t6.1))),some (.v (.d (D.str t6.2.2))),none]) (RG (sv (mZ (sv (ax (a:=t1.2.2) (e:=D.str) rfl)) (fun _ _=>rfl) (ah (sv (cD D.str (sS " "))) aq) Ls)) fun _=>(zr rfl rfl (jD eS (jD eS (jD eS vL))))) (fun _=>rfl) fun t6=>(aU (iH (φ:=fun v12=>v12) (Ev.map (fun(z11:D×(D×Unit))=>(D.tup [(D.str (sS "change")),z11.1,z11.2.1])) (pD eY _ _) (fS (ah (sv (toY (cD D.str (sS "change")))) (aQ (sv (toY (jR (post:=(pD D.int _ _)) (ah (sv (ax (a:=t6.1) (e:=D.str) rfl)) aq) (.d .nil) rfl (wM (aE:=t6.1) hR) (fun _=>rfl)))) fun a7=>(aQ (toY (PF (o:=(oL (aP D.str D.str))) (d:=(eL (aP D.str D.str))) (tO (post:=(fun v=>((bif v.1 then RV.new ((oL (aP D.str D.str)) v.2)else RV.val (.d ((eL (aP D.str D.str)) v.2))),_,_))) (ds:=[D.str t6.2.2]) (ah (sv (ax (a:=t6.2.2) (e:=D.str) rfl)) aq) (.d .nil) rfl qy (fun _=>rfl) hR) (fun v=>bN _ v))) fun a8=>aq))) (fun _=>(.d (.d (.d .nil)))) (fun _=>rfl) (fun _=>rfl)) fun _=>rfl) fun _=>rfl))) (eV (fy (sv (aB (sv (ax (a:=ar) (e:=D.str) rfl)) (sn (Ev.bH (post2:=(pN (oL D.str) _ _)) (bz (l:=fun _=>([(sS "stamp"),(sS "seal"),(sS "thin")]:List (List Nat))) (e:=D.str) (ah (sv (cD D.str (sS "stamp"))) (ah (sv (cD D.str (sS "seal"))) (ah (sv (cD D.str (sS "thin"))) aq))) (fun _=>(.d (.d (.d .nil)))) (fun _=>rfl) (fun _=>rfl)) rfl) (fun v=>bN _ v)) (CJ aL eI qS (by decide))))) (aU (fj (Ev.bH (post2:=(pD eY _ _)) (fS (ah (sv (toY (ax (a:=ar) (e:=D.str) rfl))) aq) (fun _=>(.d .nil)) (fun _=>rfl) (fun _=>rfl)) rfl) rfl)) (aI (fun u13=>[some (.v (.d (D.str ar))),none,some (.v (.d (D.str t1.1))),some (.v (.d (D.str t1.2.1))),some (.v (.d (D.str t1.2.2))),none,none,none]) (kZ (jR (post:=(pD eN _ _)) (ah (sv (aB (sv (ax (a:=t1.1) (e:=D.str) rfl)) (sn (Ev.bH (post2:=(pN (oL D.str) _ _)) (bz (l:=fun _=>([(sS "take"),(sS "drop"),(sS "pack"),(sS "pour")]:List (List Nat))) (e:=D.str) (ah (sv (cD D.str (sS "take"))) (ah (sv (cD D.str (sS "drop"))) (ah (sv (cD D.str (sS "pack"))) (ah (sv (cD D.str (sS "pour"))) aq)))) (fun _=>(.d (.d (.d (.d .nil))))) (fun _=>rfl) (fun _=>rfl)) rfl) (fun v=>bN _ v)) (CJ aL eI qS (by decide)))) aq) (.d .nil) rfl (pA (kB:=(d8 t1.1 [(sS "take"),(sS "drop"),(sS "pack"),(sS "pour")])) hR) (fun _=>rfl))) (fun _=>rfl) fun u13=>(aI (fun eC=>[some (.v (.d (D.str ar))),some (.own ((oL D.int) eC)),some (.v (.d (D.str t1.1))),some (.v (.d (D.str t1.2.1))),some (.v (.d (D.str t1.2.2))),none,none,none]) (kW (OL (q:=[some (.v (.d (D.str ar))),none,some (.v (.d (D.str t1.1))),some (.v (.d (D.str t1.2.1))),some (.v (.d (D.str t1.2.2))),none,none,none]) (p2:=fun(part14:List Nat)=>[some (.v (.d (D.str ar))),none,some (.v (.d (D.str t1.1))),some (.v (.d (D.str t1.2.1))),some (.v (.d (D.str t1.2.2))),none,none,some (.v (.d (D.str part14)))]) (p3:=fun(part14:List Nat)=>[some (.v (.d (D.str ar))),none,some (.v (.d (D.str t1.1))),some (.v (.d (D.str t1.2.1))),some (.v (.d (D.str t1.2.2))),none,none,some (.v (.d (D.str part14)))]) (me:=(fun(part14:List Nat)=>cy part14)) (e:=D.int) (Jr (sn (mZ (sv (ax (a:=t1.2.2) (e:=D.str) rfl)) (fun _ _=>rfl) (ah (sv (cD D.str (sS " "))) aq) LB) (fun v=>bN _ v))) rfl (fun(part14:List Nat)=>⟨eS,(ui (jR (post:=(pD D.int _ _)) (ah (sv (ax (a:=part14) (e:=D.str) rfl)) aq) (.d .nil) rfl (wM (aE:=part14) hR) (fun _=>rfl)))⟩) (fun _=>by(repeat' (first | exact trivial | refine And.intro rfl ?_))))) (fun _=>rfl) fun eC=>(aI (fun u17=>[some (.v (.d (D.str ar))),some (.own ((oL D.int) eC)),some (.v (.d (D.str t1.1))),some (.v (.d (D.str t1.2.1))),some (.v (.d (D.str t1.2.2))),none,none,none]) (kZ (jR (post:=(pD eN _ _)) (ah (sv (aB (sv (cY (ah (dc (dg (a:=eC) rfl)) aq) (oG (cb rfl)))) (sv (aB (sv (cD D.int (1:Int))) (sv (cY (ah (sv (aB (sv (ax (a:=t1.1) (e:=D.str) rfl)) (sv (cD D.str (sS "pour"))) (d0 aL aL qS (by decide)))) aq) Cg)) dI)) (d0 aL aL qI (by decide)))) aq) (.d .nil) rfl (pA (kB:=(eqB (eC.length:Int) ((1:Int)+(if(eqB t1.1 (sS "pour"))=true then(1:Int)else 0)))) hR) (fun _=>rfl))) (fun _=>rfl) fun u17=>(aU (iH (φ:=fun v21=>v21) (vF (aQ (sn (aB (sn (Ev.bH (post2:=(pN (oL eY) _ _)) (bz (l:=fun _=>([(D.str t1.1)]:List D)) (e:=eY) (ah (sv (toY (ax (a:=t1.1) (e:=D.str) rfl))) aq) (fun _=>(.d .nil)) (fun _=>rfl) (fun _=>rfl)) rfl) (fun v=>bN _ v)) (dc (Sv (a:=eC.map D.int) (o:=oL D.int eC) rfl)) (add_l eI (Rf rfl))) (fun v=>bN _ v)) fun a18=>aq) fun z20=>(Ro eI)) fun _=>rfl))))))))))
end K34
namespace K34
open PySem L2 PyProof.Rows Vw
def Dr(l:List Int):Prop:=∀ x∈l,0≤x∧x<2147483648
theorem oQ{l:List Int}(h:Dr l):Sat (bT l) fun r=>0≤r.1∧r.1<2147483648∧Dr r.2:=by
 unfold bT
 refine jk (fun hl=>aF ⟨by omega,by omega,h⟩) fun hl=>?_
 obtain⟨y,hy,e⟩:=Fe (l:=l) (by simpa using hl)
 rw[e,M.aa]
 exact aF ⟨(h y hy).1,(h y hy).2,fun x hx=>h x (List.dropLast_subset l hx)⟩
theorem A4(script:List Int)(t:Int):Sat (eU (cz script (none:Option Int) (some (63:Int))) [t]) fun L=>0<L.length∧L.length≤64:=by
 have e:cz script none (some (63:Int))=script.take 63:=Sh.Ih script 63
 rw[e]
 exact NS (DG (by simp;omega)) ⟨by simp,by simp;omega⟩
theorem Io(script:List Int)(turn many:Nat)(ht:turn≤1000)(hm:many≤1000):Sat (kY script (turn:Int) (many:Int)) Dr:=by
 unfold kY
 refine az (A4 script turn) fun L ⟨l1,l2⟩=>?_
 refine az (P:=fun _=>True) (az (P:=fun _=>True) (az (P:=fun _=>True) (az (oN (P:=fun _=>True) (by omega) (by omega) fun _ _=>trivial) fun a _=>aF trivial) fun _ _=>aF trivial) fun _ _=>aF trivial) fun b _=>jk (fun _=>?_) fun _=>?_
 ·rw[AD (F:=fun(c:Int)=>c/100000) (fun _ _=>rfl) (fun _ _=>rfl) (by omega),M.aa,show((turn:Int)+(many:Int))=((turn+many:Nat):Int) by omega,zp (by omega),M.aa]
  refine az (tj (fun n c=>c.1.length≤n∧c.2.length=L.length∧Dr c.1) ⟨by simp,by simp,fun x hx=>by cases hx⟩ fun n c x hx hn ⟨i1,i2,i3⟩=>?_) fun r hr=>aF hr.2.2
  have hx:=zb hx
  simp at hn
  rw[mm (by omega),M.aa]
  have hj:0≤x%(c.2.length:Int)∧x%(c.2.length:Int)<c.2.length:=⟨Int.emod_nonneg _ (by omega),Int.emod_lt_of_pos _ (by omega)⟩
  obtain⟨y,_,ey⟩:=xX hj.1 hj.2
  simp only[ey,M.aa]
  refine az (P:=fun j=>j.length≤n+1∧Dr j) (jk (fun _=>?_) fun _=>aF ⟨by omega,i3⟩) fun j hj2=>?_
  ·rw[iI (by omega),M.aa]
   refine aF ⟨by simp;omega,fun z hz=>?_⟩
   rcases List.mem_append.mp hz with hz | hz
   ·exact i3 z hz
   ·simp at hz
    omega
  ·rw[MK hj.1 hj.2,M.aa]
   exact aF ⟨hj2.1,by simp[i2],hj2.2⟩
 ·rw[zp (by omega),M.aa]
  refine az (tj (fun n c=>c.length≤n∧Dr c) ⟨by simp,fun x hx=>by cases hx⟩ fun n c x hx hn ⟨i1,i3⟩=>?_) fun r hr=>aF hr.2
  have hx:=zb hx
  simp at hn
  have hb:∀ {z:Int},0≤z→z<9223372036854775808→z.natAbs<2^63:=fun h1 h2=>by omega
  have hq:0≤(x+(turn:Int))*(x+(turn:Int))∧(x+(turn:Int))*(x+(turn:Int))≤2000*2000:=⟨Int.mul_nonneg (by omega) (by omega),Int.mul_le_mul (by omega) (by omega) (by omega) (by omega)⟩
  rw[kJ 63 63 (hb (by omega) (by omega)) (hb (by omega) (by omega)) (by omega) (by omega) (by omega),M.aa,kJ 63 63 (hb (by omega) (by omega)) (by decide) (by omega) (by omega) (by omega),M.aa,M.aa,mm (by omega)]
  have hj:0≤x%(L.length:Int)∧x%(L.length:Int)<L.length:=⟨Int.emod_nonneg _ (by omega),Int.emod_lt_of_pos _ (by omega)⟩
  obtain⟨y,_,ey⟩:=xX hj.1 hj.2
  simp only[M.aa,ey]
  generalize (x+(turn:Int))*(x+(turn:Int))=S at hq ⊢
  have hr:0≤y%2147483647∧y%2147483647<2147483647:=by omega
  generalize y%2147483647=Y at hr ⊢
  rw[kJ 63 63 (hb (by omega) (by omega)) (by decide) (by omega) (by omega) (by omega)]
  simp only[M.aa]
  have hr2:0≤(Y+(S*7919+104729))*48271%2147483647∧(Y+(S*7919+104729))*48271%2147483647<2147483647:=by omega
  generalize (Y+(S*7919+104729))*48271%2147483647=W at hr2 ⊢
  rw[kJ 63 63 (hb (by omega) (by omega)) (hb (by omega) (by omega)) (by omega) (by omega) (by omega)]
  simp only[M.aa]
  rw[kJ (a:=69621) 63 63 (by decide) (hb (by omega) (by omega)) (by omega) (by omega) (by omega)]
  simp only[M.aa]
  generalize W*W=W2
  have hr3:0≤(W2+69621*x)%2147483629∧(W2+69621*x)%2147483629<2147483629:=by omega
  generalize (W2+69621*x)%2147483629=U at hr3 ⊢
  rw[kJ 63 63 (hb (by omega) (by omega)) (hb (by omega) (by omega)) (by omega) (by omega) (by omega)]
  simp only[M.aa]
  rw[iI (by omega),M.aa]
  refine aF ⟨by simp;omega,fun z hz=>?_⟩
  rcases List.mem_append.mp hz with hz | hz
  ·exact i3 z hz
  ·simp at hz
   omega
theorem j8{a m:Int}(h:0<m):0≤a%m∧a%m<m:=⟨Int.emod_nonneg _ (by omega),Int.emod_lt_of_pos _ h⟩
abbrev Ws:Type:=List (List Nat)
abbrev Doc:Type:=List (List Nat×List Nat)
def dY:List Nat:=sS "abcdefghijklmnopqrstuvwxyz"
def gm(u:List Nat):Prop:=1≤u.length∧u.length≤12∧∀ c∈u,c∈dY
def Ris(l:Ws):Prop:=l.Pairwise fun a b=>eG a b=true
def DocOk(d:Doc):Prop:=d.length≤3∧(∀ x∈d,gm x.1∧x.2.length≤10)∧Ris (d.map (·.1))
theorem FU:(sS "abcdefghijklmnopqrstuvwxyz").length=26:=by decide+kernel
theorem vV(d:List Int):Sat (bT d) fun _=>True:=by
 unfold bT
 refine jk (fun _=>aF trivial) fun h=>?_
 by_cases hd:d=[]
 ·subst hd;exact absurd rfl h
 ·obtain⟨y,_,e⟩:=Fe hd
  rw[e];exact aF trivial
theorem HD{κ α:Type}[DecidableEq κ](l:List (κ×α))(k:κ)(v:α):(kI l k v).map (·.1)=if k∈l.map (·.1)then l.map (·.1)else l.map (·.1)++[k]:=by
 unfold kI
 by_cases h:k∈l.map (·.1)
 ·have h1:(l.any fun p=>decide (p.1=k))=true:=by
   obtain⟨p,hp,e⟩:=List.mem_map.mp h
   exact List.any_eq_true.mpr ⟨p,hp,decide_eq_true e⟩
  rw[if_pos h1,if_pos h,List.map_map]
  apply List.map_congr_left
  intro p hp
  show(if p.1=k then(p.1,v)else p).1=p.1
  split<;> rfl
 ·have h1:¬ (l.any fun p=>decide (p.1=k))=true:=fun z=>by
   obtain⟨p,hp,e⟩:=List.any_eq_true.mp z
   exact h (List.mem_map.mpr ⟨p,hp,of_decide_eq_true e⟩)
  rw[if_neg h1,if_neg h]
  simp
theorem Ig(i:Int):Sat (fu (sS "abcdefghijklmnopqrstuvwxyz") (i%26)) fun u=>∃ c,c∈dY∧u=[c]:=by
 have h:=j8 (a:=i) (m:=26) (by decide)
 obtain⟨a,ha,e⟩:=Ez (l:=sS "abcdefghijklmnopqrstuvwxyz") h.1 (by rw[FU];exact h.2) (by rw[FU];omega)
 exact⟨[a],e,a,ha,rfl⟩
theorem En:∀ l:Ws,(∀ u∈l,∃ c,c∈dY∧u=[c])→l.flatten.length=l.length∧∀ c∈l.flatten,c∈dY
 | [],_=>⟨rfl,fun c h=>by cases h⟩
 | u::l,h=>by
  obtain⟨c,hc,e⟩:=h u (by simp)
  obtain⟨h1,h2⟩:=En l fun v hv=>h v (by simp[hv])
  subst e
  refine⟨by simp[h1],fun x hx=>?_⟩
  rw[List.flatten_cons]at hx
  rcases List.mem_append.mp hx with hx | hx
  ·rw[List.mem_singleton]at hx;rw[hx];exact hc
  ·exact h2 x hx
theorem FG:∀ l:Ws,(∀ u∈l,∃ c,c∈dY∧u=[c])→(l.map (·.length)).sum=l.length
 | [],_=>rfl
 | u::l,h=>by
  obtain⟨c,hc,e⟩:=h u (by simp)
  rw[List.map_cons,List.sum_cons,FG l fun v hv=>h v (by simp[hv]),e]
  simp
  omega
theorem Pk{l:Ws}(hn:l.Nodup):Ris (mJ l):=by
 have h1:=Cq l
 have h2:(mJ l).Nodup:=(oF l).nodup_iff.mpr hn
 refine(h1.and h2).imp fun {a b} ⟨q1,q2⟩=>?_
 cases e:eG a b with
 | true=>rfl
 | false=>
  have:kO b a=true:=by unfold kO;rw[e];rfl
  exact absurd (CI q1 this) q2
theorem IK{d:List Int}(hd:Dr d):Sat (lu d) fun r=>(r.1.length≤3∧(∀ u∈r.1,gm u)∧Ris r.1)∧Dr r.2:=by
 unfold lu
 rw[M.bind_assoc]
 refine az (P:=fun(a:List Int×List Int)=>a.1.length≤3∧Dr a.2) ?_ fun a ⟨ha,hda⟩=>?_
 ·refine az (P:=fun(z:(Int×List Int)×Unit)=>(z.1.1≤3∧0≤z.1.1)∧Dr z.1.2) ?_ fun z ⟨hz,hz2⟩=>?_
  ·refine az (P:=fun(z:Int×List Int)=>(z.1≤3∧0≤z.1)∧Dr z.2) ?_ fun z hz=>aF hz
   refine az (P:=fun(z:Int×List Int)=>(0≤z.1∧z.1<6)∧Dr z.2) (az (dJ (oQ hd)) fun a ha=>aF ⟨j8 (by decide),ha.2.2⟩) fun z ⟨hz,hz2⟩=>?_
   exact az (oN (P:=fun v=>v≤3∧0≤v) hz.1 (by simpa using hz.2) (by intro a ha;simp at ha;omega)) fun v hv=>aF ⟨hv,hz2⟩
  ·rw[zK (by omega) (by omega),M.aa]
   exact aF ⟨by simp;omega,hz2⟩
 ·refine az (tj (fun n (c:List (List Nat×Bool)×List Int)=>(c.1.length≤n∧(c.1.map (·.1)).Nodup∧∀ u∈c.1.map (·.1),gm u)∧Dr c.2) ⟨⟨by simp,by simp,fun u h=>by cases h⟩,hda⟩ ?_) fun r hr=>?_
  ·intro n c x hx hn ⟨⟨i1,i2,i3⟩,i4⟩
   refine az (dJ (oQ i4)) fun nu hnu=>?_
   have h11:=j8 (a:=nu.1) (m:=11) (by decide)
   refine az (P:=fun(w:List Nat)=>1≤w.length∧w.length≤11∧∀ c∈w,c∈dY) ?_ fun w hw=>?_
   ·refine az (P:=fun(z:Ws×Unit)=>z.1.length=(1+nu.1%11).toNat∧∀ u∈z.1,∃ c,c∈dY∧u=[c]) ?_ fun z hz=>?_
    ·refine az (P:=fun(z:Ws)=>z.length=(1+nu.1%11).toNat∧∀ u∈z,∃ c,c∈dY∧u=[c]) ?_ fun z hz=>aF hz
     rw[zK (by omega) (by omega),M.aa]
     refine zF (Im (fun u=>∃ c,c∈dY∧u=[c]) (fun _ _=>rfl) (fun j hj=>?_) (by simp;omega)) fun r hr=>⟨by rw[hr.1];simp,hr.2⟩
     have hj:=zb hj
     have hjj:0≤j*j∧j*j≤20*20:=⟨Int.mul_nonneg hj.1 hj.1,Int.mul_le_mul (by omega) (by omega) (by omega) (by omega)⟩
     rw[kJ 10 10 (by omega) (by omega) (by decide) (by decide) (by decide),M.aa,kJ 10 10 (by omega) (by decide) (by decide) (by decide) (by decide)]
     simp only[M.aa]
     exact Ig _
    ·unfold joinM
     rw[show sS ""=[]from by kernel_rfl,cB (decide_eq_true (by rw[FG _ hz.2];simp;omega)),M.aa,AB]
     obtain⟨f1,f2⟩:=En _ hz.2
     exact aF ⟨by omega,by omega,f2⟩
   ·refine az (P:=fun(l:List (List Nat×Bool))=>l.length≤n+1∧(l.map (·.1)).Nodup∧∀ u∈l.map (·.1),gm u) ?_ fun l hl=>aF ⟨hl,hnu.2.2⟩
    rw[M.aa]
    refine az (P:=gm) (az (Ig _) fun u ⟨c,hc,e⟩=>?_) fun u hu=>?_
    ·rw[e,cj (by simp;omega)]
     refine aF ⟨by simp,by simp;omega,fun x hx=>?_⟩
     rcases List.mem_append.mp hx with hx | hx
     ·rw[List.mem_singleton]at hx;rw[hx];exact hc
     ·exact hw.2.2 x hx
    ·unfold D4
     rw[cB (decide_eq_true (by rw[zL];omega)),M.aa]
     have hk:=HD c.1 u true
     refine aF ⟨?_,?_,?_⟩
     ·have:(kI c.1 u true).length=((kI c.1 u true).map (·.1)).length:=by simp
      rw[this,hk]
      split<;> simp<;> omega
     ·rw[hk]
      split
      ·exact i2
      ·rename_i hu2
       exact List.nodup_append.mpr ⟨i2,by simp,fun a ha b hb e=>by rw[List.mem_singleton]at hb;rw[e,hb]at ha;exact hu2 ha⟩
     ·rw[hk]
      split
      ·exact i3
      ·intro x hx
       rcases List.mem_append.mp hx with hx | hx
       ·exact i3 x hx
       ·rw[List.mem_singleton]at hx;rw[hx];exact hu
  ·obtain⟨⟨i1,i2,i3⟩,i4⟩:=hr
   unfold JQ
   refine az (P:=fun(l:Ws)=>l.length≤3∧(∀ u∈l,gm u)∧Ris l) ?_ fun v hv=>aF ⟨hv,i4⟩
   rw[cB (decide_eq_true (by simp;omega)),M.aa]
   refine aF ⟨?_,fun u hu=>i3 u ((oF _).mem_iff.mp hu),Pk i2⟩
   rw[(oF _).length_eq]
   simp
   omega
theorem Kc{d:List Int}(hd:Dr d):Sat (jj d) fun r=>r.1.length≤10∧Dr r.2:=by
 unfold jj
 rw[M.aa,M.bind_assoc]
 refine az (P:=fun(a:List Int×List Int)=>a.1.length≤9∧Dr a.2) ?_ fun a ⟨ha,hda⟩=>?_
 ·refine az (P:=fun(z:(Int×List Int)×Unit)=>(z.1.1<10∧0≤z.1.1)∧Dr z.1.2) ?_ fun z ⟨hz,hz2⟩=>?_
  ·refine az (P:=fun(z:Int×List Int)=>(z.1<10∧0≤z.1)∧Dr z.2) ?_ fun z hz=>aF hz
   exact az (dJ (oQ hd)) fun a ha=>aF ⟨⟨(j8 (by decide)).2,(j8 (by decide)).1⟩,ha.2.2⟩
  ·rw[zK (by omega) (by omega),M.aa]
   exact aF ⟨by simp;omega,hz2⟩
 ·refine az (tj (fun n (c:List Nat×List Int)=>c.1.length≤n∧Dr c.2) ⟨by show(sS "").length≤0;decide+kernel,hda⟩ ?_) fun r hr=>aF ⟨by have:=hr.1;show r.1.length≤10;omega,hr.2⟩
  intro n c x hx hn ⟨i1,i4⟩
  refine az (dJ (oQ i4)) fun nu hnu=>?_
  have h3:=j8 (a:=nu.1) (m:=3) (by decide)
  refine az (oN (P:=fun(u:List Nat)=>1≤u.length∧u.length≤100) h3.1 (by simpa using h3.2) (fun a ha=>?_)) fun u hu=>?_
  ·simp only[List.mem_cons,List.not_mem_nil,or_false]at ha
   rcases ha with rfl | rfl | rfl<;> exact⟨by decide+kernel,by decide+kernel⟩
  ·refine az (P:=fun(l:List Nat)=>l.length≤n+1) ?_ fun l hl=>aF ⟨hl,hnu.2.2⟩
   rw[fE (by omega),M.aa,mm (by omega),M.aa]
   have hj:=j8 (a:=nu.1/3) (m:=(u.length:Int)) (by omega)
   obtain⟨y,_,e⟩:=Ez (l:=u) hj.1 hj.2 (by omega)
   rw[e,M.aa,cj (by simp;omega)]
   exact aF (by simp;omega)
theorem uZ{d:List Int}(hd:Dr d):Sat (gh d) fun r=>DocOk r.1∧Dr r.2:=by
 unfold gh
 refine az (P:=fun(r:Doc×List Int)=>DocOk r.1∧Dr r.2) ?_ fun v hv=>aF hv
 refine az (dJ (IK hd)) fun a ⟨⟨a1,a2,a3⟩,a4⟩=>?_
 have key:∀ (l:Ws) (acc:Doc) (c:List Int),Dr c→acc.length+l.length≤1000→Sat (iS (fun(i9:List Nat) (c2:List Int)=>M.ok true) (fun i9 c2=>((nox (jj c2)).bind fun a3=>(M.ok ()).bind fun w4=>M.ok (a3,w4)).bind fun z5=>M.ok ((i9,z5.1.1),z5.1.2)) acc l c) fun r=>∃ k:Doc,r.1=acc++k∧k.map (·.1)=l∧(∀ x∈k,x.2.length≤10)∧Dr r.2:=by
  intro l
  induction l with
  | nil=>intro acc c hc _;exact aF ⟨[],by simp,rfl,(fun x hx=>by cases hx),hc⟩
  | cons u l ih=>
   intro acc c hc hl
   simp only[List.length_cons]at hl
   unfold iS
   rw[M.aa,if_pos rfl]
   refine az (P:=fun(y:(List Nat×List Nat)×List Int)=>(y.1.1=u∧y.1.2.length≤10)∧Dr y.2) (az (P:=fun(z:(List Nat×List Int)×Unit)=>z.1.1.length≤10∧Dr z.1.2) (az (dJ (Kc hc)) fun v hv=>aF hv) fun z hz=>aF ⟨⟨rfl,hz.1⟩,hz.2⟩) fun y ⟨hy,hy2⟩=>?_
   rw[cB (decide_eq_true (by rw[zL];omega)),M.aa]
   refine zF (ih (acc++[y.1]) y.2 hy2 (by simp;omega)) fun r ⟨k,k1,k2,k3,k4⟩=>⟨y.1::k,by rw[k1];simp,by rw[List.map_cons,k2,hy.1],fun x hx=>?_,k4⟩
   rcases List.mem_cons.mp hx with hx | hx
   ·rw[hx];exact hy.2
   ·exact k3 x hx
 unfold oH
 refine dJ (zF (key a.1 [] a.2 a4 (by simp;omega)) fun r ⟨k,k1,k2,k3,k4⟩=>⟨?_,k4⟩)
 rw[List.nil_append]at k1
 unfold DocOk
 rw[k1,k2]
 refine⟨?_,fun x hx=>⟨a2 x.1 ?_,k3 x hx⟩,a3⟩
 ·have:k.length=(k.map (·.1)).length:=by simp
  rw[this,k2]
  exact a1
 ·rw[←k2]
  exact List.mem_map_of_mem hx
end K34
namespace K34
open PySem L2 PyProof.Rows Vw
theorem E6{a b:Int}(h1:0≤b)(h2:b≤1000000)(h3:a.natAbs<2^64):DX a b=.ok (a^b.toNat):=by
 unfold DX
 rw[cB (decide_eq_true ⟨h1,h2,h3⟩)]
 rfl
inductive Dd where
 | put (d:Doc)
 | change (n:Nat) (d:Doc)
 | bare (w:List Nat)
 | one (w:List Nat) (n:Nat)
 | pour (n m:Nat)
abbrev gX:Doc→D:=eL (aP D.str D.str)
def cG:Dd→D
 | .put d=>.tup [.str (sS "put"),gX d]
 | .change n d=>.tup [.str (sS "change"),.int n,gX d]
 | .bare w=>.tup [.str w]
 | .one w n=>.tup [.str w,.int n]
 | .pour n m=>.tup [.str (sS "pour"),.int n,.int m]
def zS:Ws:=[sS "stamp",sS "seal",sS "thin"]
def yK:Ws:=[sS "take",sS "drop",sS "pack"]
def uP:Dd→Prop
 | .put d=>DocOk d
 | .change n d=>n<10^60∧DocOk d
 | .bare w=>w∈zS
 | .one w n=>w∈yK∧n<10^60
 | .pour n m=>n<10^60∧m<10^60
theorem Ct{T:Type}[DecidableEq T]{a:T}{l:List T}(h:a∈l):d8 a l=true:=by unfold d8;exact decide_eq_true h
theorem Te{T:Type}[DecidableEq T]{a:T}{l:List T}(h:d8 a l=true):a∈l:=by unfold d8 at h;exact of_decide_eq_true h
theorem Dh{T:Type}[DecidableEq T]{a:T}{l:List T}(h:a∉l):d8 a l=false:=by unfold d8;exact decide_eq_false h
theorem Gf{s d:List Int}(hd:Dr d):Sat (fg s d) fun r=>(∃ n:Nat,r.1=n∧n<10^60)∧Dr r.2:=by
 unfold fg
 refine az (dJ (oQ hd)) fun o ho=>?_
 refine az (A4 s o.1) fun L ⟨l1,l2⟩=>?_
 have nat:∀ {x:Int},0≤x→x<10^60→∃ n:Nat,x=n∧n<10^60:=fun {x} h1 h2=>⟨x.toNat,by omega,by omega⟩
 refine az (P:=fun(x:Int)=>∃ n:Nat,x=n∧n<10^60) ?_ fun x hx=>aF ⟨hx,ho.2.2⟩
 have h4:=j8 (a:=o.1) (m:=4) (by decide)
 have h4':=j8 (a:=o.1/4) (m:=4) (by decide)
 have h10:=j8 (a:=o.1/4) (m:=10) (by decide)
 refine az (P:=fun(l:List Int)=>l.length=4∧∀ x∈l,∃ n:Nat,x=n∧n<10^60) ?_ fun l hl=>oN h4.1 (by rw[hl.1];exact h4.2) hl.2
 refine az (P:=fun(z:Int×Int×Unit)=>(0≤z.1∧z.1<10^60)∧(0≤z.2.1∧z.2.1<10^60)) ?_ fun z hz=>aF ⟨rfl,fun x hx=>?_⟩
 ·refine az (P:=fun(x:Int)=>0≤x∧x<10^60) ?_ fun x hx=>az (P:=fun(w:Int×Unit)=>0≤w.1∧w.1<10^60) ?_ fun w hw=>aF ⟨hx,hw⟩
  ·refine az (P:=fun _=>True) ?_ fun y _=>?_
   ·rw[mm (by omega),M.aa]
    have hj:=j8 (a:=o.1/4) (m:=(L.length:Int)) (by omega)
    exact oN hj.1 hj.2 fun _ _=>trivial
   ·rw[E6 (by decide) (by decide) (by decide),M.aa,mm (by decide)]
    exact aF (j8 (by decide))
  ·rw[E6 (by decide) (by decide) (by decide)]
   simp only[M.aa]
   refine aF ?_
   have h1:=ho.1
   have h2:=ho.2.1
   show 0≤(10:Int)^(59:Int).toNat+o.1∧(10:Int)^(59:Int).toNat+o.1<10^60
   have e:(10:Int)^(59:Int).toNat=10^59:=rfl
   rw[e]
   omega
 ·simp only[List.mem_cons,List.not_mem_nil,or_false]at hx
  rcases hx with rfl | rfl | rfl | rfl
  ·exact nat h10.1 (by omega)
  ·exact nat h4'.1 (by omega)
  ·exact nat hz.1.1 hz.1.2
  ·exact nat hz.2.1 hz.2.2
theorem JE{s d:List Int}(hd:Dr d):Sat (mV s d) fun r=>(∃ q,r.1=cG q∧uP q)∧Dr r.2:=by
 unfold mV
 refine az (dJ (oQ hd)) fun o ho=>?_
 have h11:=j8 (a:=o.1) (m:=11) (by decide)
 refine az (oN (P:=fun w=>w∈[sS "put",sS "change",sS "take",sS "stamp",sS "drop",sS "seal",sS "pour",sS "thin",sS "pack"]) h11.1 (by simpa using h11.2) (fun a ha=>?_)) fun w hw=>?_
 ·simp only[List.mem_cons,List.not_mem_nil,or_false]at ha ⊢
  rcases ha with h | h | h | h | h | h | h | h | h | h | h<;> simp[h]
 have hdd:=ho.2.2
 have doc:Sat ((nox (gh o.2)).bind fun v=>M.ok ((eL (aP D.str D.str)) v.1,v.2)) fun r=>(∃ x,r.1=gX x∧DocOk x)∧Dr r.2:=az (dJ (uZ hdd)) fun v hv=>aF ⟨⟨v.1,rfl,hv.1⟩,hv.2⟩
 have num:∀ {d:List Int},Dr d→Sat ((nox (fg s d)).bind fun v=>M.ok (D.int v.1,v.2)) fun r=>(∃ n:Nat,r.1=.int (n:Int)∧n<10^60)∧Dr r.2:=fun {d} h=>az (dJ (Gf h)) fun v ⟨⟨n,e,hn⟩,h2⟩=>aF ⟨⟨n,by rw[e],hn⟩,h2⟩
 by_cases c1:w=sS "put"
 ·rw[if_pos (by rw[c1];exact decide_eq_true rfl)]
  refine az (P:=fun(r:D×List Int)=>(∃ q,r.1=cG q∧uP q)∧Dr r.2) ?_ fun v hv=>aF hv
  refine az (P:=fun(z:(D×List Int)×Unit)=>(∃ x,z.1.1=gX x∧DocOk x)∧Dr z.1.2) (az doc fun v hv=>aF hv) fun z ⟨⟨x,e,hx⟩,h2⟩=>aF ⟨⟨.put x,?_,hx⟩,h2⟩
  rw[c1,e]
  rfl
 ·rw[if_neg (by intro h;exact c1 (of_decide_eq_true h))]
  by_cases c2:w=sS "change"
  ·rw[if_pos (by rw[c2];exact decide_eq_true rfl)]
   refine az (P:=fun(r:D×List Int)=>(∃ q,r.1=cG q∧uP q)∧Dr r.2) ?_ fun v hv=>aF hv
   refine az (P:=fun(z:(D×List Int)×(D×List Int)×Unit)=>(∃ n:Nat,z.1.1=.int (n:Int)∧n<10^60)∧(∃ x,z.2.1.1=gX x∧DocOk x)∧Dr z.2.1.2) ?_ fun z ⟨⟨n,e1,hn⟩,⟨x,e,hx⟩,h2⟩=>aF ⟨⟨.change n x,?_,hn,hx⟩,h2⟩
   ·refine az (num hdd) fun a ⟨ha,ha2⟩=>az (P:=fun(z:(D×List Int)×Unit)=>(∃ x,z.1.1=gX x∧DocOk x)∧Dr z.1.2) (az (az (dJ (uZ ha2)) fun v hv=>aF (P:=fun(r:D×List Int)=>(∃ x,r.1=gX x∧DocOk x)∧Dr r.2) ⟨⟨v.1,rfl,hv.1⟩,hv.2⟩) fun v hv=>aF hv) fun z hz=>aF ⟨ha,hz⟩
   ·rw[c2,e1,e]
    rfl
  ·rw[if_neg (by intro h;exact c2 (of_decide_eq_true h))]
   by_cases c3:w∈[sS "stamp",sS "seal",sS "thin"]
   ·rw[if_pos (Ct c3)]
    exact aF ⟨⟨.bare w,rfl,c3⟩,hdd⟩
   ·rw[if_neg (fun h=>c3 (Te h))]
    by_cases c4:w=sS "pour"
    ·rw[if_pos (by rw[c4];exact decide_eq_true rfl)]
     refine az (P:=fun(r:D×List Int)=>(∃ q,r.1=cG q∧uP q)∧Dr r.2) ?_ fun v hv=>aF hv
     refine az (P:=fun(z:(D×List Int)×(D×List Int)×Unit)=>(∃ n:Nat,z.1.1=.int (n:Int)∧n<10^60)∧(∃ n:Nat,z.2.1.1=.int (n:Int)∧n<10^60)∧Dr z.2.1.2) ?_ fun z ⟨⟨n,e1,hn⟩,⟨m,e,hm⟩,h2⟩=>aF ⟨⟨.pour n m,?_,hn,hm⟩,h2⟩
     ·refine az (num hdd) fun a ⟨ha,ha2⟩=>az (P:=fun(z:(D×List Int)×Unit)=>(∃ n:Nat,z.1.1=.int (n:Int)∧n<10^60)∧Dr z.1.2) (az (num ha2) fun v hv=>aF hv) fun z hz=>aF ⟨ha,hz⟩
     ·rw[c4,e1,e]
      rfl
    ·rw[if_neg (by intro h;exact c4 (of_decide_eq_true h))]
     refine az (P:=fun(r:D×List Int)=>(∃ q,r.1=cG q∧uP q)∧Dr r.2) ?_ fun v hv=>aF hv
     refine az (P:=fun(z:(D×List Int)×Unit)=>(∃ n:Nat,z.1.1=.int (n:Int)∧n<10^60)∧Dr z.1.2) (az (num hdd) fun v hv=>aF hv) fun z ⟨⟨n,e1,hn⟩,h2⟩=>aF ⟨⟨.one w n,?_,?_,hn⟩,h2⟩
     ·rw[e1]
      rfl
     ·simp only[List.mem_cons,List.not_mem_nil,or_false]at hw c3
      unfold yK
      simp only[List.mem_cons,List.not_mem_nil,or_false]
      rcases hw with h | h | h | h | h | h | h | h | h<;> simp_all
end K34
namespace K34
open PySem L2 PyProof.Rows Vw
theorem ig(a:List Nat):TL.tl (Vw.st a)=a:=by simp[TL.tl,Vw.st]
theorem Hi(a b:List Nat):Vw.st (a++b)=Vw.st a++Vw.st b:=TL.ext_tl (by rw[TL.tl_append,ig,ig,ig])
theorem Ki{a b:List Nat}(h:32∉a):p7 (a++32::b) [32]=(a,[32],b):=by
 have e:=TL.partition_app (y:=Vw.st [32]) (s:=32) (S:=[]) (ig [32]) (a:=Vw.st a) (b:=Vw.st b) (by rw[ig];exact h)
 rw[←Hi,←Hi,List.append_assoc,List.singleton_append]at e
 unfold p7
 rw[e]
 show(TL.tl (Vw.st a),TL.tl (Vw.st [32]),TL.tl (Vw.st b))=_
 rw[ig,ig,ig]
theorem ID{a:List Nat}(h:32∉a):p7 a [32]=(a,[],[]):=by
 have e:=TL.partition_none (y:=Vw.st [32]) (s:=32) (S:=[]) (ig [32]) (a:=Vw.st a) (by rw[ig];exact h)
 unfold p7
 rw[e]
 show(TL.tl (Vw.st a),TL.tl Str.empty,TL.tl Str.empty)=_
 rw[ig]
 rfl
theorem zV(a:List Nat):sW a [32]=TL.spl [32] 0 [] a:=by
 have e:=TL.split_spl (Vw.st a) (Vw.st [32]) (by rw[ig];simp) (TL.kind_ok (by kernel_rfl))
 rw[ig,ig]at e
 exact e
theorem Kl{a:List Nat}(h:32∉a):sW a [32]=[a]:=by
 rw[zV,TL.spl_last1 h]
 rfl
def qt(t:List Nat):List Nat:=t.flatMap fun c=>if c=39 then [39,39]else [c]
theorem jh(c:Nat)(t:List Nat):qt (c::t)=(if c=39 then [39,39]else [c])++qt t:=by
 unfold qt
 rw[List.flatMap_cons]
theorem xC:∀ t:List Nat,StrLaws.replL [39] [39,39] t=qt t
 | []=>by rw[StrLaws.replL_nil];rfl
 | c::t=>by
  rw[jh]
  by_cases h:c=39
  ·rw[StrLaws.replL_hit (by simp) (by rw[h];rfl),if_pos h,←xC t]
   rfl
  ·rw[StrLaws.replL_miss (by simpa using h),if_neg h,←xC t]
   rfl
theorem MJ(t:List Nat):C1 t [39] [39,39]=qt t:=by
 unfold C1
 rw[StrLaws.replace_list (by decide)]
 rw[←xC]
 show StrLaws.replL (TL.tl (Vw.st [39])) (TL.tl (Vw.st [39,39])) (TL.tl (Vw.st t))=_
 rw[ig,ig,ig]
theorem yc:∀ t:List Nat,(qt t).length≤2*t.length
 | []=>by simp[qt]
 | c::t=>by
  have:=yc t
  rw[jh]
  split<;> simp<;> omega
theorem oS(n:Nat):cO (n:Int)=TL.numL n:=TL.tl_num n
theorem gN{n:Nat}(h:n<10^60):1≤(cO (n:Int)).length∧(cO (n:Int)).length≤60:=by
 rw[oS]
 exact⟨List.length_pos_iff.mpr (TL.numL_ne n),TL.numL_len (by decide) h⟩
theorem LN(n:Nat):∀ c∈cO (n:Int),c∈sS "0123456789":=by
 rw[oS]
 intro c hc
 have:=TL.numL_digits n c hc
 have all:∀ k∈List.range 10,48+k∈sS "0123456789":=by decide+kernel
 have:=all (c- 48) (List.mem_range.mpr (by omega))
 rwa[show 48+(c- 48)=c by omega]at this
theorem Iz(n:Nat):n≠0→∀ c t,cO (n:Int)=c::t→c≠48:=by
 rw[oS]
 induction n using Nat.strongRecOn with
 | _ n ih=>
  intro hn c t e
  by_cases h:n<10
  ·rw[TL.numL_lt h]at e
   cases e
   omega
  ·rw[TL.numL_step (by omega)]at e
   cases en:TL.numL (n/10)with
   | nil=>exact absurd en (TL.numL_ne _)
   | cons c' t'=>
    rw[en]at e
    cases e
    exact ih (n/10) (by omega) (by omega) c t' en
theorem DV:cO ((0:Nat):Int)=[48]:=by rw[oS,TL.numL_lt (by decide)]
theorem F9{n:Nat}(h:n<10^60):xc (cO (n:Int))=.ok (n:Int):=by
 have hl:=(gN h).2
 have hl2:(TL.numL n).length≤60:=TL.numL_len (by decide) h
 unfold xc FZ
 have e:(⟨(cO (n:Int)).toArray⟩:Str)=Str.ofString (toString (n:Int)):=by unfold cO;simp
 rw[e,TL.int_num (by omega)]
 dsimp only
 rw[if_pos (by omega)]
theorem str_ok{n:Nat}(h:n<10^60):uM (n:Int)=.ok (cO (n:Int)):=by
 unfold uM
 have:((n:Int)).natAbs.log2<1920:=by
  rw[Int.natAbs_natCast]
  by_cases h0:n=0
  ·subst h0;decide
  ·exact Nat.lt_of_lt_of_le ((Nat.log2_lt h0).mpr (Nat.lt_of_lt_of_le h (show 10^60≤2^200 by decide))) (by decide)
 rw[cB (decide_eq_true this),M.aa]
theorem bF{T:Type}[DecidableEq T](a:T):eqB a a=true:=by unfold eqB;exact decide_eq_true rfl
theorem bA{T:Type}[DecidableEq T]{a b:T}(h:a≠b):eqB a b=false:=by unfold eqB;exact decide_eq_false h
theorem Au{T:Type}(F:Unit→T→M Unit):∀ l:List T,(∀ x∈l,F () x=.ok ())→foldM F () l=.ok ()
 | [],_=>rfl
 | x::l,h=>by rw[cu,h x (by simp),M.aa,Au F l fun y hy=>h y (by simp[hy])]
theorem jU{n:Nat}(h:n<10^60):cy (cO (n:Int))=.ok (n:Int):=by
 obtain⟨l1,l2⟩:=gN h
 unfold cy
 rw[fE (by omega)]
 simp only[M.aa]
 rw[decide_eq_true (by omega)]
 simp only[if_true,M.aa]
 rw[decide_eq_true (by omega)]
 simp only[h9,if_true]
 have h0:(orM ((fu (cO (n:Int)) (0:Int)).bind fun a4=>M.ok (!(eqB a4 (sS "0")))) (M.ok (eqB (cO (n:Int)) (sS "0"))))=.ok true:=by
  have e0:sS "0"=[48]:=by kernel_rfl
  rw[e0]
  cases e:cO (n:Int)with
  | nil=>rw[e]at l1;simp at l1
  | cons c t=>
   have ex:fu (c::t) (0:Int)=.ok [c]:=by
    unfold fu
    rw[cB (decide_eq_true (by rw[←e,zL];omega)),M.aa,show(0:Int)=((0:Nat):Int)from rfl,Vw.atI_nat (by simp)]
    rfl
   rw[ex,M.aa]
   by_cases hn:n=0
   ·have ez:(c::t)=[48]:=by rw[←e,hn];exact DV
    rw[ez]
    cases ez
    rfl
   ·have:=Iz n hn c t e
    rw[bA (by simpa using this)]
    rfl
 rw[h0]
 simp only[M.aa]
 rw[show gU true=.ok ()from rfl,M.aa,Au]
 ·rw[M.aa,F9 h]
  rfl
 ·intro x hx
  unfold chars at hx
  obtain⟨c,hc,e⟩:=List.mem_map.mp hx
  subst e
  rw[jV,decide_eq_true (LN n c hc)]
  rfl
end K34
namespace K34
open PySem L2 PyProof.Rows Vw
theorem rC:sS " "=[32]:=by kernel_rfl
theorem DB:sS "'"=[39]:=by kernel_rfl
theorem JH:sS "''"=[39,39]:=by kernel_rfl
theorem J9:sS ":'"=[58,39]:=by kernel_rfl
theorem Ti:sS ":"=[58]:=by kernel_rfl
theorem xa:sS ""=[]:=by kernel_rfl
theorem Sy:sS " none"=32::sS "none":=by kernel_rfl
def fld(x:List Nat×List Nat):List Nat:=x.1++58::39::(qt x.2++[39])
def iZ(d:Doc):List Nat:=if d=[]then sS "none" else TL.joinL [32] (d.map fld)
def uv:Dd→List Nat
 | .put d=>sS "put"++32::iZ d
 | .change n d=>sS "change"++32::(cO (n:Int)++32::iZ d)
 | .bare w=>w
 | .one w n=>w++32::cO (n:Int)
 | .pour n m=>sS "pour"++32::(cO (n:Int)++32::cO (m:Int))
theorem zk{x:List Nat×List Nat}(h:gm x.1∧x.2.length≤10):(fld x).length≤40:=by
 have h1:=h.1.2.1
 have h2:=yc x.2
 unfold fld
 simp
 omega
theorem CP(a:List Nat):∀ (u:List Nat) (r:Ws),TL.joinL a (u::r)=u++r.flatMap fun w=>a++w
 | u,[]=>by simp[TL.joinL]
 | u,v::r=>by
  rw[TL.joinL,CP a v r,List.flatMap_cons]
  simp
def qu(d:Doc):List Nat:=d.flatMap fun x=>32::fld x
theorem m3(x:List Nat×List Nat)(d:Doc):iZ (x::d)=fld x++qu d:=by
 unfold iZ qu
 rw[if_neg (by simp),List.map_cons,CP,List.flatMap_map]
 rfl
theorem jJ(x:List Nat×List Nat)(d:Doc):qu (x::d)=32::(fld x++qu d):=by
 unfold qu
 rw[List.flatMap_cons]
 simp
theorem FW:∀ d:Doc,(∀ x∈d,gm x.1∧x.2.length≤10)→(qu d).length≤41*d.length
 | [],h=>by simp[qu]
 | x::d,h=>by
  have a:=FW d fun y hy=>h y (by simp[hy])
  have b:=zk (h x (by simp))
  rw[jJ]
  simp
  omega
theorem EG{d:Doc}(h:DocOk d):(iZ d).length≤170:=by
 cases d with
 | nil=>unfold iZ;rw[if_pos rfl];decide+kernel
 | cons x d=>
  have a:=FW d fun y hy=>h.2.1 y (by simp[hy])
  have b:=zk (h.2.1 x (by simp))
  have c:=h.1
  rw[m3]
  simp at c ⊢
  omega
theorem th(t:List Nat):lW (.str t)=.ok t:=rfl
theorem GY(t:Int):uy (.int t)=.ok t:=rfl
theorem Qu{T:Type}{e:T→D}{f:D→M T}(hf:∀ a,f (e a)=.ok a)(l:List T):yL f (eL e l)=.ok l:=by
 show rj f (l.map e)=_
 induction l with
 | nil=>rfl
 | cons a l ih=>rw[List.map_cons,rj,hf,M.aa,ih];rfl
theorem Dx(d:Doc):yL (p5 lW lW) (gX d)=.ok d:=Qu (e:=aP D.str D.str) (fun _=>rfl) d
theorem MR(d:Doc):AW (gX d) ((eL eY) ([]:List D))=.ok (decide (d=[])):=by
 have E:EqE gX _:=qL (Fo qS qS)
 have h1:=E.cmp (by decide) d []
 have h2:=E.eq d []
 show AW (gX d) (gX [])=_
 unfold AW
 rw[if_pos h1,h2]
theorem o6{w:List Nat}(h:w∈zS∨w∈yK):w.length≤5:=by
 have:∀ w∈zS++yK,w.length≤5:=by decide+kernel
 exact this w (List.mem_append.mpr h)
end K34
namespace K34
open PySem L2 PyProof.Rows Vw
def gL:List Nat→List Nat→M (List Nat):=(fun(c75:List Nat) (eZ:List Nat)=>((br c75 eZ).bind fun a77=>(bQ [(sS ""),(sS "'")] (if(eqB eZ (sS "'"))=true then(1:Int)else 0)).bind fun a78=>br a77 a78).bind fun jg=>M.ok jg)
def hL:List Nat→List Nat×(List Nat)→M (List Nat):=(fun(c70:List Nat) (cS:List Nat×List Nat)=>(((br c70 (sS " ")).bind fun a72=>br a72 cS.1).bind fun a73=>br a73 (sS ":'")).bind fun j2=>(foldM gL j2 (chars cS.2)).bind fun r80=>(br r80 (sS "'")).bind fun kr=>M.ok kr)
def lL:List Nat→D→M (List Nat):=(fun(c3:List Nat) (one4:D)=>((((M.ok one4).bind sk).bind fun b5=>if b5=true then(((br c3 (sS " ")).bind fun a45=>((((M.ok one4).bind uy).bind fun a46=>(M.ok ()).bind fun w47=>M.ok (a46,w47)).bind fun z48=>uM z48.1).bind fun a49=>br a45 a49).bind fun nA=>M.ok nA)else((((AW one4 ((eL eY) ([]:List D))).bind fun b51=>if b51=true then((br c3 (sS " none")).bind fun nD=>M.ok nD)else((((M.ok one4).bind (yL (p5 lW lW))).bind fun a69=>foldM hL c3 a69).bind fun r82=>M.ok r82)):M (List Nat)).bind fun j67=>M.ok j67)):M (List Nat)).bind fun j44=>M.ok j44)
theorem Mj(d:D):mO d=((qZ d (0:Int)).bind lW).bind fun tQ=>(((qV d (some (1:Int)) (none:Option Int)).bind mr).bind fun a2=>foldM lL tQ a2).bind fun r83=>M.ok (r83):=rfl
theorem QU{c:List Nat}{s:Nat}(h:c.length≤1000):gL c [s]=.ok (c++(if s=39 then [39,39]else [s])):=by
 unfold gL
 rw[DB,xa,cj (by simp;omega),M.aa]
 by_cases e:s=39
 ·rw[if_pos e,e,bF,if_pos rfl]
  rw[show bQ [([]:List Nat),[39]] (1:Int)=.ok [39]from rfl,M.aa,cj (by simp;omega),M.aa]
  simp
 ·rw[if_neg e,bA (by simpa using e)]
  simp only[Bool.false_eq_true,if_false]
  rw[show bQ [([]:List Nat),[39]] (0:Int)=.ok []from rfl,M.aa,cj (by simp;omega),M.aa]
  simp
theorem FP:∀ (t c:List Nat),c.length+2*t.length≤900→foldM gL c (chars t)=.ok (c++qt t)
 | [],c,h=>by show M.ok c=_;simp[qt]
 | s::t,c,h=>by
  simp only[List.length_cons]at h
  show foldM gL c ([s]::chars t)=_
  rw[cu,QU (by omega),M.aa,FP t _ (by split<;> simp<;> omega),jh]
  simp
theorem Qd{c:List Nat}{x:List Nat×List Nat}(hx:gm x.1∧x.2.length≤10)(h:c.length≤500):hL c x=.ok (c++32::fld x):=by
 have h1:=hx.1.2.1
 have h2:=hx.2
 have h3:=yc x.2
 unfold hL
 rw[rC,J9,DB,cj (by simp;omega),M.aa,cj (by simp;omega),M.aa,cj (by simp;omega),M.aa]
 rw[FP _ _ (by simp;omega),M.aa,cj (by simp;omega),M.aa]
 unfold fld
 simp
theorem FV:∀ (d:Doc) (c:List Nat),(∀ x∈d,gm x.1∧x.2.length≤10)→c.length+41*d.length≤500→foldM hL c d=.ok (c++qu d)
 | [],c,h,hl=>by simp[qu]
 | x::d,c,h,hl=>by
  have hf:=zk (h x (by simp))
  simp only[List.length_cons]at hl
  rw[cu,Qd (h x (by simp)) (by omega),M.aa,FV d _ (fun y hy=>h y (by simp[hy])) (by simp;omega),jJ]
  simp
theorem xV{c:List Nat}{n:Nat}(hn:n<10^60)(h:c.length≤300):lL c (.int (n:Int))=.ok (c++32::cO (n:Int)):=by
 have hl:=(gN hn).2
 unfold lL
 simp only[M.aa,show sk (.int (n:Int))=.ok true from rfl,if_true,GY,str_ok hn]
 rw[rC,cj (by simp;omega),M.aa,cj (by simp;omega),M.aa]
 simp
theorem Hk{c:List Nat}{d:Doc}(hd:DocOk d)(h:c.length≤300):lL c (gX d)=.ok (c++32::iZ d):=by
 unfold lL
 simp only[M.aa,show sk (gX d)=.ok false from rfl,Bool.false_eq_true,if_false,MR]
 by_cases e:d=[]
 ·rw[decide_eq_true e]
  simp only[if_true]
  rw[Sy,cj (by rw[List.length_cons];have:(sS "none").length=4:=(by decide+kernel);omega)]
  simp only[M.aa]
  unfold iZ
  rw[if_pos e]
 ·rw[decide_eq_false e]
  simp only[Bool.false_eq_true,if_false]
  rw[Dx,M.aa,FV d c hd.2.1 (by have:=hd.1;omega)]
  simp only[M.aa]
  cases d with
  | nil=>exact absurd rfl e
  | cons x d=>rw[m3,jJ]
theorem MQ{q:Dd}(h:uP q):mO (cG q)=.ok (uv q):=by
 rw[Mj]
 cases q with
 | put d=>
  have h0:qZ (cG (.put d)) (0:Int)=.ok (.str (sS "put")):=rfl
  have h1:qV (cG (.put d)) (some (1:Int)) none=.ok (.tup [gX d]):=rfl
  have h3:(sS "put").length=3:=by decide+kernel
  rw[h0,h1]
  simp only[M.aa,th,mr]
  rw[cu,Hk h (by omega),M.aa,iq,M.aa]
  rfl
 | change n d=>
  obtain⟨hn,hd⟩:=h
  have h0:qZ (cG (.change n d)) (0:Int)=.ok (.str (sS "change")):=rfl
  have h1:qV (cG (.change n d)) (some (1:Int)) none=.ok (.tup [.int n,gX d]):=rfl
  have h3:(sS "change").length=6:=by decide+kernel
  have hl:=(gN hn).2
  rw[h0,h1]
  simp only[M.aa,th,mr]
  rw[cu,xV hn (by omega),M.aa,cu,Hk hd (by simp;omega),M.aa,iq,M.aa]
  show M.ok _=M.ok (sS "change"++32::(cO (n:Int)++32::iZ d))
  simp
 | bare w=>
  have h0:qZ (cG (.bare w)) (0:Int)=.ok (.str w):=rfl
  have h1:qV (cG (.bare w)) (some (1:Int)) none=.ok (.tup []):=rfl
  rw[h0,h1]
  rfl
 | one w n=>
  obtain⟨hw,hn⟩:=h
  have h0:qZ (cG (.one w n)) (0:Int)=.ok (.str w):=rfl
  have h1:qV (cG (.one w n)) (some (1:Int)) none=.ok (.tup [.int n]):=rfl
  have hw:=o6 (.inr hw)
  rw[h0,h1]
  simp only[M.aa,th,mr]
  rw[cu,xV hn (by omega),M.aa,iq,M.aa]
  rfl
 | pour n m=>
  obtain⟨hn,hm⟩:=h
  have h0:qZ (cG (.pour n m)) (0:Int)=.ok (.str (sS "pour")):=rfl
  have h1:qV (cG (.pour n m)) (some (1:Int)) none=.ok (.tup [.int n,.int m]):=rfl
  have h3:(sS "pour").length=4:=by decide+kernel
  have hl:=(gN hn).2
  rw[h0,h1]
  simp only[M.aa,th,mr]
  rw[cu,xV hn (by omega),M.aa,cu,xV hm (by simp;omega),M.aa,iq,M.aa]
  show M.ok _=M.ok (sS "pour"++32::(cO (n:Int)++32::cO (m:Int)))
  simp
end K34
namespace K34
open PySem L2 PyProof.Rows Vw
def rs(P X:List Nat):List Nat×Int:=(P++X,(P.length:Int))
theorem tK{P X:List Nat}{k:Nat}(h:P.length+X.length≤100000):aC (rs P X) (k:Int)=.ok (X.take k):=by
 unfold aC rs
 dsimp only
 rw[nk (by simp;omega),M.aa]
 rw[show(P.length:Int)+(k:Int)=((P.length+k:Nat):Int)from(Int.natCast_add ..).symm,sU,Nat.add_sub_cancel_left,List.drop_left]
theorem Dk{P X:List Nat}(h:P.length+X.length≤100000):aC (rs P X) (1:Int)=.ok (X.take 1):=tK (k:=1) h
theorem OR{P X:List Nat}(h:P.length+X.length≤100000):aC (rs P X) (2:Int)=.ok (X.take 2):=tK (k:=2) h
theorem pU:gU true=.ok ():=rfl
theorem xY{P t Y:List Nat}(h:P.length+(t++Y).length≤100000):aT (rs P (t++Y)) t=.ok ((),rs (P++t) Y):=by
 have hl:(t++Y).length=t.length+Y.length:=by simp
 unfold aT
 rw[fE (by omega)]
 simp only[M.aa]
 rw[tK h,d6,M.aa,List.take_left,bF]
 simp only[M.aa]
 rw[pU]
 simp only[M.aa]
 unfold rs
 simp
theorem DC{S:List Nat}:∀ (w P Y:List Nat) (n:Nat),(∀ c∈w,c∈S)→(∀ c,Y.head? =some c→c∉S)→w.length<n→P.length+w.length+Y.length≤100000→
  qQ (fun(c1:List Nat×Int)=>andM ((gx c1.1).bind fun a2=>M.ok (decide (c1.2<a2))) ((fu c1.1 c1.2).bind fun a3=>M.ok (subIn a3 S))) (fun(c1:List Nat×Int)=>((M.ok (1:Int)).bind fun a4=>M.ok (c1.1,(c1.2+a4))).bind fun d5=>M.ok d5) n (rs P (w++Y))=.ok (rs (P++w) Y)
 | [],P,Y,0,h1,h2,h3,h4=>by omega
 | [],P,Y,n+1,h1,h2,h3,h4=>by
  rw[List.append_nil]
  refine vJ ?_
  unfold rs
  dsimp only[List.nil_append]
  rw[fE (by simp at h4 ⊢;omega)]
  simp only[M.aa]
  cases Y with
  | nil=>
   rw[decide_eq_false (by simp)]
   rfl
  | cons c Y=>
   rw[decide_eq_true (by simp;omega)]
   simp only[h9,if_true]
   unfold fu
   rw[cB (decide_eq_true (by simp at h4 ⊢;rw[zL];omega)),M.aa,Vw.atI_nat (by simp)]
   simp only[List.getElem_append_right,Nat.le_refl,Nat.sub_self,List.getElem_cons_zero,M.aa]
   rw[jV,decide_eq_false (h2 c rfl)]
 | c::w,P,Y,0,h1,h2,h3,h4=>by omega
 | c::w,P,Y,n+1,h1,h2,h3,h4=>by
  have hl:P.length+(c::w++Y).length≤100000:=by simp at h4 ⊢;omega
  rw[pw (c':=rs (P++[c]) (w++Y)) ?_ ?_]
  ·rw[DC w (P++[c]) Y n (fun x hx=>h1 x (by simp[hx])) h2 (by simpa using h3) (by simp at h4 ⊢;omega)]
   rw[List.append_assoc]
   rfl
  ·unfold rs
   dsimp only
   rw[fE (by simp at hl ⊢;omega)]
   simp only[M.aa]
   rw[decide_eq_true (by simp;omega)]
   simp only[h9,if_true]
   unfold fu
   rw[cB (decide_eq_true (by simp at hl ⊢;rw[zL];omega)),M.aa,Vw.atI_nat (by simp)]
   simp only[List.cons_append,List.getElem_append_right,Nat.le_refl,Nat.sub_self,List.getElem_cons_zero,M.aa]
   rw[jV,decide_eq_true (h1 c (by simp))]
  ·simp only[M.aa]
   unfold rs
   simp
theorem Mz{P w Y:List Nat}(h1:∀ c∈w,c∈dY)(h2:∀ c,Y.head? =some c→c∉dY)(h:P.length+(w++Y).length≤90000):cP (rs P (w++Y))=.ok (w,rs (P++w) Y):=by
 have hl:(w++Y).length=w.length+Y.length:=by simp
 unfold cP
 rw[show sS "abcdefghijklmnopqrstuvwxyz"=dY from rfl,DC w P Y ef h1 h2 (by unfold ef;omega) (by omega),M.aa]
 unfold rs
 dsimp only
 rw[nk (by simp;omega),M.aa,sU]
 rw[show(P++w).length-P.length=w.length by simp,List.append_assoc,List.drop_left,List.take_left]
abbrev NL:Exn:=⟨"NoLine",none⟩
theorem vh:gU false=.exc NL:=rfl
theorem uT{P l t:List Nat}(h:P.length+l.length≤100000)(ht:t.length≤10)(hne:l.take t.length≠t):aT (rs P l) t=.exc NL:=by
 unfold aT
 rw[fE (by omega)]
 simp only[M.aa]
 rw[tK h,d6,M.aa,bA hne]
 simp only[M.aa]
 rw[vh]
 rfl
def tT:List Nat→Option (List Nat×List Nat)
 | []=>none
 | [c]=>if c=39 then some ([],[])else none
 | c::d::l=>if c=39 then(if d=39 then(tT l).map fun r=>(39::r.1,r.2)else some ([],d::l))else(tT (d::l)).map fun r=>(c::r.1,r.2)
theorem Ca:∀ (l t r:List Nat),tT l=some (t,r)→l=qt t++39::r
 | [],t,r,h=>by simp[tT]at h
 | [c],t,r,h=>by
  unfold tT at h
  split at h
  ·rename_i hc
   cases h
   subst hc
   rfl
  ·cases h
 | c::d::l,t,r,h=>by
  unfold tT at h
  split at h
  ·rename_i hc
   split at h
   ·rename_i hd
    cases e:tT l with
    | none=>rw[e]at h;cases h
    | some u=>
     rw[e]at h
     cases h
     rw[jh,if_pos rfl,Ca l u.1 u.2 (by rw[e])]
     subst hc hd
     simp
   ·cases h
    subst hc
    rfl
  ·rename_i hc
   cases e:tT (d::l)with
   | none=>rw[e]at h;cases h
   | some u=>
    rw[e]at h
    cases h
    rw[jh,if_neg hc,List.append_assoc,←Ca (d::l) u.1 u.2 (by rw[e])]
    rfl
theorem Pq{d:Nat}{l:List Nat}(hd:d≠39):tT (39::d::l)=some ([],d::l):=by
 unfold tT
 rw[if_pos rfl,if_neg hd]
theorem Lg{l:List Nat}:tT (39::39::l)=(tT l).map fun r=>(39::r.1,r.2):=by
 conv=>lhs;unfold tT
 rw[if_pos rfl,if_pos rfl]
theorem Pu{c:Nat}{l:List Nat}(hc:c≠39):tT (c::l)=(tT l).map fun r=>(c::r.1,r.2):=by
 cases l with
 | nil=>simp[tT,hc]
 | cons d l=>
  conv=>lhs;unfold tT
  rw[if_neg hc]
def KO:(List (List Nat))×(List Nat×Int)→M Bool:=(fun(c2:(List (List Nat))×(List Nat×Int))=>orM ((nox (aC c2.2 (1:Int))).bind fun a3=>M.ok (!(eqB a3 [39]))) ((nox (aC c2.2 (2:Int))).bind fun a4=>M.ok (eqB a4 [39,39])))
def Ht:(List (List Nat))×(List Nat×Int)→M ((List (List Nat))×(List Nat×Int)):=(fun(c2:(List (List Nat))×(List Nat×Int))=>((((nox (aC c2.2 (1:Int))).bind fun a5=>M.ok (!(eqB a5 []))).bind fun a6=>M.ok (a6,())).bind fun z8=>gU z8.1).bind fun u9=>(((nox (aC c2.2 (1:Int))).bind fun a10=>M.ok (a10,())).bind fun z12=>iy c2.1 z12.1).bind fun ka=>((((((nox (aC c2.2 (1:Int))).bind fun a14=>M.ok (eqB a14 [39])).bind fun a15=>M.ok (a15,())).bind fun z17=>M.ok (if z17.1=true then(1:Int)else 0)).bind fun a18=>M.ok ((1:Int)+a18)).bind fun a19=>M.ok (c2.2.1,(c2.2.2+a19))).bind fun d20=>M.ok (ka,d20))
theorem mW{acc:Ws}{P l:List Nat}(h:P.length+l.length≤100000):KO (acc,rs P l)=.ok (decide (l.take 1≠[39]∨l.take 2=[39,39])):=by
 unfold KO
 dsimp only
 rw[Dk h,OR h]
 simp only[d6,M.aa]
 by_cases h1:l.take 1=[39]
 ·rw[h1,bF,Bool.not_true,uX]
  by_cases h2:l.take 2=[39,39]
  ·rw[h2,bF];rfl
  ·rw[bA h2];simp[h2]
 ·rw[bA h1,decide_eq_true (.inl h1)]
  rfl
theorem C9{acc:Ws}{P l:List Nat}{c:Nat}(h:P.length+(c::l).length≤100000)(ha:acc.length≤100000):Ht (acc,rs P (c::l))=.ok (acc++[[c]],((P++c::l),((P.length+(if c=39 then 2 else 1):Nat):Int))):=by
 unfold Ht
 dsimp only
 rw[Dk h]
 simp only[d6,M.aa]
 rw[show(c::l).take 1=[c]from rfl,bA (a:=[c]) (b:=[]) (by simp),Bool.not_false,pU]
 simp only[M.aa]
 rw[iI (by omega)]
 simp only[M.aa]
 by_cases hc:c=39
 ·subst hc
  rw[bF]
  unfold rs
  simp
 ·rw[bA (a:=[c]) (b:=[39]) (by simpa using hc),if_neg hc]
  unfold rs
  simp
theorem tm:∀ (l:List Nat) (acc:Ws) (P:List Nat) (n:Nat),l.length<n→P.length+l.length≤90000→acc.length+l.length≤90000→
  qQ KO Ht n (acc,rs P l)=match tT l with
   | some r=>.ok (acc++r.1.map (fun c=>[c]),rs (P++qt r.1) (39::r.2))
   | none=>.exc NL
 | l,acc,P,0,h1,h2,h3=>by omega
 | [],acc,P,n+1,h1,h2,h3=>by
  refine zY ?_ ?_
  ·rw[mW (by simpa using by omega)]
   rfl
  ·unfold Ht
   dsimp only
   rw[Dk (by simpa using by omega)]
   simp only[d6,M.aa]
   rfl
 | [c],acc,P,n+1,h1,h2,h3=>by
  simp only[List.length_cons,List.length_nil]at h1 h2 h3
  by_cases hc:c=39
  ·subst hc
   have e:tT [39]=some ([],[]):=rfl
   rw[e]
   dsimp only
   rw[show qt []=[]from rfl,List.map_nil,List.append_nil,List.append_nil]
   refine vJ ?_
   rw[mW (by simp only[List.length_cons,List.length_nil];omega)]
   rfl
  ·have e:tT [c]=none:=by unfold tT;rw[if_neg hc]
   rw[e]
   rw[pw (c':=(acc++[[c]],rs (P++[c]) [])) ?_ ?_]
   ·rw[tm [] (acc++[[c]]) (P++[c]) n (by simp;omega) (by simp;omega) (by simp;omega)]
    rfl
   ·rw[mW (by simp only[List.length_cons,List.length_nil];omega),decide_eq_true (.inl (by simpa using hc))]
   ·rw[C9 (by simp only[List.length_cons,List.length_nil];omega) (by omega),if_neg hc]
    unfold rs
    simp
 | c::d::l,acc,P,n+1,h1,h2,h3=>by
  simp only[List.length_cons]at h1 h2 h3
  by_cases hc:c=39
  ·subst hc
   by_cases hd:d=39
   ·subst hd
    rw[pw (c':=(acc++[[39]],rs (P++[39,39]) l)) ?_ ?_]
    ·rw[tm l (acc++[[39]]) (P++[39,39]) n (by omega) (by simp;omega) (by simp;omega),Lg]
     cases tT l with
     | none=>rfl
     | some r=>simp[jh]
    ·rw[mW (by simp only[List.length_cons];omega)]
     rfl
    ·rw[C9 (by simp only[List.length_cons];omega) (by omega),if_pos rfl]
     unfold rs
     simp
   ·rw[Pq hd]
    dsimp only
    rw[show qt []=[]from rfl,List.map_nil,List.append_nil,List.append_nil]
    refine vJ ?_
    rw[mW (by simp only[List.length_cons];omega),decide_eq_false]
    simp[hd]
  ·rw[pw (c':=(acc++[[c]],rs (P++[c]) (d::l))) ?_ ?_]
   ·rw[tm (d::l) (acc++[[c]]) (P++[c]) n (by simp only[List.length_cons];omega) (by simp;omega) (by simp;omega),Pu hc]
    cases tT (d::l)with
    | none=>rfl
    | some r=>simp[jh,hc]
   ·rw[mW (by simp only[List.length_cons];omega),decide_eq_true (.inl (by simpa using hc))]
   ·rw[C9 (by simp only[List.length_cons];omega) (by omega),if_neg hc]
    unfold rs
    simp
theorem Hx(t:List Nat):(t.map fun c=>[c]).flatten=t:=by
 induction t with
 | nil=>rfl
 | cons c t ih=>rw[List.map_cons,List.flatten_cons,ih];rfl
theorem Jm(t:List Nat):((t.map fun c=>[c]).map (·.length)).sum=t.length:=by
 induction t with
 | nil=>rfl
 | cons c t ih=>simp only[List.map_cons,List.sum_cons,ih,List.length_cons,List.length_nil];omega
theorem GW:∀ t:List Nat,t.length≤(qt t).length
 | []=>by simp
 | c::t=>by
  have:=GW t
  rw[jh]
  split<;> simp<;> omega
def qT(l:List Nat):Option (List Nat×List Nat):=match l with
 | []=>none
 | c::l=>if c=39 then tT l else none
theorem Ol(l:List Nat):qT (39::l)=tT l:=rfl
theorem La{c:Nat}{l:List Nat}(h:c≠39):qT (c::l)=none:=by
 unfold qT
 simp[h]
theorem NA{P l:List Nat}(h:P.length+l.length≤80000):cN (rs P l)=match qT l with
  | some r=>.ok (r.1,rs (P++39::(qt r.1++[39])) r.2)
  | none=>.exc NL:=by
 unfold cN
 rw[DB,JH,xa]
 cases l with
 | nil=>rw[uT (by omega) (by simp) (by simp)];rfl
 | cons c l=>
  by_cases hc:c=39
  ·subst hc
   simp only[List.length_cons]at h
   obtain⟨Q,eQ⟩:∃ Q,Q=qT (39::l):=⟨_,rfl⟩
   rw[←eQ,show 39::l=[39]++l from rfl,xY (by simp;omega)]
   rw[Ol]at eQ
   subst eQ
   simp only[M.aa]
   have hr:=tm l [] (P++[39]) ef (by unfold ef;omega) (by simp;omega) (by simp;omega)
   unfold KO Ht at hr
   rw[hr]
   cases e:tT l with
   | none=>rfl
   | some r=>
    have el:=Ca l r.1 r.2 (by rw[e])
    have hl:=congrArg List.length el
    simp only[List.length_append,List.length_cons]at hl
    have hq:r.1.length≤(qt r.1).length:=GW r.1
    simp only[M.aa]
    rw[show(39::r.2)=[39]++r.2 from rfl,xY (by simp;omega)]
    simp only[M.aa,List.nil_append]
    unfold joinM
    rw[cB (decide_eq_true (by rw[Jm];simp;omega)),M.aa,AB,Hx]
    simp
  ·rw[uT (by omega) (by simp) (by simpa using hc),La hc]
   rfl
theorem Es:∀ (l:List Nat) (c:Nat),c∈l.takeWhile (· ∈dY)→c∈dY
 | [],c,h=>by simp at h
 | x::l,c,h=>by
  rw[List.takeWhile_cons]at h
  split at h
  ·rename_i hx
   rcases List.mem_cons.mp h with e | e
   ·rw[e];simpa using hx
   ·exact Es l c e
  ·simp at h
def fP(l:List Nat):Option ((List Nat×List Nat)×List Nat):=
 match l.dropWhile (· ∈dY)with
 | c::d::r=>if c=58∧d=39 then(tT r).map fun u=>((l.takeWhile (· ∈dY),u.1),u.2)else none
 | _=>none
theorem oA{l:List Nat}{x:List Nat×List Nat}{r:List Nat}(h:fP l=some (x,r)):l=fld x++r∧∀ c∈x.1,c∈dY:=by
 unfold fP at h
 have hw:∀ c∈l.takeWhile (· ∈dY),c∈dY:=fun c hc=>Es l c hc
 have hs:l.takeWhile (· ∈dY)++l.dropWhile (· ∈dY)=l:=List.takeWhile_append_dropWhile
 generalize l.takeWhile (· ∈dY)=w at hw hs h
 generalize l.dropWhile (· ∈dY)=Y at hs h
 split at h
 ·rename_i c d r'
  split at h
  ·rename_i hc
   obtain⟨rfl,rfl⟩:=hc
   obtain⟨u,e2,h⟩:=Option.map_eq_some_iff.mp h
   ·cases h
    refine⟨?_,hw⟩
    have e3:=Ca _ u.1 u.2 e2
    rw[e3]at hs
    rw[←hs]
    unfold fld
    simp
  ·cases h
 ·cases h
theorem FN{P l:List Nat}(h:P.length+l.length≤70000):bo (rs P l)=match fP l with
  | some r=>.ok (r.1,rs (P++fld r.1) r.2)
  | none=>.exc NL:=by
 have hw:∀ c∈l.takeWhile (· ∈dY),c∈dY:=fun c hc=>Es l c hc
 have hs:l.takeWhile (· ∈dY)++l.dropWhile (· ∈dY)=l:=List.takeWhile_append_dropWhile
 have hh:∀ c,(l.dropWhile (· ∈dY)).head? =some c→c∉dY:=fun c hc=>by
  have:=List.head?_dropWhile_not (fun c=>decide (c∈dY)) l
  rw[hc]at this
  simpa using this
 unfold fP
 generalize l.takeWhile (· ∈dY)=w at hw hs ⊢
 generalize l.dropWhile (· ∈dY)=Y at hs hh ⊢
 subst hs
 have hl:(w++Y).length=w.length+Y.length:=by simp
 unfold bo
 rw[Ti,Mz hw hh (by omega),d6]
 simp only[M.aa]
 cases Y with
 | nil=>rw[uT (by simp only[List.length_append,List.length_nil]at hl h ⊢;omega) (by simp) (by simp)];rfl
 | cons c Y=>
  by_cases hc:c=58
  ·subst hc
   simp only[List.length_cons]at hl
   rw[show 58::Y=[58]++Y from rfl,xY (by simp;omega)]
   simp only[M.aa]
   rw[NA (by simp;omega)]
   cases Y with
   | nil=>rfl
   | cons d Y=>
    dsimp only[List.singleton_append]
    by_cases hd:d=39
    ·subst hd
     rw[Ol,if_pos ⟨rfl,rfl⟩]
     cases tT Y with
     | none=>rfl
     | some u=>
      simp only[M.aa,Option.map]
      unfold fld
      simp
    ·rw[La hd,if_neg (fun z=>hd z.2)]
     rfl
  ·rw[uT (by simp only[List.length_append,List.length_cons]at hl h ⊢;omega) (by simp) (by simpa using hc)]
   cases Y with
   | nil=>rfl
   | cons d Y=>dsimp only;rw[if_neg (fun z=>hc z.1)];rfl
end K34
namespace K34
open PySem L2 PyProof.Rows Vw
theorem Hh{n d:Nat}(hn:0<n)(hd:d<10):TL.numL (10*n+d)=TL.numL n++[48+d]:=by
 rw[TL.numL_step (by omega),show(10*n+d)/10=n by omega,show(10*n+d)%10=d by omega]
def uR:List Nat:=sS "0123456789"
theorem Mu(c:Nat):c∈uR↔48≤c∧c≤57:=by
 have:uR=[48,49,50,51,52,53,54,55,56,57]:=by kernel_rfl
 rw[this]
 simp only[List.mem_cons,List.not_mem_nil,or_false]
 omega
theorem HM:∀ (k:Nat) (w:List Nat),w.length=k→w≠[]→(∀ c∈w,c∈uR)→w.head? ≠some 48→∃ n,0<n∧w=TL.numL n
 | 0,w,hk,h0,_,_=>absurd (List.length_eq_zero_iff.mp hk) h0
 | k+1,w,hk,h0,h1,h2=>by
  have e:=(List.dropLast_concat_getLast h0).symm
  have hl:=h1 (w.getLast h0) (List.getLast_mem h0)
  rw[Mu]at hl
  generalize w.getLast h0=c at e hl
  generalize hv:w.dropLast=v at e
  subst e
  cases hvn:v with
  | nil=>
   subst hvn
   refine⟨c- 48,?_,?_⟩
   ·have:c≠48:=fun z=>h2 (by simp[z])
    omega
   ·rw[TL.numL_lt (by omega)]
    simp only[List.nil_append,List.cons.injEq,and_true]
    omega
  | cons a v'=>
   obtain⟨n,hn,en⟩:=HM k v (by simp at hk;omega) (by rw[hvn];simp) (fun x hx=>h1 x (by simp[hx])) (by rw[hvn]at h2 ⊢;simpa using h2)
   refine⟨10*n+(c- 48),by omega,?_⟩
   rw[Hh hn (by omega),←en,←hvn,show 48+(c- 48)=c by omega]
theorem ND{w:List Nat}(h0:w≠[])(h1:∀ c∈w,c∈uR)(h2:w=[48]∨w.head? ≠some 48):∃ n:Nat,w=cO (n:Int):=by
 rcases h2 with h2 | h2
 ·exact⟨0,by rw[h2,DV]⟩
 ·obtain⟨n,_,e⟩:=HM w.length w rfl h0 h1 h2
  exact⟨n,by rw[oS,e]⟩
theorem Ov:∀ (n:Nat),n<10^(TL.numL n).length:=fun n=>by
 induction n using Nat.strongRecOn with
 | _ n ih=>
  by_cases h:n<10
  ·rw[TL.numL_lt h]
   simpa using h
  ·rw[TL.numL_step (by omega),List.length_append,List.length_singleton,Nat.pow_succ]
   have:=ih (n/10) (by omega)
   omega
theorem MZ:sS "0"=[48]:=by kernel_rfl
def rT(t:List Nat):Prop:=t≠[]∧t.length≤60∧(t=[48]∨t.head? ≠some 48)∧∀ c∈t,c∈uR
theorem Hm{t:List Nat}(h:rT t):∃ n:Nat,n<10^60∧t=cO (n:Int):=by
 obtain⟨n,e⟩:=ND h.1 h.2.2.2 h.2.2.1
 refine⟨n,?_,e⟩
 have h1:=Ov n
 have h2:=h.2.1
 rw[e,oS]at h2
 exact Nat.lt_of_lt_of_le h1 (Nat.pow_le_pow_right (by decide) h2)
theorem N6{c:Nat}{t:List Nat}(h:(c::t).length≤60000):fu (c::t) (0:Int)=.ok [c]:=by
 unfold fu
 rw[cB (decide_eq_true (by rw[zL];omega)),M.aa,show(0:Int)=((0:Nat):Int)from rfl,Vw.atI_nat (by simp)]
 rfl
theorem DR(F:Unit→List Nat→M Unit)(p:Nat→Prop)(h0:∀ c,p c→F () [c]=.ok ())(h1:∀ c,¬ p c→F () [c]=.exc NL):∀ t:List Nat,¬ (∀ c∈t,p c)→foldM F () (chars t)=.exc NL
 | [],h=>absurd (fun c hc=>by cases hc) h
 | c::t,h=>by
  show foldM F () ([c]::chars t)=_
  rw[cu]
  by_cases hc:p c
  ·rw[h0 c hc,M.aa]
   exact DR F p h0 h1 t fun z=>h fun x hx=>by
    rcases List.mem_cons.mp hx with e | e
    ·rw[e];exact hc
    ·exact z x e
  ·rw[h1 c hc];rfl
theorem u4{t:List Nat}(hl:t.length≤60000)(h:¬ rT t):cy t=.exc NL:=by
 unfold cy
 rw[fE (by omega),MZ]
 simp only[M.aa]
 cases t with
 | nil=>rfl
 | cons c t=>
  rw[decide_eq_true (by simp)]
  simp only[if_true,M.aa]
  by_cases h1:(c::t).length≤60
  ·rw[decide_eq_true (by omega)]
   simp only[h9,if_true]
   rw[N6 hl]
   simp only[M.aa]
   by_cases h2:(c::t)=[48]∨(c::t).head? ≠some 48
   ·have e:(orM (M.ok (!eqB [c] [48])) (M.ok (eqB (c::t) [48])))=.ok true:=by
     rcases h2 with h2 | h2
     ·rw[h2];cases h2;rfl
     ·rw[bA (by intro z;apply h2;cases z;rfl)];rfl
    rw[e]
    simp only[M.aa]
    rw[pU,M.aa]
    rw[DR _ (fun c=>c∈uR) (fun c hc=>by rw[jV,decide_eq_true (show c∈sS "0123456789" from hc)];rfl) (fun c hc=>by rw[jV,decide_eq_false (show ¬ c∈sS "0123456789" from hc)];rfl) (c::t) (fun z=>h ⟨by simp,h1,h2,z⟩)]
    rfl
   ·have e:(orM (M.ok (!eqB [c] [48])) (M.ok (eqB (c::t) [48])))=.ok false:=by
     have ha:(c::t)≠[48]:=fun z=>h2 (.inl z)
     have hb:c=48:=by
      by_cases q:c=48
      ·exact q
      ·exact absurd (.inr (by simpa using q)) h2
     subst hb
     rw[bF,bA ha]
     rfl
    rw[e]
    rfl
  ·rw[decide_eq_false (by omega)]
   rfl
instance (u:List Nat):Decidable (gm u):=by unfold gm;infer_instance
def iB:Nat→List Nat→Option Doc
 | 0,_=>none
 | n+1,[]=>some []
 | n+1,c::r=>if c=32 then(match fP r with | none=>none | some u=>(iB n u.2).map (u.1:: ·))else none
def jX:List Nat→Doc→Bool
 | _,[]=>true
 | c,x::d=>decide (gm x.1)&&eG c x.1&&jX x.1 d
def vG(l:List Nat):Option Doc:=match fP l with
 | none=>none
 | some u=>(iB (l.length+1) u.2).map (u.1:: ·)
def kf(l:List Nat):Option Doc:=if l=sS "none" then some []else match vG l with
 | none=>none
 | some d=>if jX [] d=true then some d else none
theorem pK(x:List Nat×List Nat):x.1.length+x.2.length+3≤(fld x).length:=by
 have:=GW x.2
 unfold fld
 simp only[List.length_append,List.length_cons,List.length_nil]
 omega
theorem yW{l:List Nat}{u:(List Nat×List Nat)×List Nat}(h:fP l=some u):(fld u.1).length+u.2.length=l.length:=by
 have:=(oA h).1
 have:=congrArg List.length this
 simp only[List.length_append]at this
 omega
theorem rest_eq:∀ (n:Nat) (l:List Nat) (d:Doc),iB n l=some d→l=qu d∧∀ x∈d,∀ c∈x.1,c∈dY
 | 0,l,d,h=>by cases h
 | n+1,[],d,h=>by cases h;exact⟨rfl,fun x hx=>by cases hx⟩
 | n+1,c::r,d,h=>by
  unfold iB at h
  split at h
  ·rename_i hc
   split at h
   ·cases h
   ·rename_i u e
    obtain⟨d',e2,rfl⟩:=Option.map_eq_some_iff.mp h
    obtain⟨h1,h2⟩:=rest_eq n u.2 d' e2
    obtain⟨h3,h4⟩:=oA (x:=u.1) (r:=u.2) (by rw[e])
    refine⟨by rw[jJ,hc,←h1,←h3],fun x hx=>?_⟩
    rcases List.mem_cons.mp hx with q | q
    ·rw[q];exact h4
    ·exact h2 x q
  ·cases h
theorem LW{l:List Nat}{d:Doc}(h:vG l=some d):d≠[]∧l=iZ d:=by
 unfold vG at h
 split at h
 ·cases h
 ·rename_i u e
  obtain⟨d',e2,rfl⟩:=Option.map_eq_some_iff.mp h
  refine⟨by simp,?_⟩
  rw[m3,←(rest_eq _ _ _ e2).1]
  exact(oA (x:=u.1) (r:=u.2) (by rw[e])).1
theorem Jb{l:List Nat}{d:Doc}(h:kf l=some d):l=iZ d∧jX [] d=true:=by
 unfold kf at h
 split at h
 ·rename_i e
  cases h
  exact⟨e,rfl⟩
 ·split at h
  ·cases h
  ·rename_i d' e
   split at h
   ·rename_i hc
    cases h
    exact⟨(LW e).2,hc⟩
   ·cases h
theorem FF{T:List Nat}(hT:T.length≤60000):∀ (n:Nat) (l:List Nat) (acc:Doc) (P:List Nat) (m:Nat),l.length<n→n≤m→P.length+l.length=T.length→acc.length+l.length≤60000→
  qQ (fun(c6:(List (List Nat×List Nat))×(List Nat×Int))=>(gx T).bind fun a7=>M.ok (decide (c6.2.2<a7))) (fun(c6:(List (List Nat×List Nat))×(List Nat×Int))=>(aT c6.2 [32]).bind fun u8=>(((bo u8.2).bind fun a9=>M.ok (a9,())).bind fun z11=>(iy c6.1 z11.1.1).bind fun v=>M.ok (v,z11.1.2)).bind fun iV=>M.ok (iV.1,iV.2)) m (acc,rs P l)=match iB n l with
   | some d=>.ok (acc++d,rs (P++l) [])
   | none=>.exc NL
 | 0,l,acc,P,m,h1,h2,h3,h4=>by omega
 | n+1,l,acc,P,0,h1,h2,h3,h4=>by omega
 | n+1,[],acc,P,m+1,h1,h2,h3,h4=>by
  have e:iB (n+1) []=some []:=rfl
  rw[e]
  dsimp only
  rw[List.append_nil,List.append_nil]
  refine vJ ?_
  rw[fE (by omega),M.aa,decide_eq_false (by unfold rs;simp at h3 ⊢;omega)]
 | n+1,c::r,acc,P,m+1,h1,h2,h3,h4=>by
  simp only[List.length_cons]at h1 h3 h4
  have ht:((gx T).bind fun a7=>M.ok (decide ((rs P (c::r)).2<a7)))=.ok true:=by
   rw[fE (by omega),M.aa,decide_eq_true (by unfold rs;dsimp only;omega)]
  unfold iB
  by_cases hc:c=32
  ·subst hc
   rw[if_pos rfl]
   have hb:aT (rs P (32::r)) [32]=.ok ((),rs (P++[32]) r):=by
    rw[show(32::r)=[32]++r from rfl,xY (by simp;omega)]
   have hf:=FN (P:=P++[32]) (l:=r) (by simp;omega)
   cases e:fP r with
   | none=>
    rw[e]at hf
    refine zY ht ?_
    dsimp only
    rw[hb]
    simp only[M.aa]
    rw[hf]
    rfl
   | some u=>
    rw[e]at hf
    have hl:=yW e
    have hg:=pK u.1
    have hq:=(oA (x:=u.1) (r:=u.2) (by rw[e])).1
    dsimp only
    rw[pw (c':=(acc++[u.1],rs (P++[32]++fld u.1) u.2)) ht ?_]
    ·rw[FF hT n u.2 (acc++[u.1]) (P++[32]++fld u.1) m (by omega) (by omega) (by simp;omega) (by simp;omega)]
     cases iB n u.2 with
     | none=>rfl
     | some d=>
      simp only[Option.map]
      rw[hq]
      simp
    ·dsimp only
     rw[hb]
     simp only[M.aa]
     rw[hf]
     simp only[M.aa]
     rw[iI (by omega)]
     simp only[M.aa]
  ·rw[if_neg hc]
   refine zY ht ?_
   dsimp only
   rw[uT (by simp;omega) (by simp) (by simpa using hc)]
   rfl
theorem Az{u:List Nat}(hl:u.length≤60000):kN u=.ok (decide (gm u)):=by
 unfold kN
 rw[fE (by omega)]
 simp only[M.aa]
 by_cases h1:1≤u.length
 ·rw[decide_eq_true (by omega)]
  simp only[if_true,M.aa]
  by_cases h2:u.length≤12
  ·rw[decide_eq_true (by omega)]
   simp only[h9,if_true]
   have hc:(chars u).length=u.length:=by unfold chars;simp
   rw[AD (F:=fun s=>subIn s (sS "abcdefghijklmnopqrstuvwxyz")) (fun _ _=>rfl) (fun _ _=>rfl) (by omega)]
   simp only[M.aa]
   congr 1
   rw[Bool.eq_iff_iff]
   simp only[List.all_eq_true,decide_eq_true_eq]
   constructor
   ·intro h
    refine⟨h1,h2,fun c hc=>?_⟩
    have:=h (subIn [c] (sS "abcdefghijklmnopqrstuvwxyz")) (List.mem_map.mpr ⟨[c],by unfold chars;exact List.mem_map.mpr ⟨c,hc,rfl⟩,rfl⟩)
    rw[jV]at this
    exact of_decide_eq_true this
   ·intro h b hb
    obtain⟨x,hx,rfl⟩:=List.mem_map.mp hb
    unfold chars at hx
    obtain⟨c,hc,rfl⟩:=List.mem_map.mp hx
    rw[jV]
    exact decide_eq_true (h.2.2 c hc)
  ·rw[decide_eq_false (by omega),decide_eq_false (show ¬ gm u from fun z=>h2 z.2.1)]
   rfl
 ·rw[decide_eq_false (by omega),decide_eq_false (show ¬ gm u from fun z=>h1 z.1)]
  rfl
abbrev NF(x:Exn):Prop:=x.c="NoField"
theorem DF(F:List Nat→(Int×(List Nat×List Nat))→M (List Nat))(h0:∀ (c:List Nat) (i:Int) (x:List Nat×List Nat),x.1.length≤60000→(decide (gm x.1)&&eG c x.1)=true→F c (i,x)=.ok x.1)(h1:∀ (c:List Nat) (i:Int) (x:List Nat×List Nat),x.1.length≤60000→(decide (gm x.1)&&eG c x.1)=false→∃ y,F c (i,x)=.exc y∧NF y):∀ (d:Doc) (c:List Nat) (g:Nat→Int),(∀ x∈d,x.1.length≤60000)→(jX c d=true→∃ r,foldM F c (d.mapIdx fun i x=>(g i,x))=.ok r)∧(jX c d=false→∃ y,foldM F c (d.mapIdx fun i x=>(g i,x))=.exc y∧NF y)
 | [],c,g,h=>⟨fun _=>⟨c,rfl⟩,fun z=>by cases z⟩
 | x::d,c,g,h=>by
  have hx:=h x (by simp)
  have ih:=DF F h0 h1 d x.1 (fun i=>g (i+1)) (fun y hy=>h y (by simp[hy]))
  rw[List.mapIdx_cons,cu]
  unfold jX
  cases e:(decide (gm x.1)&&eG c x.1)with
  | true=>rw[h0 c _ x hx e,M.aa,Bool.true_and];exact ih
  | false=>
   obtain⟨y,e2,hy⟩:=h1 c (g 0) x hx e
   rw[e2]
   exact⟨fun z=>(by cases z),fun _=>⟨y,rfl,hy⟩⟩
theorem IY{d:Doc}(h:∀ x∈d,x.1.length≤60000):(jX [] d=true→fV d=.ok ())∧(jX [] d=false→∃ y,fV d=.exc y∧NF y):=by
 have:=DF (fun(c1:List Nat) (cZ:Int×(List Nat×List Nat))=>(orM ((nox (kN cZ.2.1)).bind fun v=>M.ok (!v)) (M.ok (!eG c1 cZ.2.1))).bind fun b3=>if b3=true then((M.ok cZ.1).bind fun a4=>M.exc ⟨"NoField",some (D.int a4)⟩)else(M.ok cZ.2.1)) (fun c i x hx e=>by
   dsimp only
   rw[Az hx]
   simp only[Bool.and_eq_true]at e
   rw[e.1,e.2]
   rfl) (fun c i x hx e=>by
   dsimp only
   rw[Az hx,d6,M.aa]
   cases e1:decide (gm x.1)with
   | true=>
    rw[e1,Bool.true_and]at e
    rw[e]
    exact⟨_,rfl,rfl⟩
   | false=>exact⟨_,rfl,rfl⟩) d [] (fun i=>(i:Int)) h
 unfold fV B9
 rw[xa]
 refine⟨fun z=>?_,fun z=>?_⟩
 ·obtain⟨r,e⟩:=this.1 z
  rw[e];rfl
 ·obtain⟨y,e,hy⟩:=this.2 z
  rw[e]
  exact⟨y,rfl,hy⟩
theorem Oc{A:Type}{v:A}:zE cM "NoField" NL (.ok v)=.ok v:=rfl
theorem Mv{A:Type}{y:Exn}(h:NF y):zE (A:=A) cM "NoField" NL (.exc y)=.exc NL:=by
 unfold zE
 dsimp only
 rw[show y.c="NoField" from h,show jz cM "NoField" "NoField"=some true by decide+kernel]
theorem Aw:∀ (d:Doc),∀ x∈d,x.1.length≤(qu d).length
 | [],x,h=>by cases h
 | y::d,x,h=>by
  have hg:=pK y
  rw[jJ]
  simp only[List.length_cons,List.length_append]
  rcases List.mem_cons.mp h with e | e
  ·rw[e];omega
  ·have:=Aw d x e
   omega
theorem oI{l:List Nat}(hl:l.length≤50000):(eT l).bind (fun v=>M.ok v.2)=match kf l with
  | some d=>.ok d
  | none=>.exc NL:=by
 unfold eT kT kf
 by_cases h0:l=sS "none"
 ·subst h0
  rw[bF,if_pos rfl,if_pos rfl]
  rfl
 ·rw[bA h0,rC,if_neg h0]
  simp only[Bool.false_eq_true,if_false]
  have e0:(l,(0:Int))=rs [] l:=rfl
  rw[e0,FN (by simp;omega)]
  unfold vG
  cases e:fP l with
  | none=>rfl
  | some u=>
   have hf:=yW e
   have hq:=(oA (x:=u.1) (r:=u.2) (by rw[e])).1
   have hg:=pK u.1
   simp only[M.aa]
   rw[FF (T:=l) (by omega) (l.length+1) u.2 [u.1] ([]++fld u.1) ef (by omega) (by unfold ef;omega) (by simp;omega) (by simp;omega)]
   cases e2:iB (l.length+1) u.2 with
   | none=>rfl
   | some d=>
    have hr:=(rest_eq _ _ _ e2).1
    simp only[M.aa,Option.map]
    rw[List.singleton_append]
    have hb:∀ x∈u.1::d,x.1.length≤60000:=fun x hx=>by
     rcases List.mem_cons.mp hx with q | q
     ·rw[q];omega
     ·have:=Aw d x q
      rw[←hr]at this
      omega
    cases ec:jX [] (u.1::d)with
    | true=>
     rw[(IY hb).1 ec,Oc]
     rfl
    | false=>
     obtain⟨y,ey,hy⟩:=(IY hb).2 ec
     rw[ey,Mv hy]
     rfl
end K34
namespace K34
open PySem L2 PyProof.Rows Vw
def aZ(aE:List Nat):M ((Option Int)):=(orM (M.ok (eqB aE (sS ""))) (orM ((gx aE).bind fun a1=>M.ok (decide ((60:Int)<a1))) (andM ((fu aE (0:Int)).bind fun a2=>M.ok (eqB a2 (sS "0"))) (M.ok (!(eqB aE (sS "0"))))))).bind fun b3=>if b3=true then(M.ok ((none:Option Int)))else((ku (fun(c4:Unit) (rh:List Nat)=>(((if(!subIn rh (sS "0123456789"))=true then(M.ok (Lp.ret (none:Option Int)))else(M.ok (.go ())))):M (Lp Unit ((Option Int))))) () (chars aE)).bind (pL (fun r6=>((xc aE).bind fun v=>M.ok (some v)).bind fun v7=>M.ok (v7)) (fun q=>q)))
theorem i0{R:List Ob→Prop}{σ:List Ob}{aE:List Nat}:cE R bZ [.d (D.str aE)] σ (aZ aE) (fun v=>(.val (.d ((eO D.int) v)),σ)):=(dE (jO (b:=fun v=>v) (zM (fy (sv (aB (sv (ax (a:=aE) (e:=D.str) rfl)) (sv (cD D.str (sS ""))) (d0 aL aL qS (by decide))))) (zM (tB (b:=fun v=>v) (sv (bO (sv (cY (ah (sv (ax (a:=aE) (e:=D.str) rfl)) aq) kS)) (fun a1=>(sv (cD D.int (60:Int)))) fun a1=>Pw))) (yt (tG (tB (b:=fun v=>v) (sv (bO (sv (aB (sv (ax (a:=aE) (e:=D.str) rfl)) (sv (cD D.int (0:Int))) rB)) (fun a2=>(sv (cD D.str (sS "0")))) fun a2=>(d0 aL aL qS (by decide))))) (o7 (fy (sv (aB (sv (ax (a:=aE) (e:=D.str) rfl)) (sv (cD D.str (sS "0"))) (nX aL aL qS (by decide)))))))))) (fun b3=>(aU (fj (cD (eO D.int) (none:Option Int)) rfl))) (fun b3=>(L5 (P:=fun(c4:Unit)=>[some (.v (.d (D.str aE))),none]) (S:=fun(c4:Unit)=>σ) (rv:=fun q=>.val (.d ((eO D.int) q))) (Sr:=fun q=>σ) (ι:=(fun q=>q)) (c0:=()) (mb:=(fun(c4:Unit) (rh:List Nat)=>(((if(!subIn rh (sS "0123456789"))=true then(M.ok (Lp.ret (none:Option Int)))else(M.ok (.go ())))):M (Lp Unit ((Option Int)))))) (xJ (sv (ax (a:=aE) (e:=D.str) rfl))) (by(repeat' (first | exact trivial | refine And.intro rfl ?_))) rfl (fun c4 rh=>eS) (fun c4 rh=>(eV (fy (sv (aB (sv (ax (a:=rh) (e:=D.str) rfl)) (sv (cD D.str (sS "0123456789"))) F5))) (aU (fj (cD (eO D.int) (none:Option Int)) rfl)) (jK rfl (by(repeat' (first | exact trivial | refine And.intro rfl ?_)))))) (fun _=>rfl) fun r6=>(aU (iH (φ:=fun v7=>v7) (Ev.map (fun v=>some v) (pD (eO D.int) _ _) (cY (ah (sv (ax (a:=aE) (e:=D.str) rfl)) aq) LA) fun _=>rfl) fun _=>rfl))))))
def eA(ar:List Nat)(at_:Int):M ((Option (List Nat×Int))):=(l7 (fun(c1:Int×List Nat)=>(gR ar (some c1.1) (some (c1.1+(1:Int)))).bind fun a2=>M.ok (!(eqB a2 (sS "")))) (fun(c1:Int×List Nat)=>((((fu ar c1.1).bind fun a3=>M.ok (!(eqB a3 (sS "'")))).bind fun b4=>if b4=true then(((fu ar c1.1).bind fun a5=>br c1.2 a5).bind fun lN=>M.ok (.go ((c1.1+(1:Int)),lN)))else(((gR ar (some c1.1) (some (c1.1+(2:Int)))).bind fun a7=>M.ok (eqB a7 (sS "''"))).bind fun b8=>if b8=true then((br c1.2 (sS "'")).bind fun lO=>M.ok (.go ((c1.1+(2:Int)),lO)))else(M.ok (Lp.ret (some (c1.2,(c1.1+(1:Int)))))))):M (Lp (Int×List Nat) ((Option (List Nat×Int)))))) ef (at_,(sS ""))).bind (pL (fun r10=>M.ok ((none:Option (List Nat×Int)))) (fun q=>q))
theorem Af{R:List Ob→Prop}{σ:List Ob}{ar:List Nat}{at_:Int}:cE R iO [.d (D.str ar),.d (D.int at_)] σ (eA ar at_) (fun v=>(.val (.d ((eO (aP D.str D.int)) v)),σ)):=(dE (fx [some (.v (.d (D.str ar))),some (.v (.d (D.int at_))),some (.v (.d (D.str (sS ""))))] (cU (cD D.str (sS ""))) rfl (K9 (P:=fun(c1:Int×List Nat)=>[some (.v (.d (D.str ar))),some (.v (.d (D.int c1.1))),some (.v (.d (D.str c1.2)))]) (S:=fun(c1:Int×List Nat)=>σ) (rv:=fun q=>.val (.d ((eO (aP D.str D.int)) q))) (Sr:=fun q=>σ) (ι:=(fun q=>q)) (c0:=(at_,(sS ""))) (mt:=(fun(c1:Int×List Nat)=>(gR ar (some c1.1) (some (c1.1+(1:Int)))).bind fun a2=>M.ok (!(eqB a2 (sS ""))))) (mb:=(fun(c1:Int×List Nat)=>((((fu ar c1.1).bind fun a3=>M.ok (!(eqB a3 (sS "'")))).bind fun b4=>if b4=true then(((fu ar c1.1).bind fun a5=>br c1.2 a5).bind fun lN=>M.ok (.go ((c1.1+(1:Int)),lN)))else(((gR ar (some c1.1) (some (c1.1+(2:Int)))).bind fun a7=>M.ok (eqB a7 (sS "''"))).bind fun b8=>if b8=true then((br c1.2 (sS "'")).bind fun lO=>M.ok (.go ((c1.1+(2:Int)),lO)))else(M.ok (Lp.ret (some (c1.2,(c1.1+(1:Int)))))))):M (Lp (Int×List Nat) ((Option (List Nat×Int))))))) (by(repeat' (first | exact trivial | refine And.intro rfl ?_))) rfl (fun c1=>(tB (b:=fun v=>v) (sv (bO (sv (fO (sv (ax (a:=ar) (e:=D.str) rfl)) (pe (sv (ax (a:=c1.1) (e:=D.int) rfl))) (pe (sv (aB (sv (ax (a:=c1.1) (e:=D.int) rfl)) (sv (cD D.int (1:Int))) dI))) jx)) (fun a2=>(sv (cD D.str (sS "")))) fun a2=>(nX aL aL qS (by decide)))))) (fun c1=>(jO (b:=fun v=>v) (tB (b:=fun v=>v) (sv (bO (sv (aB (sv (ax (a:=ar) (e:=D.str) rfl)) (sv (ax (a:=c1.1) (e:=D.int) rfl)) rB)) (fun a3=>(sv (cD D.str (sS "'")))) fun a3=>(nX aL aL qS (by decide))))) (fun b4=>(aI (fun lN=>[some (.v (.d (D.str ar))),some (.v (.d (D.int c1.1))),some (.v (.d (D.str lN)))]) (cU (jv (sv (ax (a:=c1.2) (e:=D.str) rfl)) (sv (aB (sv (ax (a:=ar) (e:=D.str) rfl)) (sv (ax (a:=c1.1) (e:=D.int) rfl)) rB)) fun a5=>dW)) (fun _=>rfl) fun lN=>(fx [some (.v (.d (D.str ar))),some (.v (.d (D.int (c1.1+(1:Int))))),some (.v (.d (D.str lN)))] (cU (aB (sv (ax (a:=c1.1) (e:=D.int) rfl)) (sv (cD D.int (1:Int))) dI)) rfl (jK rfl (by(repeat' (first | exact trivial | refine And.intro rfl ?_))))))) (fun b4=>(jO (b:=fun v=>v) (tB (b:=fun v=>v) (sv (bO (sv (fO (sv (ax (a:=ar) (e:=D.str) rfl)) (pe (sv (ax (a:=c1.1) (e:=D.int) rfl))) (pe (sv (aB (sv (ax (a:=c1.1) (e:=D.int) rfl)) (sv (cD D.int (2:Int))) dI))) jx)) (fun a7=>(sv (cD D.str (sS "''")))) fun a7=>(d0 aL aL qS (by decide))))) (fun b8=>(aI (fun lO=>[some (.v (.d (D.str ar))),some (.v (.d (D.int c1.1))),some (.v (.d (D.str lO)))]) (cU (aB (sv (ax (a:=c1.2) (e:=D.str) rfl)) (sv (cD D.str (sS "'"))) dW)) (fun _=>rfl) fun lO=>(fx [some (.v (.d (D.str ar))),some (.v (.d (D.int (c1.1+(2:Int))))),some (.v (.d (D.str lO)))] (cU (aB (sv (ax (a:=c1.1) (e:=D.int) rfl)) (sv (cD D.int (2:Int))) dI)) rfl (jK rfl (by(repeat' (first | exact trivial | refine And.intro rfl ?_))))))) (fun b8=>(aU (fj (Ev.bH (post2:=(pD (eO (aP D.str D.int)) _ _)) (Ev.bH (post2:=(pD (aP D.str D.int) _ _)) (fS (ah (sv (ax (a:=c1.2) (e:=D.str) rfl)) (ah (sv (aB (sv (ax (a:=c1.1) (e:=D.int) rfl)) (sv (cD D.int (1:Int))) dI)) aq)) (fun _=>(.d (.d .nil))) (fun _=>rfl) (fun _=>rfl)) rfl) rfl) rfl))))))) (fun _=>rfl) fun r10=>(aU (fj (cD (eO (aP D.str D.int)) (none:Option (List Nat×Int))) rfl)))))
def dw(ar:List Nat):M ((Option (List (List Nat×List Nat)))):=(if(eqB ar (sS "none"))=true then(M.ok ((some ([]:List (List Nat×List Nat)))))else((l7 (fun(c1:(List (List Nat×List Nat))×Int)=>orM (M.ok (eqB c1.1 ([]:List (List Nat×List Nat)))) ((gx ar).bind fun a2=>M.ok (decide (c1.2<a2)))) (fun(c1:(List (List Nat×List Nat))×Int)=>(((andM (M.ok (!(eqB c1.1 ([]:List (List Nat×List Nat))))) ((fu ar c1.2).bind fun a3=>M.ok (!(eqB a3 (sS " "))))).bind fun b4=>if b4=true then(M.ok (Lp.ret (none:Option (List (List Nat×List Nat)))))else((M.ok (c1.2+(if(!(eqB c1.1 ([]:List (List Nat×List Nat))))=true then(1:Int)else 0))).bind fun at_5=>(CQ ar (sS ":'") at_5).bind fun cT=>(nox (eA ar (cT+(2:Int)))).bind fun e6=>(if((decide (cT<(0:Int)))||((e6.isNone)||(!(decide ((1:Int)≤(cT-at_5))&&decide ((cT-at_5)≤(12:Int))))))=true then(M.ok (Lp.ret (none:Option (List (List Nat×List Nat)))))else((gR ar (some at_5) (some cT)).bind fun e7=>((fM (fun(c5:List Nat)=>M.ok (!subIn c5 (sS "abcdefghijklmnopqrstuvwxyz"))) (fun(c5:List Nat)=>M.ok c5) (chars e7)).bind fun a10=>M.ok (!(eqB a10 ([]:List (List Nat))))).bind fun b11=>if b11=true then(M.ok (Lp.ret (none:Option (List (List Nat×List Nat)))))else((andM (M.ok (!(eqB c1.1 ([]:List (List Nat×List Nat))))) (((bQ c1.1 (-(1:Int))).bind fun a12=>M.ok a12.1).bind fun a13=>M.ok (!eG a13 e7))).bind fun b14=>if b14=true then(M.ok (Lp.ret (none:Option (List (List Nat×List Nat)))))else(((((((uk e6).bind fun a15=>M.ok a15.1).bind fun a16=>(M.ok ()).bind fun w17=>M.ok (a16,w17)).bind fun z18=>M.ok (e7,z18.1)).bind fun a19=>(M.ok ()).bind fun w20=>M.ok (a19,w20)).bind fun z21=>iy c1.1 z21.1).bind fun cR=>((uk e6).bind fun a23=>M.ok a23.2).bind fun at_24=>M.ok (.go (cR,at_24)))))))):M (Lp ((List (List Nat×List Nat))×Int) ((Option (List (List Nat×List Nat))))))) ef (([]:List (List Nat×List Nat)),(0:Int))).bind (pL (fun r25=>M.ok ((some r25.1))) (fun q=>q))))
theorem nv{R:List Ob→Prop}{σ:List Ob}{ar:List Nat}:cE R dq [.d (D.str ar)] σ (dw ar) (fun v=>((oW (oL (aP D.str D.str)) v),σ)):=(dE (eV (fy (sv (aB (sv (ax (a:=ar) (e:=D.str) rfl)) (sv (cD D.str (sS "none"))) (d0 aL aL qS (by decide))))) (aU (Ou (Ev.bH (post2:=(pN (oL (aP D.str D.str)) _ _)) (bz (l:=fun _=>([]:List (List Nat×List Nat))) (e:=(aP D.str D.str)) aq (fun _=>.nil) (fun _=>rfl) (fun _=>rfl)) rfl) rfl)) (fx [some (.v (.d (D.str ar))),some (.own ((oL (aP D.str D.str)) ([]:List (List Nat×List Nat)))),none,none,none,none,none] (kW (Ev.bH (post2:=(pN (oL (aP D.str D.str)) _ _)) (bz (l:=fun _=>([]:List (List Nat×List Nat))) (e:=(aP D.str D.str)) aq (fun _=>.nil) (fun _=>rfl) (fun _=>rfl)) rfl)) rfl (fx [some (.v (.d (D.str ar))),some (.own ((oL (aP D.str D.str)) ([]:List (List Nat×List Nat)))),some (.v (.d (D.int (0:Int)))),none,none,none,none] (cU (cD D.int (0:Int))) rfl (K9 (P:=fun(c1:(List (List Nat×List Nat))×Int)=>[some (.v (.d (D.str ar))),some (.own ((oL (aP D.str D.str)) c1.1)),some (.v (.d (D.int c1.2))),none,none,none,none]) (S:=fun(c1:(List (List Nat×List Nat))×Int)=>σ) (rv:=fun q=>(oW (oL (aP D.str D.str)) q)) (Sr:=fun q=>σ) (ι:=(fun q=>q)) (c0:=(([]:List (List Nat×List Nat)),(0:Int))) (mt:=(fun(c1:(List (List Nat×List Nat))×Int)=>orM (M.ok (eqB c1.1 ([]:List (List Nat×List Nat)))) ((gx ar).bind fun a2=>M.ok (decide (c1.2<a2))))) (mb:=(fun(c1:(List (List Nat×List Nat))×Int)=>(((andM (M.ok (!(eqB c1.1 ([]:List (List Nat×List Nat))))) ((fu ar c1.2).bind fun a3=>M.ok (!(eqB a3 (sS " "))))).bind fun b4=>if b4=true then(M.ok (Lp.ret (none:Option (List (List Nat×List Nat)))))else((M.ok (c1.2+(if(!(eqB c1.1 ([]:List (List Nat×List Nat))))=true then(1:Int)else 0))).bind fun at_5=>(CQ ar (sS ":'") at_5).bind fun cT=>(nox (eA ar (cT+(2:Int)))).bind fun e6=>(if((decide (cT<(0:Int)))||((e6.isNone)||(!(decide ((1:Int)≤(cT-at_5))&&decide ((cT-at_5)≤(12:Int))))))=true then(M.ok (Lp.ret (none:Option (List (List Nat×List Nat)))))else((gR ar (some at_5) (some cT)).bind fun e7=>((fM (fun(c5:List Nat)=>M.ok (!subIn c5 (sS "abcdefghijklmnopqrstuvwxyz"))) (fun(c5:List Nat)=>M.ok c5) (chars e7)).bind fun a10=>M.ok (!(eqB a10 ([]:List (List Nat))))).bind fun b11=>if b11=true then(M.ok (Lp.ret (none:Option (List (List Nat×List Nat)))))else((andM (M.ok (!(eqB c1.1 ([]:List (List Nat×List Nat))))) (((bQ c1.1 (-(1:Int))).bind fun a12=>M.ok a12.1).bind fun a13=>M.ok (!eG a13 e7))).bind fun b14=>if b14=true then(M.ok (Lp.ret (none:Option (List (List Nat×List Nat)))))else(((((((uk e6).bind fun a15=>M.ok a15.1).bind fun a16=>(M.ok ()).bind fun w17=>M.ok (a16,w17)).bind fun z18=>M.ok (e7,z18.1)).bind fun a19=>(M.ok ()).bind fun w20=>M.ok (a19,w20)).bind fun z21=>iy c1.1 z21.1).bind fun cR=>((uk e6).bind fun a23=>M.ok a23.2).bind fun at_24=>M.ok (.go (cR,at_24)))))))):M (Lp ((List (List Nat×List Nat))×Int) ((Option (List (List Nat×List Nat)))))))) (by(repeat' (first | exact trivial | refine And.intro rfl ?_))) rfl (fun c1=>(zM (fy (sv (aB (dc (dg (a:=c1.1) rfl)) (sn (Ev.bH (post2:=(pN (oL (aP D.str D.str)) _ _)) (bz (l:=fun _=>([]:List (List Nat×List Nat))) (e:=(aP D.str D.str)) aq (fun _=>.nil) (fun _=>rfl) (fun _=>rfl)) rfl) (fun v=>bN _ v)) (d0 (cb rfl).pv aL (qL (Fo qS qS)) (by decide))))) (yt (tB (b:=fun v=>v) (sv (jv (sv (ax (a:=c1.2) (e:=D.int) rfl)) (sv (cY (ah (sv (ax (a:=ar) (e:=D.str) rfl)) aq) kS)) fun a2=>ur)))))) (fun c1=>(jO (b:=fun v=>v) (tG (fy (sv (aB (dc (dg (a:=c1.1) rfl)) (sn (Ev.bH (post2:=(pN (oL (aP D.str D.str)) _ _)) (bz (l:=fun _=>([]:List (List Nat×List Nat))) (e:=(aP D.str D.str)) aq (fun _=>.nil) (fun _=>rfl) (fun _=>rfl)) rfl) (fun v=>bN _ v)) (nX (cb rfl).pv aL (qL (Fo qS qS)) (by decide))))) (o7 (tB (b:=fun v=>v) (sv (bO (sv (aB (sv (ax (a:=ar) (e:=D.str) rfl)) (sv (ax (a:=c1.2) (e:=D.int) rfl)) rB)) (fun a3=>(sv (cD D.str (sS " ")))) fun a3=>(nX aL aL qS (by decide))))))) (fun b4=>(aU (fj (x:=fun _=>.d .non) (cD eN ()) rfl))) (fun b4=>(aI (fun at_5=>[some (.v (.d (D.str ar))),some (.own ((oL (aP D.str D.str)) c1.1)),some (.v (.d (D.int at_5))),none,none,none,none]) (cU (aB (sv (ax (a:=c1.2) (e:=D.int) rfl)) (sv (cY (ah (sv (aB (dc (dg (a:=c1.1) rfl)) (sn (Ev.bH (post2:=(pN (oL (aP D.str D.str)) _ _)) (bz (l:=fun _=>([]:List (List Nat×List Nat))) (e:=(aP D.str D.str)) aq (fun _=>.nil) (fun _=>rfl) (fun _=>rfl)) rfl) (fun v=>bN _ v)) (nX (cb rfl).pv aL (qL (Fo qS qS)) (by decide)))) aq) Cg)) dI)) (fun _=>rfl) fun at_5=>(aI (fun cT=>[some (.v (.d (D.str ar))),some (.own ((oL (aP D.str D.str)) c1.1)),some (.v (.d (D.int at_5))),some (.v (.d (D.int cT))),none,none,none]) (cU (mZ (sv (ax (a:=ar) (e:=D.str) rfl)) (fun _ _=>rfl) (ah (sv (cD D.str (sS ":'"))) (ah (sv (ax (a:=at_5) (e:=D.int) rfl)) aq)) P8)) (fun _=>rfl) fun cT=>(aI (fun e6=>[some (.v (.d (D.str ar))),some (.own ((oL (aP D.str D.str)) c1.1)),some (.v (.d (D.int at_5))),some (.v (.d (D.int cT))),some (.v (.d ((eO (aP D.str D.int)) e6))),none,none]) (cU (bE (R':=R) (post:=(pD (eO (aP D.str D.int)) _ _)) (ah (sv (ax (a:=ar) (e:=D.str) rfl)) (ah (sv (aB (sv (ax (a:=cT) (e:=D.int) rfl)) (sv (cD D.int (2:Int))) dI)) aq)) (.d (.d .nil)) rfl (Af (ar:=ar) (at_:=(cT+(2:Int)))) (fun _=>rfl))) (fun _=>rfl) fun e6=>(eV (Ln (fy (sv (aB (sv (ax (a:=cT) (e:=D.int) rfl)) (sv (cD D.int (0:Int))) ur))) (Ln (fy (sv (aB (sv (ax (a:=e6) (e:=(eO (aP D.str D.int))) rfl)) (sv (cD eN ())) (Sk (by intro _ h;cases h))))) (yt (IV (fy (sv (T9 (sv (cD D.int (1:Int))) (sv (aB (sv (ax (a:=cT) (e:=D.int) rfl)) (sv (ax (a:=at_5) (e:=D.int) rfl)) QR)) (sv (cD D.int (12:Int))) GL GL))))))) (aU (fj (x:=fun _=>.d .non) (cD eN ()) rfl)) (aI (fun e7=>[some (.v (.d (D.str ar))),some (.own ((oL (aP D.str D.str)) c1.1)),some (.v (.d (D.int at_5))),some (.v (.d (D.int cT))),some (.v (.d ((eO (aP D.str D.int)) e6))),some (.v (.d (D.str e7))),none]) (cU (fO (sv (ax (a:=ar) (e:=D.str) rfl)) (pe (sv (ax (a:=at_5) (e:=D.int) rfl))) (pe (sv (ax (a:=cT) (e:=D.int) rfl))) jx)) (fun _=>rfl) fun e7=>(jO (b:=fun v=>v) (tB (b:=fun v=>v) (sv (bO (sn (Cj (q:=[some (.v (.d (D.str ar))),some (.own ((oL (aP D.str D.str)) c1.1)),some (.v (.d (D.int at_5))),some (.v (.d (D.int cT))),some (.v (.d ((eO (aP D.str D.int)) e6))),some (.v (.d (D.str e7))),none]) (p2:=fun(c5:List Nat)=>[some (.v (.d (D.str ar))),some (.own ((oL (aP D.str D.str)) c1.1)),some (.v (.d (D.int at_5))),some (.v (.d (D.int cT))),some (.v (.d ((eO (aP D.str D.int)) e6))),some (.v (.d (D.str e7))),some (.v (.d (D.str c5)))]) (p3:=fun(c5:List Nat)=>[some (.v (.d (D.str ar))),some (.own ((oL (aP D.str D.str)) c1.1)),some (.v (.d (D.int at_5))),some (.v (.d (D.int cT))),some (.v (.d ((eO (aP D.str D.int)) e6))),some (.v (.d (D.str e7))),some (.v (.d (D.str c5)))]) (mt:=(fun(c5:List Nat)=>M.ok (!subIn c5 (sS "abcdefghijklmnopqrstuvwxyz")))) (me:=(fun(c5:List Nat)=>M.ok c5)) (e:=D.str) (xJ (sv (ax (a:=e7) (e:=D.str) rfl))) rfl (fun(c5:List Nat)=>⟨eS,(fy (sv (aB (sv (ax (a:=c5) (e:=D.str) rfl)) (sv (cD D.str (sS "abcdefghijklmnopqrstuvwxyz"))) F5))),(ui (ax (a:=c5) (e:=D.str) rfl))⟩) (fun _=>by(repeat' (first | exact trivial | refine And.intro rfl ?_))) (fun _=>by(repeat' (first | exact trivial | refine And.intro rfl ?_)))) (fun v=>bN _ v)) (fun a10=>(sn (Ev.bH (post2:=(pN (oL D.str) _ _)) (bz (l:=fun _=>([]:List (List Nat))) (e:=D.str) aq (fun _=>.nil) (fun _=>rfl) (fun _=>rfl)) rfl) (fun v=>bN _ v))) fun a10=>(nX aL aL (qL qS) (by decide))))) (fun b11=>(aU (fj (x:=fun _=>.d .non) (cD eN ()) rfl))) (fun b11=>(jO (b:=fun v=>v) (tG (fy (sv (aB (dc (dg (a:=c1.1) rfl)) (sn (Ev.bH (post2:=(pN (oL (aP D.str D.str)) _ _)) (bz (l:=fun _=>([]:List (List Nat×List Nat))) (e:=(aP D.str D.str)) aq (fun _=>.nil) (fun _=>rfl) (fun _=>rfl)) rfl) (fun v=>bN _ v)) (nX (cb rfl).pv aL (qL (Fo qS qS)) (by decide))))) (o7 (tB (b:=fun v=>v) (sv (jv (sv (ax (a:=e7) (e:=D.str) rfl)) (sv (bO (sv (aB (dc (dg (a:=c1.1) rfl)) (sv (SI (sv (cD D.int (1:Int))))) (gY (cb rfl)))) (fun a12=>(sv (cD D.int (0:Int)))) fun a12=>(JC (a:=a12.1) (e:=D.str) rfl))) fun a13=>Nl))))) (fun b14=>(aU (fj (x:=fun _=>.d .non) (cD eN ()) rfl))) (fun b14=>(aI (fun cR=>[some (.v (.d (D.str ar))),some (.own ((oL (aP D.str D.str)) cR)),some (.v (.d (D.int at_5))),some (.v (.d (D.int cT))),some (.v (.d ((eO (aP D.str D.int)) e6))),some (.v (.d (D.str e7))),none]) (kZ (ox (dc (dg (a:=c1.1) rfl)) (fun _ hf=>vA (cb rfl) hf) (aQ (sv (Ev.map (fun(z18:List Nat×Unit)=>(e7,z18.1)) (pD (aP D.str D.str) _ _) (fS (ah (sv (ax (a:=e7) (e:=D.str) rfl)) (aQ (sv (bO (sv (FT (ax (a:=e6) (e:=(eO (aP D.str D.int))) rfl))) (fun a15=>(sv (cD D.int (0:Int)))) fun a15=>(JC (a:=a15.1) (e:=D.str) rfl))) fun a16=>aq)) (fun _=>(.d (.d .nil))) (fun _=>rfl) (fun _=>rfl)) fun _=>rfl)) fun a19=>aq) fun z21=>(sR rfl))) (fun _=>rfl) fun cR=>(aI (fun at_24=>[some (.v (.d (D.str ar))),some (.own ((oL (aP D.str D.str)) cR)),some (.v (.d (D.int at_24))),some (.v (.d (D.int cT))),some (.v (.d ((eO (aP D.str D.int)) e6))),some (.v (.d (D.str e7))),none]) (cU (bO (sv (FT (ax (a:=e6) (e:=(eO (aP D.str D.int))) rfl))) (fun a23=>(sv (cD D.int (1:Int)))) fun a23=>(JC (a:=a23.2) (e:=D.int) rfl))) (fun _=>rfl) fun at_24=>(jK rfl (by(repeat' (first | exact trivial | refine And.intro rfl ?_)))))))))))))))))) (fun _=>rfl) fun r25=>(aU (NB rfl rfl)))))))
def fC(ar:List Nat):M D:=(if(d8 ar [(sS "stamp"),(sS "seal"),(sS "thin")])=true then(M.ok ((D.tup [(D.str ar)])))else((xA ar (sS " ")).bind fun bg=>((bQ bg (0:Int)).bind fun a2=>M.ok (eqB a2 (sS "put"))).bind fun b3=>if b3=true then(((((((gR ar (some (4:Int)) (none:Option Int)).bind fun a4=>(M.ok ()).bind fun w5=>M.ok (a4,w5)).bind fun z6=>nox (dw z6.1)).bind fun v=>M.ok ((eO (eL (aP D.str D.str))) v)).bind fun a7=>(M.ok ()).bind fun w8=>M.ok (a7,w8)).bind fun z9=>M.ok (D.tup [(D.str (sS "put")),z9.1])).bind fun jr=>(lF (eN ()) jr).bind fun b11=>if b11=true then(M.ok ((eN ())))else(M.ok (jr)))else((andM ((bQ bg (0:Int)).bind fun a12=>M.ok (eqB a12 (sS "change"))) (M.ok (decide ((2:Int)<(bg.length:Int))))).bind fun b13=>if b13=true then(((((((bQ bg (1:Int)).bind fun a14=>(M.ok ()).bind fun w15=>M.ok (a14,w15)).bind fun z16=>nox (aZ z16.1)).bind fun v=>M.ok ((eO D.int) v)).bind fun a17=>(((((((((bQ bg (1:Int)).bind fun a18=>(M.ok ()).bind fun w19=>M.ok (a18,w19)).bind fun z20=>gx z20.1).bind fun a21=>M.ok (a21+(8:Int))).bind fun l22=>(M.ok ()).bind fun h23=>gR ar (some l22) (none:Option Int)).bind fun a24=>(M.ok ()).bind fun w25=>M.ok (a24,w25)).bind fun z26=>nox (dw z26.1)).bind fun v=>M.ok ((eO (eL (aP D.str D.str))) v)).bind fun a27=>(M.ok ()).bind fun w28=>M.ok (a27,w28)).bind fun w29=>M.ok (a17,w29)).bind fun z30=>M.ok (D.tup [(D.str (sS "change")),z30.1,z30.2.1])).bind fun js=>(lF (eN ()) js).bind fun b32=>if b32=true then(M.ok ((eN ())))else(M.ok (js)))else((andM ((bQ bg (0:Int)).bind fun a33=>M.ok (eqB a33 (sS "pour"))) (M.ok (eqB (bg.length:Int) (3:Int)))).bind fun b34=>if b34=true then(((((((bQ bg (1:Int)).bind fun a35=>(M.ok ()).bind fun w36=>M.ok (a35,w36)).bind fun z37=>nox (aZ z37.1)).bind fun v=>M.ok ((eO D.int) v)).bind fun a38=>(((((bQ bg (2:Int)).bind fun a39=>(M.ok ()).bind fun w40=>M.ok (a39,w40)).bind fun z41=>nox (aZ z41.1)).bind fun v=>M.ok ((eO D.int) v)).bind fun a42=>(M.ok ()).bind fun w43=>M.ok (a42,w43)).bind fun w44=>M.ok (a38,w44)).bind fun z45=>M.ok (D.tup [(D.str (sS "pour")),z45.1,z45.2.1])).bind fun jt=>(lF (eN ()) jt).bind fun b47=>if b47=true then(M.ok ((eN ())))else(M.ok (jt)))else((andM ((bQ bg (0:Int)).bind fun a48=>M.ok (d8 a48 [(sS "take"),(sS "drop"),(sS "pack")])) (M.ok (eqB (bg.length:Int) (2:Int)))).bind fun b49=>if b49=true then(((((bQ bg (0:Int)).bind fun v=>M.ok (D.str v)).bind fun a50=>(((((bQ bg (1:Int)).bind fun a51=>(M.ok ()).bind fun w52=>M.ok (a51,w52)).bind fun z53=>nox (aZ z53.1)).bind fun v=>M.ok ((eO D.int) v)).bind fun a54=>(M.ok ()).bind fun w55=>M.ok (a54,w55)).bind fun w56=>M.ok (a50,w56)).bind fun z57=>M.ok (D.tup [z57.1,z57.2.1])).bind fun ju=>(lF (eN ()) ju).bind fun b59=>if b59=true then(M.ok ((eN ())))else(M.ok (ju)))else(M.ok ((eN ()))))))))
theorem rS{R:List Ob→Prop}{σ:List Ob}{ar:List Nat}:cE R iM [.d (D.str ar)] σ (fC ar) (fun v=>(.val (.d (eY v)),σ)):=(dE (eV (fy (sv (aB (sv (ax (a:=ar) (e:=D.str) rfl)) (sn (Ev.bH (post2:=(pN (oL D.str) _ _)) (bz (l:=fun _=>([(sS "stamp"),(sS "seal"),(sS "thin")]:List (List Nat))) (e:=D.str) (ah (sv (cD D.str (sS "stamp"))) (ah (sv (cD D.str (sS "seal"))) (ah (sv (cD D.str (sS "thin"))) aq))) (fun _=>(.d (.d (.d .nil)))) (fun _=>rfl) (fun _=>rfl)) rfl) (fun v=>bN _ v)) (CJ aL eI qS (by decide))))) (aU (fj (Ev.bH (post2:=(pD eY _ _)) (fS (ah (sv (toY (ax (a:=ar) (e:=D.str) rfl))) aq) (fun _=>(.d .nil)) (fun _=>rfl) (fun _=>rfl)) rfl) rfl)) (aI (fun bg=>[some (.v (.d (D.str ar))),some (.own ((oL D.str) bg)),none]) (kW (mZ (sv (ax (a:=ar) (e:=D.str) rfl)) (fun _ _=>rfl) (ah (sv (cD D.str (sS " "))) aq) LB)) (fun _=>rfl) fun bg=>(jO (b:=fun v=>v) (tB (b:=fun v=>v) (sv (bO (sv (aB (dc (dg (a:=bg) rfl)) (sv (cD D.int (0:Int))) (gY (cb rfl)))) (fun a2=>(sv (cD D.str (sS "put")))) fun a2=>(d0 aL aL qS (by decide))))) (fun b3=>(aI (fun jr=>[some (.v (.d (D.str ar))),some (.own ((oL D.str) bg)),some (.v (.d (eY jr)))]) (cU (Ev.map (fun(z9:D×Unit)=>(D.tup [(D.str (sS "put")),z9.1])) (pD eY _ _) (fS (ah (sv (toY (cD D.str (sS "put")))) (aQ (toY (OO (jo (R':=R) (post:=(fun v=>(oW (oL (aP D.str D.str)) v,_,_))) (aQ (sv (fO (sv (ax (a:=ar) (e:=D.str) rfl)) (pe (sv (cD D.int (4:Int)))) pn jx)) fun a4=>aq) (fun _=>(.d .nil)) (fun _=>rfl) (fun z6=>(nv (ar:=z6.1))) (fun _ _=>rfl)) (fun v=>bN _ v))) fun a7=>aq)) (fun _=>(.d (.d .nil))) (fun _=>rfl) (fun _=>rfl)) fun _=>rfl)) (fun _=>rfl) fun jr=>(jO (b:=fun v=>v) (tB (b:=fun v=>v) (sv (aB (sv (cD eN ())) (sv (ax (a:=jr) (e:=eY) rfl)) B0))) (fun b11=>(aU (fj (toY (cD eN ())) rfl))) (fun b11=>(aU (fj (ax (a:=jr) (e:=eY) rfl) rfl)))))) (fun b3=>(jO (b:=fun v=>v) (tG (tB (b:=fun v=>v) (sv (bO (sv (aB (dc (dg (a:=bg) rfl)) (sv (cD D.int (0:Int))) (gY (cb rfl)))) (fun a12=>(sv (cD D.str (sS "change")))) fun a12=>(d0 aL aL qS (by decide))))) (o7 (fy (sv (aB (sv (cY (ah (dc (dg (a:=bg) rfl)) aq) (oG (cb rfl)))) (sv (cD D.int (2:Int))) Pw))))) (fun b13=>(aI (fun js=>[some (.v (.d (D.str ar))),some (.own ((oL D.str) bg)),some (.v (.d (eY js)))]) (cU (Ev.map (fun(z30:D×(D×Unit))=>(D.tup [(D.str (sS "change")),z30.1,z30.2.1])) (pD eY _ _) (fS (ah (sv (toY (cD D.str (sS "change")))) (aQ (sv (toY (jo (R':=R) (post:=(pD (eO D.int) _ _)) (aQ (sv (aB (dc (dg (a:=bg) rfl)) (sv (cD D.int (1:Int))) (gY (cb rfl)))) fun a14=>aq) (fun _=>(.d .nil)) (fun _=>rfl) (fun z16=>(i0 (aE:=z16.1))) (fun _ _=>rfl)))) fun a17=>(aQ (toY (OO (jo (R':=R) (post:=(fun v=>(oW (oL (aP D.str D.str)) v,_,_))) (aQ (sv (Rb (lo':=some) (hi':=(fun _=>none)) (mk:=(fun l h=>gR ar l h)) (sv (ax (a:=ar) (e:=D.str) rfl)) (pe (sv (bO (sv (vF (aQ (sv (aB (dc (dg (a:=bg) rfl)) (sv (cD D.int (1:Int))) (gY (cb rfl)))) fun a18=>aq) fun z20=>kS)) (fun a21=>(sv (cD D.int (8:Int)))) fun a21=>dI))) pn (fun _ _=>jx))) fun a24=>aq) (fun _=>(.d .nil)) (fun _=>rfl) (fun z26=>(nv (ar:=z26.1))) (fun _ _=>rfl)) (fun v=>bN _ v))) fun a27=>aq))) (fun _=>(.d (.d (.d .nil)))) (fun _=>rfl) (fun _=>rfl)) fun _=>rfl)) (fun _=>rfl) fun js=>(jO (b:=fun v=>v) (tB (b:=fun v=>v) (sv (aB (sv (cD eN ())) (sv (ax (a:=js) (e:=eY) rfl)) B0))) (fun b32=>(aU (fj (toY (cD eN ())) rfl))) (fun b32=>(aU (fj (ax (a:=js) (e:=eY) rfl) rfl)))))) (fun b13=>(jO (b:=fun v=>v) (tG (tB (b:=fun v=>v) (sv (bO (sv (aB (dc (dg (a:=bg) rfl)) (sv (cD D.int (0:Int))) (gY (cb rfl)))) (fun a33=>(sv (cD D.str (sS "pour")))) fun a33=>(d0 aL aL qS (by decide))))) (o7 (fy (sv (aB (sv (cY (ah (dc (dg (a:=bg) rfl)) aq) (oG (cb rfl)))) (sv (cD D.int (3:Int))) (d0 aL aL qI (by decide))))))) (fun b34=>(aI (fun jt=>[some (.v (.d (D.str ar))),some (.own ((oL D.str) bg)),some (.v (.d (eY jt)))]) (cU (Ev.map (fun(z45:D×(D×Unit))=>(D.tup [(D.str (sS "pour")),z45.1,z45.2.1])) (pD eY _ _) (fS (ah (sv (toY (cD D.str (sS "pour")))) (aQ (sv (toY (jo (R':=R) (post:=(pD (eO D.int) _ _)) (aQ (sv (aB (dc (dg (a:=bg) rfl)) (sv (cD D.int (1:Int))) (gY (cb rfl)))) fun a35=>aq) (fun _=>(.d .nil)) (fun _=>rfl) (fun z37=>(i0 (aE:=z37.1))) (fun _ _=>rfl)))) fun a38=>(aQ (sv (toY (jo (R':=R) (post:=(pD (eO D.int) _ _)) (aQ (sv (aB (dc (dg (a:=bg) rfl)) (sv (cD D.int (2:Int))) (gY (cb rfl)))) fun a39=>aq) (fun _=>(.d .nil)) (fun _=>rfl) (fun z41=>(i0 (aE:=z41.1))) (fun _ _=>rfl)))) fun a42=>aq))) (fun _=>(.d (.d (.d .nil)))) (fun _=>rfl) (fun _=>rfl)) fun _=>rfl)) (fun _=>rfl) fun jt=>(jO (b:=fun v=>v) (tB (b:=fun v=>v) (sv (aB (sv (cD eN ())) (sv (ax (a:=jt) (e:=eY) rfl)) B0))) (fun b47=>(aU (fj (toY (cD eN ())) rfl))) (fun b47=>(aU (fj (ax (a:=jt) (e:=eY) rfl) rfl)))))) (fun b34=>(jO (b:=fun v=>v) (tG (tB (b:=fun v=>v) (sv (bO (sv (aB (dc (dg (a:=bg) rfl)) (sv (cD D.int (0:Int))) (gY (cb rfl)))) (fun a48=>(sn (Ev.bH (post2:=(pN (oL D.str) _ _)) (bz (l:=fun _=>([(sS "take"),(sS "drop"),(sS "pack")]:List (List Nat))) (e:=D.str) (ah (sv (cD D.str (sS "take"))) (ah (sv (cD D.str (sS "drop"))) (ah (sv (cD D.str (sS "pack"))) aq))) (fun _=>(.d (.d (.d .nil)))) (fun _=>rfl) (fun _=>rfl)) rfl) (fun v=>bN _ v))) fun a48=>(CJ aL eI qS (by decide))))) (o7 (fy (sv (aB (sv (cY (ah (dc (dg (a:=bg) rfl)) aq) (oG (cb rfl)))) (sv (cD D.int (2:Int))) (d0 aL aL qI (by decide))))))) (fun b49=>(aI (fun ju=>[some (.v (.d (D.str ar))),some (.own ((oL D.str) bg)),some (.v (.d (eY ju)))]) (cU (Ev.map (fun(z57:D×(D×Unit))=>(D.tup [z57.1,z57.2.1])) (pD eY _ _) (fS (aQ (sv (toY (aB (dc (dg (a:=bg) rfl)) (sv (cD D.int (0:Int))) (gY (cb rfl))))) fun a50=>(aQ (sv (toY (jo (R':=R) (post:=(pD (eO D.int) _ _)) (aQ (sv (aB (dc (dg (a:=bg) rfl)) (sv (cD D.int (1:Int))) (gY (cb rfl)))) fun a51=>aq) (fun _=>(.d .nil)) (fun _=>rfl) (fun z53=>(i0 (aE:=z53.1))) (fun _ _=>rfl)))) fun a54=>aq)) (fun _=>(.d (.d .nil))) (fun _=>rfl) (fun _=>rfl)) fun _=>rfl)) (fun _=>rfl) fun ju=>(jO (b:=fun v=>v) (tB (b:=fun v=>v) (sv (aB (sv (cD eN ())) (sv (ax (a:=ju) (e:=eY) rfl)) B0))) (fun b59=>(aU (fj (toY (cD eN ())) rfl))) (fun b59=>(aU (fj (ax (a:=ju) (e:=eY) rfl) rfl)))))) (fun b49=>(aU (fj (toY (cD eN ())) rfl)))))))))))))
def oz(gj:Int):M ((List Nat)):=(M.ok [(sS ""),(sS " "),(sS "put"),(sS "put "),(sS "put none "),(sS "put  none"),(sS "put nones"),(sS "put a:''"),(sS "put a:'")]).bind fun qi=>(eU qi [(sS "put a:'''"),(sS "put a:''''"),(sS "put a:'x'b:'y'"),(sS "put a:'x'  b:'y'"),(sS "put b:'x' a:'y'")]).bind fun qj=>(eU qj [(sS "put a:'x' a:'y'"),(sS "put A:'x'"),(sS "put :'x'")]).bind fun qk=>(eU qk [(sS "put abcdefghijklm:'x'"),(sS "put abcdefghijkl:'x'"),(sS "put a:'x' "),(sS "put a:'x' none"),(sS "put a1:'x'")]).bind fun ql=>(eU ql [(sS "change 1"),(sS "change 1 "),(sS "change none"),(sS "change 01 none"),(sS "change 1 none"),(sS "change  1 none")]).bind fun qm=>(eU qm [(sS "take"),(sS "take "),(sS "take 1 2"),(sS "take 1 "),(sS "take -1"),(sS "take +1"),(sS "take 1_0"),(sS "take 00"),(sS "take 0")]).bind fun qp=>(((((EI (sS "1") (60:Int)).bind fun a7=>br (sS "take ") a7).bind fun a8=>(((EI (sS "1") (61:Int)).bind fun a9=>br (sS "take ") a9).bind fun a10=>(M.ok ()).bind fun w11=>M.ok (a10,w11)).bind fun w12=>M.ok (a8,w12)).bind fun z13=>M.ok [z13.1,z13.2.1,(sS "pour 1"),(sS "pour 1 2 3"),(sS "pour 1  2"),(sS "stamp "),(sS " stamp")]).bind fun a14=>eU qp a14).bind fun mG=>(eU mG [(sS "Stamp"),(sS "seal 1"),(sS "thin"),(sS "drop now"),(sS "pack a"),(sS "ask now a:b"),(sS "stamps"),(sS "take 1."),(sS "put none:''")]).bind fun ia=>((lH gj (ia.length:Int)).bind fun a17=>bQ ia a17).bind fun v18=>M.ok (v18)
theorem GA{R:List Ob→Prop}{σ:List Ob}{gj:Int}:cE R kQ [.d (D.int gj)] σ (oz gj) (fun v=>(.val (.d (D.str v)),σ)):=(dE (aI (fun qi=>[some (.v (.d (D.int gj))),some (.own ((oL D.str) qi))]) (kW (Ev.bH (post2:=(pN (oL D.str) _ _)) (bz (l:=fun _=>([(sS ""),(sS " "),(sS "put"),(sS "put "),(sS "put none "),(sS "put  none"),(sS "put nones"),(sS "put a:''"),(sS "put a:'")]:List (List Nat))) (e:=D.str) (ah (sv (cD D.str (sS ""))) (ah (sv (cD D.str (sS " "))) (ah (sv (cD D.str (sS "put"))) (ah (sv (cD D.str (sS "put "))) (ah (sv (cD D.str (sS "put none "))) (ah (sv (cD D.str (sS "put  none"))) (ah (sv (cD D.str (sS "put nones"))) (ah (sv (cD D.str (sS "put a:''"))) (ah (sv (cD D.str (sS "put a:'"))) aq))))))))) (fun _=>(.d (.d (.d (.d (.d (.d (.d (.d (.d .nil)))))))))) (fun _=>rfl) (fun _=>rfl)) rfl)) (fun _=>rfl) fun qi=>(aI (fun qj=>[some (.v (.d (D.int gj))),some (.own ((oL D.str) qj))]) (kW (aB (dc (dg (a:=qi) rfl)) (sn (Ev.bH (post2:=(pN (oL D.str) _ _)) (bz (l:=fun _=>([(sS "put a:'''"),(sS "put a:''''"),(sS "put a:'x'b:'y'"),(sS "put a:'x'  b:'y'"),(sS "put b:'x' a:'y'")]:List (List Nat))) (e:=D.str) (ah (sv (cD D.str (sS "put a:'''"))) (ah (sv (cD D.str (sS "put a:''''"))) (ah (sv (cD D.str (sS "put a:'x'b:'y'"))) (ah (sv (cD D.str (sS "put a:'x'  b:'y'"))) (ah (sv (cD D.str (sS "put b:'x' a:'y'"))) aq))))) (fun _=>(.d (.d (.d (.d (.d .nil)))))) (fun _=>rfl) (fun _=>rfl)) rfl) (fun v=>bN _ v)) (add_l (cb rfl) eI))) (fun _=>rfl) fun qj=>(aI (fun qk=>[some (.v (.d (D.int gj))),some (.own ((oL D.str) qk))]) (kW (aB (dc (dg (a:=qj) rfl)) (sn (Ev.bH (post2:=(pN (oL D.str) _ _)) (bz (l:=fun _=>([(sS "put a:'x' a:'y'"),(sS "put A:'x'"),(sS "put :'x'")]:List (List Nat))) (e:=D.str) (ah (sv (cD D.str (sS "put a:'x' a:'y'"))) (ah (sv (cD D.str (sS "put A:'x'"))) (ah (sv (cD D.str (sS "put :'x'"))) aq))) (fun _=>(.d (.d (.d .nil)))) (fun _=>rfl) (fun _=>rfl)) rfl) (fun v=>bN _ v)) (add_l (cb rfl) eI))) (fun _=>rfl) fun qk=>(aI (fun ql=>[some (.v (.d (D.int gj))),some (.own ((oL D.str) ql))]) (kW (aB (dc (dg (a:=qk) rfl)) (sn (Ev.bH (post2:=(pN (oL D.str) _ _)) (bz (l:=fun _=>([(sS "put abcdefghijklm:'x'"),(sS "put abcdefghijkl:'x'"),(sS "put a:'x' "),(sS "put a:'x' none"),(sS "put a1:'x'")]:List (List Nat))) (e:=D.str) (ah (sv (cD D.str (sS "put abcdefghijklm:'x'"))) (ah (sv (cD D.str (sS "put abcdefghijkl:'x'"))) (ah (sv (cD D.str (sS "put a:'x' "))) (ah (sv (cD D.str (sS "put a:'x' none"))) (ah (sv (cD D.str (sS "put a1:'x'"))) aq))))) (fun _=>(.d (.d (.d (.d (.d .nil)))))) (fun _=>rfl) (fun _=>rfl)) rfl) (fun v=>bN _ v)) (add_l (cb rfl) eI))) (fun _=>rfl) fun ql=>(aI (fun qm=>[some (.v (.d (D.int gj))),some (.own ((oL D.str) qm))]) (kW (aB (dc (dg (a:=ql) rfl)) (sn (Ev.bH (post2:=(pN (oL D.str) _ _)) (bz (l:=fun _=>([(sS "change 1"),(sS "change 1 "),(sS "change none"),(sS "change 01 none"),(sS "change 1 none"),(sS "change  1 none")]:List (List Nat))) (e:=D.str) (ah (sv (cD D.str (sS "change 1"))) (ah (sv (cD D.str (sS "change 1 "))) (ah (sv (cD D.str (sS "change none"))) (ah (sv (cD D.str (sS "change 01 none"))) (ah (sv (cD D.str (sS "change 1 none"))) (ah (sv (cD D.str (sS "change  1 none"))) aq)))))) (fun _=>(.d (.d (.d (.d (.d (.d .nil))))))) (fun _=>rfl) (fun _=>rfl)) rfl) (fun v=>bN _ v)) (add_l (cb rfl) eI))) (fun _=>rfl) fun qm=>(aI (fun qp=>[some (.v (.d (D.int gj))),some (.own ((oL D.str) qp))]) (kW (aB (dc (dg (a:=qm) rfl)) (sn (Ev.bH (post2:=(pN (oL D.str) _ _)) (bz (l:=fun _=>([(sS "take"),(sS "take "),(sS "take 1 2"),(sS "take 1 "),(sS "take -1"),(sS "take +1"),(sS "take 1_0"),(sS "take 00"),(sS "take 0")]:List (List Nat))) (e:=D.str) (ah (sv (cD D.str (sS "take"))) (ah (sv (cD D.str (sS "take "))) (ah (sv (cD D.str (sS "take 1 2"))) (ah (sv (cD D.str (sS "take 1 "))) (ah (sv (cD D.str (sS "take -1"))) (ah (sv (cD D.str (sS "take +1"))) (ah (sv (cD D.str (sS "take 1_0"))) (ah (sv (cD D.str (sS "take 00"))) (ah (sv (cD D.str (sS "take 0"))) aq))))))))) (fun _=>(.d (.d (.d (.d (.d (.d (.d (.d (.d .nil)))))))))) (fun _=>rfl) (fun _=>rfl)) rfl) (fun v=>bN _ v)) (add_l (cb rfl) eI))) (fun _=>rfl) fun qp=>(aI (fun mG=>[some (.v (.d (D.int gj))),some (.own ((oL D.str) mG))]) (kW (jv (dc (dg (a:=qp) rfl)) (sn (Ev.map (fun(z13:List Nat×(List Nat×Unit))=>[z13.1,z13.2.1,(sS "pour 1"),(sS "pour 1 2 3"),(sS "pour 1  2"),(sS "stamp "),(sS " stamp")]) (pN (oL D.str) _ _) (bz (l:=fun z13=>([z13.1,z13.2.1,(sS "pour 1"),(sS "pour 1 2 3"),(sS "pour 1  2"),(sS "stamp "),(sS " stamp")]:List (List Nat))) (e:=D.str) (aQ (sv (jv (sv (cD D.str (sS "take "))) (sv (aB (sv (cD D.str (sS "1"))) (sv (cD D.int (60:Int))) Lc)) fun a7=>dW)) fun a8=>(aQ (sv (jv (sv (cD D.str (sS "take "))) (sv (aB (sv (cD D.str (sS "1"))) (sv (cD D.int (61:Int))) Lc)) fun a9=>dW)) fun a10=>(ah (sv (cD D.str (sS "pour 1"))) (ah (sv (cD D.str (sS "pour 1 2 3"))) (ah (sv (cD D.str (sS "pour 1  2"))) (ah (sv (cD D.str (sS "stamp "))) (ah (sv (cD D.str (sS " stamp"))) aq))))))) (fun _=>(.d (.d (.d (.d (.d (.d (.d .nil)))))))) (fun _=>rfl) (fun _=>rfl)) fun _=>rfl) (fun v=>bN _ v)) fun a14=>(add_l (cb rfl) eI))) (fun _=>rfl) fun mG=>(aI (fun ia=>[some (.v (.d (D.int gj))),some (.own ((oL D.str) ia))]) (kW (aB (dc (dg (a:=mG) rfl)) (sn (Ev.bH (post2:=(pN (oL D.str) _ _)) (bz (l:=fun _=>([(sS "Stamp"),(sS "seal 1"),(sS "thin"),(sS "drop now"),(sS "pack a"),(sS "ask now a:b"),(sS "stamps"),(sS "take 1."),(sS "put none:''")]:List (List Nat))) (e:=D.str) (ah (sv (cD D.str (sS "Stamp"))) (ah (sv (cD D.str (sS "seal 1"))) (ah (sv (cD D.str (sS "thin"))) (ah (sv (cD D.str (sS "drop now"))) (ah (sv (cD D.str (sS "pack a"))) (ah (sv (cD D.str (sS "ask now a:b"))) (ah (sv (cD D.str (sS "stamps"))) (ah (sv (cD D.str (sS "take 1."))) (ah (sv (cD D.str (sS "put none:''"))) aq))))))))) (fun _=>(.d (.d (.d (.d (.d (.d (.d (.d (.d .nil)))))))))) (fun _=>rfl) (fun _=>rfl)) rfl) (fun v=>bN _ v)) (add_l (cb rfl) eI))) (fun _=>rfl) fun ia=>(aU (iH (φ:=fun v18=>v18) (jv (dc (dg (a:=ia) rfl)) (sv (aB (sv (ax (a:=gj) (e:=D.int) rfl)) (sv (cY (ah (dc (dg (a:=ia) rfl)) aq) (oG (cb rfl)))) tM)) fun a17=>(gY (cb rfl))) fun _=>rfl)))))))))))
def jn(ar:List Nat)(aG:List Int):M (List Nat×List Int):=(nox (bT aG)).bind fun aO=>((nox (bT aO.2)).bind fun a2=>((gx ar).bind fun a3=>M.ok (a3+(1:Int))).bind fun a4=>(lH a2.1 a4).bind fun v=>M.ok (v,a2.2)).bind fun at_5=>(nox (bT at_5.2)).bind fun one6=>((bQ [(sS " '':0189"),(sS "abzAZ.,-~\"#")] (one6.1%(2:Int))).bind fun a7=>fu a7 ((one6.1/(2:Int))%(8:Int))).bind fun oM=>(if(decide ((aO.1%(9:Int))<(2:Int)))=true then((((gR ar (none:Option Int) (some at_5.1)).bind fun a9=>br a9 oM).bind fun a10=>(gR ar (some at_5.1) (none:Option Int)).bind fun a11=>br a10 a11).bind fun v12=>M.ok ((v12,one6.2)))else((if(decide ((aO.1%(9:Int))<(4:Int)))=true then((((gR ar (none:Option Int) (some at_5.1)).bind fun a13=>br a13 oM).bind fun a14=>(gR ar (some (at_5.1+(1:Int))) (none:Option Int)).bind fun a15=>br a14 a15).bind fun v16=>M.ok ((v16,one6.2)))else((if(eqB (aO.1%(9:Int)) (4:Int))=true then(((gR ar (none:Option Int) (some at_5.1)).bind fun a17=>(gR ar (some (at_5.1+(1:Int))) (none:Option Int)).bind fun a18=>br a17 a18).bind fun v19=>M.ok ((v19,one6.2)))else((if(eqB (aO.1%(9:Int)) (5:Int))=true then(((gR ar (some (at_5.1+(1:Int))) (some (at_5.1+(2:Int)))).bind fun a20=>(gR ar (some at_5.1) (some (at_5.1+(1:Int)))).bind fun a21=>br a20 a21).bind fun qr=>(((gR ar (none:Option Int) (some at_5.1)).bind fun a23=>br a23 qr).bind fun a24=>(gR ar (some (at_5.1+(2:Int))) (none:Option Int)).bind fun a25=>br a24 a25).bind fun v26=>M.ok ((v26,one6.2)))else((if(eqB (aO.1%(9:Int)) (6:Int))=true then((gR ar (none:Option Int) (some at_5.1)).bind fun v27=>M.ok ((v27,one6.2)))else((if(eqB (aO.1%(9:Int)) (7:Int))=true then((nox (oz one6.1)).bind fun v28=>M.ok ((v28,one6.2)))else(M.ok ((ar,one6.2))))))))))))))
theorem EL{R:List Ob→Prop}{S:(List Int)→List Ob}{n:Nat}(hr:∀ d,(S d)[n]? =some ((oL D.int) d))(hw:∀ d d',(S d).set n ((oL D.int) d')=S d'){ar:List Nat}{aG:List Int}:cE R jm [.d (D.str ar),.r n] (S aG) (jn ar aG) (fun v=>(.val (.d (D.str v.1)),S v.2)):=(dE (aI (fun aO=>[some (.v (.d (D.str ar))),some (.v (.r n)),some (.v (.d (D.int aO.1))),none,none,none,none,none]) (cU (bE (R':=R) (post:=(pE D.int _ S)) (ah (sv (fW (a:=aG) rfl)) aq) (.d .nil) rfl (fJ (aG:=aG) hr hw) (fun _=>rfl))) (fun _=>rfl) fun aO=>(aI (fun at_5=>[some (.v (.d (D.str ar))),some (.v (.r n)),some (.v (.d (D.int aO.1))),some (.v (.d (D.int at_5.1))),none,none,none,none]) (cU (pP (sv (bE (R':=R) (post:=(pE D.int _ S)) (ah (sv (fW (a:=aO.2) rfl)) aq) (.d .nil) rfl (fJ (aG:=aO.2) hr hw) (fun _=>rfl))) (fun a2=>(sv (bO (sv (cY (ah (sv (ax (a:=ar) (e:=D.str) rfl)) aq) kS)) (fun a3=>(sv (cD D.int (1:Int)))) fun a3=>dI))) fun a2 a4=>(Ev.map (fun v=>(v,a2.2)) (pE D.int _ S) tM fun _=>rfl))) (fun _=>rfl) fun at_5=>(aI (fun one6=>[some (.v (.d (D.str ar))),some (.v (.r n)),some (.v (.d (D.int aO.1))),some (.v (.d (D.int at_5.1))),some (.v (.d (D.int one6.1))),none,none,none]) (cU (bE (R':=R) (post:=(pE D.int _ S)) (ah (sv (fW (a:=at_5.2) rfl)) aq) (.d .nil) rfl (fJ (aG:=at_5.2) hr hw) (fun _=>rfl))) (fun _=>rfl) fun one6=>(aI (fun oM=>[some (.v (.d (D.str ar))),some (.v (.r n)),some (.v (.d (D.int aO.1))),some (.v (.d (D.int at_5.1))),some (.v (.d (D.int one6.1))),some (.v (.d (D.str oM))),none,none]) (cU (bO (sv (aB (sn (Ev.bH (post2:=(pN (oL D.str) _ _)) (bz (l:=fun _=>([(sS " '':0189"),(sS "abzAZ.,-~\"#")]:List (List Nat))) (e:=D.str) (ah (sv (cD D.str (sS " '':0189"))) (ah (sv (cD D.str (sS "abzAZ.,-~\"#"))) aq)) (fun _=>(.d (.d .nil))) (fun _=>rfl) (fun _=>rfl)) rfl) (fun v=>bN _ v)) (sv (aB (sv (ax (a:=one6.1) (e:=D.int) rfl)) (sv (cD D.int (2:Int))) (gA (a:=one6.1) (b:=(2:Int)) (by decide)))) (gY eI))) (fun a7=>(sv (aB (sv (aB (sv (ax (a:=one6.1) (e:=D.int) rfl)) (sv (cD D.int (2:Int))) (km (a:=one6.1) (b:=(2:Int)) (rG (by decide) (by decide))))) (sv (cD D.int (8:Int))) (gA (a:=(one6.1/(2:Int))) (b:=(8:Int)) (by decide))))) fun a7=>rB)) (fun _=>rfl) fun oM=>(fx [some (.v (.d (D.str ar))),some (.v (.r n)),some (.v (.d (D.int aO.1))),some (.v (.d (D.int at_5.1))),some (.v (.d (D.int one6.1))),some (.v (.d (D.str oM))),some (.v (.d (D.int (aO.1%(9:Int))))),none] (cU (aB (sv (ax (a:=aO.1) (e:=D.int) rfl)) (sv (cD D.int (9:Int))) (gA (a:=aO.1) (b:=(9:Int)) (by decide)))) rfl (eV (fy (sv (aB (sv (ax (a:=(aO.1%(9:Int))) (e:=D.int) rfl)) (sv (cD D.int (2:Int))) ur))) (aU (iH (φ:=fun v12=>(v12,one6.2)) (pP (sv (bO (sv (fO (sv (ax (a:=ar) (e:=D.str) rfl)) pn (pe (sv (ax (a:=at_5.1) (e:=D.int) rfl))) jx)) (fun a9=>(sv (ax (a:=oM) (e:=D.str) rfl))) fun a9=>dW)) (fun a10=>(sv (fO (sv (ax (a:=ar) (e:=D.str) rfl)) (pe (sv (ax (a:=at_5.1) (e:=D.int) rfl))) pn jx))) fun a10 a11=>dW) fun _=>rfl)) (eV (fy (sv (aB (sv (ax (a:=(aO.1%(9:Int))) (e:=D.int) rfl)) (sv (cD D.int (4:Int))) ur))) (aU (iH (φ:=fun v16=>(v16,one6.2)) (pP (sv (bO (sv (fO (sv (ax (a:=ar) (e:=D.str) rfl)) pn (pe (sv (ax (a:=at_5.1) (e:=D.int) rfl))) jx)) (fun a13=>(sv (ax (a:=oM) (e:=D.str) rfl))) fun a13=>dW)) (fun a14=>(sv (fO (sv (ax (a:=ar) (e:=D.str) rfl)) (pe (sv (aB (sv (ax (a:=at_5.1) (e:=D.int) rfl)) (sv (cD D.int (1:Int))) dI))) pn jx))) fun a14 a15=>dW) fun _=>rfl)) (eV (fy (sv (aB (sv (ax (a:=(aO.1%(9:Int))) (e:=D.int) rfl)) (sv (cD D.int (4:Int))) (d0 aL aL qI (by decide))))) (aU (iH (φ:=fun v19=>(v19,one6.2)) (pP (sv (fO (sv (ax (a:=ar) (e:=D.str) rfl)) pn (pe (sv (ax (a:=at_5.1) (e:=D.int) rfl))) jx)) (fun a17=>(sv (fO (sv (ax (a:=ar) (e:=D.str) rfl)) (pe (sv (aB (sv (ax (a:=at_5.1) (e:=D.int) rfl)) (sv (cD D.int (1:Int))) dI))) pn jx))) fun a17 a18=>dW) fun _=>rfl)) (eV (fy (sv (aB (sv (ax (a:=(aO.1%(9:Int))) (e:=D.int) rfl)) (sv (cD D.int (5:Int))) (d0 aL aL qI (by decide))))) (aI (fun qr=>[some (.v (.d (D.str ar))),some (.v (.r n)),some (.v (.d (D.int aO.1))),some (.v (.d (D.int at_5.1))),some (.v (.d (D.int one6.1))),some (.v (.d (D.str oM))),some (.v (.d (D.int (aO.1%(9:Int))))),some (.v (.d (D.str qr)))]) (cU (pP (sv (fO (sv (ax (a:=ar) (e:=D.str) rfl)) (pe (sv (aB (sv (ax (a:=at_5.1) (e:=D.int) rfl)) (sv (cD D.int (1:Int))) dI))) (pe (sv (aB (sv (ax (a:=at_5.1) (e:=D.int) rfl)) (sv (cD D.int (2:Int))) dI))) jx)) (fun a20=>(sv (fO (sv (ax (a:=ar) (e:=D.str) rfl)) (pe (sv (ax (a:=at_5.1) (e:=D.int) rfl))) (pe (sv (aB (sv (ax (a:=at_5.1) (e:=D.int) rfl)) (sv (cD D.int (1:Int))) dI))) jx))) fun a20 a21=>dW)) (fun _=>rfl) fun qr=>(aU (iH (φ:=fun v26=>(v26,one6.2)) (pP (sv (bO (sv (fO (sv (ax (a:=ar) (e:=D.str) rfl)) pn (pe (sv (ax (a:=at_5.1) (e:=D.int) rfl))) jx)) (fun a23=>(sv (ax (a:=qr) (e:=D.str) rfl))) fun a23=>dW)) (fun a24=>(sv (fO (sv (ax (a:=ar) (e:=D.str) rfl)) (pe (sv (aB (sv (ax (a:=at_5.1) (e:=D.int) rfl)) (sv (cD D.int (2:Int))) dI))) pn jx))) fun a24 a25=>dW) fun _=>rfl))) (eV (fy (sv (aB (sv (ax (a:=(aO.1%(9:Int))) (e:=D.int) rfl)) (sv (cD D.int (6:Int))) (d0 aL aL qI (by decide))))) (aU (iH (φ:=fun v27=>(v27,one6.2)) (fO (sv (ax (a:=ar) (e:=D.str) rfl)) pn (pe (sv (ax (a:=at_5.1) (e:=D.int) rfl))) jx) fun _=>rfl)) (eV (fy (sv (aB (sv (ax (a:=(aO.1%(9:Int))) (e:=D.int) rfl)) (sv (cD D.int (7:Int))) (d0 aL aL qI (by decide))))) (aU (iH (φ:=fun v28=>(v28,one6.2)) (bE (R':=R) (post:=(pD D.str _ _)) (ah (sv (ax (a:=one6.1) (e:=D.int) rfl)) aq) (.d .nil) rfl (GA (gj:=one6.1)) (fun _=>rfl)) fun _=>rfl)) (aU (fj (ax (a:=ar) (e:=D.str) rfl) rfl))))))))))))))
end K34
namespace K34
open PySem L2 PyProof.Rows Vw
def nB:Unit→List Nat→M (Lp Unit (Option Int)):=(fun(c4:Unit) (rh:List Nat)=>(((if(!subIn rh (sS "0123456789"))=true then(M.ok (Lp.ret (none:Option Int)))else(M.ok (.go ())))):M (Lp Unit ((Option Int)))))
theorem ux(aE:List Nat):aZ aE=(orM (M.ok (eqB aE (sS ""))) (orM ((gx aE).bind fun a1=>M.ok (decide ((60:Int)<a1))) (andM ((fu aE (0:Int)).bind fun a2=>M.ok (eqB a2 (sS "0"))) (M.ok (!(eqB aE (sS "0"))))))).bind fun b3=>if b3=true then(M.ok ((none:Option Int)))else((ku nB () (chars aE)).bind (pL (fun r6=>((xc aE).bind fun v=>M.ok (some v)).bind fun v7=>M.ok (v7)) (fun q=>q))):=id rfl
theorem R9{c:Nat}(h:c∈uR):nB () [c]=.ok (.go ()):=by
 unfold nB
 rw[jV,decide_eq_true (show c∈sS "0123456789" from h)]
 rfl
theorem R7{c:Nat}(h:c∉uR):nB () [c]=.ok (.ret none):=by
 unfold nB
 rw[jV,decide_eq_false (show ¬ c∈sS "0123456789" from h)]
 rfl
theorem zi:∀ t:List Nat,((∀ c∈t,c∈uR)→ku nB () (chars t)=.ok (.inl ()))∧(¬ (∀ c∈t,c∈uR)→ku nB () (chars t)=.ok (.inr none))
 | []=>⟨fun _=>rfl,fun h=>absurd (fun c hc=>by cases hc) h⟩
 | c::t=>by
  have ih:=zi t
  have e:chars (c::t)=[c]::chars t:=rfl
  rw[e,yz]
  by_cases hc:c∈uR
  ·rw[R9 hc,M.aa]
   refine⟨fun h=>ih.1 fun x hx=>h x (by simp[hx]),fun h=>ih.2 fun z=>h fun x hx=>?_⟩
   rcases List.mem_cons.mp hx with q | q
   ·rw[q];exact hc
   ·exact z x q
  ·rw[R7 hc]
   exact⟨fun h=>absurd (h c (by simp)) hc,fun _=>rfl⟩
theorem ES{n:Nat}(h:n<10^60)(hp:rT (cO (n:Int))):aZ (cO (n:Int))=.ok (some (n:Int)):=by
 rw[ux]
 obtain⟨h1,h2,h3,h4⟩:=hp
 rw[fE (by omega),MZ,xa,bA h1]
 simp only[M.aa,uX,Bool.false_eq_true,if_false]
 rw[decide_eq_false (by omega)]
 simp only[Bool.false_eq_true,if_false]
 have hd:=F9 h
 generalize cO (n:Int)=t at h1 h2 h3 h4 hd ⊢
 cases t with
 | nil=>exact absurd rfl h1
 | cons c t=>
  rw[N6 (by omega)]
  have e:(andM (M.ok (eqB [c] [48])) (M.ok (!eqB (c::t) [48])))=.ok false:=by
   rcases h3 with h3 | h3
   ·rw[h3];cases h3;rfl
   ·rw[bA (by intro z;apply h3;cases z;rfl)];rfl
  simp only[M.aa]
  rw[e]
  simp only[M.aa,Bool.false_eq_true,if_false]
  rw[(zi (c::t)).1 h4]
  simp only[M.aa,Cr]
  rw[hd]
  rfl
theorem EN{t:List Nat}(hl:t.length≤60000)(hp:¬ rT t):aZ t=.ok none:=by
 rw[ux,fE (by omega),MZ,xa]
 cases t with
 | nil=>rfl
 | cons c t=>
  rw[bA (a:=c::t) (b:=[]) (by simp)]
  simp only[M.aa,uX,Bool.false_eq_true,if_false]
  by_cases h1:(c::t).length≤60
  ·rw[decide_eq_false (by omega)]
   simp only[Bool.false_eq_true,if_false]
   rw[N6 hl]
   simp only[M.aa]
   by_cases h2:(c::t)=[48]∨(c::t).head? ≠some 48
   ·have e:(andM (M.ok (eqB [c] [48])) (M.ok (!eqB (c::t) [48])))=.ok false:=by
     rcases h2 with h2 | h2
     ·rw[h2];cases h2;rfl
     ·rw[bA (by intro z;apply h2;cases z;rfl)];rfl
    rw[e]
    simp only[M.aa,Bool.false_eq_true,if_false]
    rw[(zi (c::t)).2 (fun z=>hp ⟨by simp,h1,h2,z⟩)]
    rfl
   ·have e:(andM (M.ok (eqB [c] [48])) (M.ok (!eqB (c::t) [48])))=.ok true:=by
     have ha:(c::t)≠[48]:=fun z=>h2 (.inl z)
     have hb:c=48:=by
      by_cases q:c=48
      ·exact q
      ·exact absurd (.inr (by simpa using q)) h2
     subst hb
     rw[bF,bA ha]
     rfl
    rw[e]
    rfl
  ·rw[decide_eq_true (by omega)]
   rfl
def lT(ar:List Nat):Int×(List Nat)→M Bool:=(fun(c1:Int×List Nat)=>(gR ar (some c1.1) (some (c1.1+(1:Int)))).bind fun a2=>M.ok (!(eqB a2 (sS ""))))
def lB(ar:List Nat):Int×(List Nat)→M (Lp (Int×List Nat) (Option (List Nat×Int))):=(fun(c1:Int×List Nat)=>((((fu ar c1.1).bind fun a3=>M.ok (!(eqB a3 (sS "'")))).bind fun b4=>if b4=true then(((fu ar c1.1).bind fun a5=>br c1.2 a5).bind fun lN=>M.ok (.go ((c1.1+(1:Int)),lN)))else(((gR ar (some c1.1) (some (c1.1+(2:Int)))).bind fun a7=>M.ok (eqB a7 (sS "''"))).bind fun b8=>if b8=true then((br c1.2 (sS "'")).bind fun lO=>M.ok (.go ((c1.1+(2:Int)),lO)))else(M.ok (Lp.ret (some (c1.2,(c1.1+(1:Int)))))))):M (Lp (Int×List Nat) ((Option (List Nat×Int))))))
theorem Hb(ar:List Nat)(at_:Int):eA ar at_=(l7 (lT ar) (lB ar) ef (at_,(sS ""))).bind (pL (fun r10=>M.ok ((none:Option (List Nat×Int)))) (fun q=>q)):=id rfl
theorem CK{P l:List Nat}{k:Nat}:cz (P++l) (some (P.length:Int)) (some ((P.length:Int)+(k:Int)))=l.take k:=by
 rw[show(P.length:Int)+(k:Int)=((P.length+k:Nat):Int)from(Int.natCast_add ..).symm,sU,Nat.add_sub_cancel_left,List.drop_left]
theorem Ha{acc P l:List Nat}(h:P.length+l.length≤100000):lT (P++l) ((P.length:Int),acc)=.ok (decide (l≠[])):=by
 unfold lT
 dsimp only
 rw[nk (by simp;omega),M.aa,xa,show(1:Int)=((1:Nat):Int)from rfl,CK]
 cases l with
 | nil=>rfl
 | cons c l=>rw[bA (by simp),decide_eq_true (by simp)];rfl
theorem Gn{P l:List Nat}{c:Nat}(h:P.length+(c::l).length≤100000):fu (P++c::l) (P.length:Int)=.ok [c]:=by
 unfold fu
 rw[cB (decide_eq_true (by rw[zL];simp at h ⊢;omega)),M.aa,Vw.atI_nat (by simp)]
 simp
theorem Kx{acc P l:List Nat}{c:Nat}(h:P.length+(c::l).length≤100000)(ha:acc.length≤100000):lB (P++c::l) ((P.length:Int),acc)=.ok (if c=39 then(if l.head? =some 39 then .go (((P.length+2:Nat):Int),acc++[39])else .ret (some (acc,((P.length+1:Nat):Int))))else .go (((P.length+1:Nat):Int),acc++[c])):=by
 unfold lB
 dsimp only
 rw[Gn h,DB,JH]
 simp only[M.aa]
 by_cases hc:c=39
 ·subst hc
  rw[bF]
  simp only[Bool.not_true,Bool.false_eq_true,if_false,if_pos]
  rw[nk (by simp at h ⊢;omega),M.aa,show(2:Int)=((2:Nat):Int)from rfl,CK,M.aa]
  by_cases hq:l.head? =some 39
  ·rw[if_pos hq]
   cases l with
   | nil=>cases hq
   | cons d l=>
    cases hq
    rw[show(39::39::l).take 2=[39,39]from rfl,bF,if_pos rfl,cj (by simp;omega)]
    rfl
  ·rw[if_neg hq,bA (fun z=>hq (by cases l with | nil=>cases z | cons d l=>cases z;rfl))]
   rfl
 ·rw[bA (a:=[c]) (b:=[39]) (by simpa using hc),if_neg hc]
  simp only[Bool.not_false,if_pos]
  rw[cj (by simp;omega)]
  rfl
theorem yl:∀ (l acc P:List Nat) (n:Nat),l.length<n→P.length+l.length≤90000→acc.length+l.length≤90000→
  match tT l with
   | some r=>l7 (lT (P++l)) (lB (P++l)) n ((P.length:Int),acc)=.ok (.inr (some (acc++r.1,((P.length+(qt r.1).length+1:Nat):Int))))
   | none=>∃ c,l7 (lT (P++l)) (lB (P++l)) n ((P.length:Int),acc)=.ok (.inl c)
 | l,acc,P,0,h1,h2,h3=>by omega
 | [],acc,P,n+1,h1,h2,h3=>⟨_,Fs (by rw[Ha (by simpa using by omega)];rfl)⟩
 | [c],acc,P,n+1,h1,h2,h3=>by
  simp only[List.length_cons,List.length_nil]at h1 h2 h3
  have ht:=Ha (acc:=acc) (P:=P) (l:=[c]) (by simp only[List.length_cons,List.length_nil];omega)
  have hb:=Kx (acc:=acc) (P:=P) (l:=[]) (c:=c) (by simp only[List.length_cons,List.length_nil];omega) (by omega)
  by_cases hc:c=39
  ·subst hc
   have e:tT [39]=some ([],[]):=rfl
   rw[e]
   dsimp only
   rw[mF ht hb,List.append_nil]
   rfl
  ·have e:tT [c]=none:=by unfold tT;rw[if_neg hc]
   rw[e]
   dsimp only
   rw[if_neg hc]at hb
   have ih:=yl [] (acc++[c]) (P++[c]) n (by simp;omega) (by simp;omega) (by simp;omega)
   obtain⟨c',ih⟩:=ih
   refine⟨c',?_⟩
   rw[pT ht hb]
   rw[List.append_assoc,List.length_append]at ih
   exact ih
 | c::d::l,acc,P,n+1,h1,h2,h3=>by
  simp only[List.length_cons]at h1 h2 h3
  have ht:=Ha (acc:=acc) (P:=P) (l:=c::d::l) (by simp only[List.length_cons];omega)
  rw[decide_eq_true (by simp)]at ht
  have hb:=Kx (acc:=acc) (P:=P) (l:=d::l) (c:=c) (by simp only[List.length_cons];omega) (by omega)
  by_cases hc:c=39
  ·subst hc
   rw[if_pos rfl]at hb
   by_cases hd:d=39
   ·subst hd
    rw[if_pos (show(39::l).head? =some 39 from rfl)]at hb
    rw[Lg]
    have ih:=yl l (acc++[39]) (P++[39,39]) n (by omega) (by simp;omega) (by simp;omega)
    rw[pT ht hb]
    rw[List.append_assoc,List.length_append]at ih
    cases e:tT l with
    | none=>rw[e]at ih;exact ih
    | some r=>
     rw[e]at ih
     have ih:l7 (lT (P++39::39::l)) (lB (P++39::39::l)) n (((P.length+2:Nat):Int),acc++[39])=_:=ih
     simp only[Option.map]
     rw[ih,jh,if_pos rfl]
     simp
     omega
   ·rw[Pq hd]
    rw[if_neg (by simpa using hd)]at hb
    dsimp only
    rw[mF ht hb,List.append_nil]
    rfl
  ·rw[Pu hc]
   rw[if_neg hc]at hb
   have ih:=yl (d::l) (acc++[c]) (P++[c]) n (by simp only[List.length_cons];omega) (by simp;omega) (by simp;omega)
   rw[pT ht hb]
   rw[List.append_assoc,List.length_append]at ih
   cases e:tT (d::l)with
   | none=>rw[e]at ih;exact ih
   | some r=>
    rw[e]at ih
    have ih:l7 (lT (P++c::d::l)) (lB (P++c::d::l)) n (((P.length+1:Nat):Int),acc++[c])=_:=ih
    simp only[Option.map]
    rw[ih,jh,if_neg hc]
    simp
    omega
theorem Av{P l:List Nat}(h:P.length+l.length≤80000):eA (P++l) (P.length:Int)=.ok ((tT l).map fun r=>(r.1,((P.length+(qt r.1).length+1:Nat):Int))):=by
 rw[Hb,xa]
 have:=yl l [] P ef (by unfold ef;omega) (by omega) (by simp;omega)
 cases e:tT l with
 | none=>
  rw[e]at this
  obtain⟨c,this⟩:=this
  rw[this]
  rfl
 | some r=>
  rw[e]at this
  dsimp only at this
  rw[this]
  rfl
theorem IX{line:List Nat}(h:line.length≤80000):∃ v,eA line (1:Int)=.ok v:=by
 cases line with
 | nil=>exact⟨none,by kernel_rfl⟩
 | cons c l=>exact⟨_,Av (P:=[c]) (l:=l) (by simpa using by simp at h;omega)⟩
theorem JT(a:List Nat)(i:Nat):(Et a [58,39] (i:Int)= -1∧∀ k,i≤k→(a.drop k).take 2≠[58,39])∨∃ j:Nat,Et a [58,39] (i:Int)=(j:Int)∧i≤j∧(a.drop j).take 2=[58,39]∧∀ k,i≤k→k<j→(a.drop k).take 2≠[58,39]:=by
 have hx:(Vw.st a).cps.toList=a:=by simp[Vw.st]
 have hl:(Vw.st a).length=a.length:=by simp[Vw.st,Str.length]
 have hy:(Vw.st [58,39]).cps.toList=[58,39]:=by simp[Vw.st]
 have hyl:(Vw.st [58,39]).length=2:=by simp[Vw.st,Str.length]
 have hat:∀ k,StrLaws.At (Vw.st a) (Vw.st [58,39]) (Vw.st a).length k↔(a.drop k).take 2=[58,39]:=fun k=>by
  unfold StrLaws.At
  rw[StrLaws.subAt_eq,hx,hy,hyl,hl]
  constructor
  ·intro h;simpa using h.2
  ·intro h
   refine⟨?_,by simpa using h⟩
   have:=congrArg List.length h
   simp at this
   omega
 have hf:fromIndex (Vw.st a).length (i:Int)=i:=by unfold fromIndex;split<;> omega
 unfold Et Txt.find3
 rw[hf]
 rcases StrLaws.occ_head_from (Vw.st a) (Vw.st [58,39]) i 1 (Nat.le_refl 1)with⟨h0,hn⟩ | ⟨j,r,h0,hj,ha,hn⟩
 ·rw[h0]
  exact .inl ⟨rfl,fun k hk z=>hn k hk ((hat k).mpr z)⟩
 ·rw[h0]
  exact .inr ⟨j,rfl,hj,(hat j).mp ha,fun k hk hk2 z=>hn k hk hk2 ((hat k).mpr z)⟩
def dF(ar:List Nat)(c1:(List (List Nat×List Nat))×Int)(at_5:Int):M (Lp ((List (List Nat×List Nat))×Int) (Option (List (List Nat×List Nat)))):=(CQ ar (sS ":'") at_5).bind fun cT=>(nox (eA ar (cT+(2:Int)))).bind fun e6=>(if((decide (cT<(0:Int)))||((e6.isNone)||(!(decide ((1:Int)≤(cT-at_5))&&decide ((cT-at_5)≤(12:Int))))))=true then(M.ok (Lp.ret (none:Option (List (List Nat×List Nat)))))else((gR ar (some at_5) (some cT)).bind fun e7=>((fM (fun(c5:List Nat)=>M.ok (!subIn c5 (sS "abcdefghijklmnopqrstuvwxyz"))) (fun(c5:List Nat)=>M.ok c5) (chars e7)).bind fun a10=>M.ok (!(eqB a10 ([]:List (List Nat))))).bind fun b11=>if b11=true then(M.ok (Lp.ret (none:Option (List (List Nat×List Nat)))))else((andM (M.ok (!(eqB c1.1 ([]:List (List Nat×List Nat))))) (((bQ c1.1 (-(1:Int))).bind fun a12=>M.ok a12.1).bind fun a13=>M.ok (!eG a13 e7))).bind fun b14=>if b14=true then(M.ok (Lp.ret (none:Option (List (List Nat×List Nat)))))else(((((((uk e6).bind fun a15=>M.ok a15.1).bind fun a16=>(M.ok ()).bind fun w17=>M.ok (a16,w17)).bind fun z18=>M.ok (e7,z18.1)).bind fun a19=>(M.ok ()).bind fun w20=>M.ok (a19,w20)).bind fun z21=>iy c1.1 z21.1).bind fun cR=>((uk e6).bind fun a23=>M.ok a23.2).bind fun at_24=>M.ok (.go (cR,at_24))))))
def dT(ar:List Nat):(List (List Nat×List Nat))×Int→M Bool:=(fun(c1:(List (List Nat×List Nat))×Int)=>orM (M.ok (eqB c1.1 ([]:List (List Nat×List Nat)))) ((gx ar).bind fun a2=>M.ok (decide (c1.2<a2))))
def dB(ar:List Nat):(List (List Nat×List Nat))×Int→M (Lp ((List (List Nat×List Nat))×Int) (Option (List (List Nat×List Nat)))):=(fun(c1:(List (List Nat×List Nat))×Int)=>(((andM (M.ok (!(eqB c1.1 ([]:List (List Nat×List Nat))))) ((fu ar c1.2).bind fun a3=>M.ok (!(eqB a3 (sS " "))))).bind fun b4=>if b4=true then(M.ok (Lp.ret (none:Option (List (List Nat×List Nat)))))else((M.ok (c1.2+(if(!(eqB c1.1 ([]:List (List Nat×List Nat))))=true then(1:Int)else 0))).bind fun at_5=>dF ar c1 at_5)):M (Lp ((List (List Nat×List Nat))×Int) ((Option (List (List Nat×List Nat)))))))
theorem HY(ar:List Nat):dw ar=(if(eqB ar (sS "none"))=true then(M.ok ((some ([]:List (List Nat×List Nat)))))else((l7 (dT ar) (dB ar) ef (([]:List (List Nat×List Nat)),(0:Int))).bind (pL (fun r25=>M.ok ((some r25.1))) (fun q=>q)))):=id rfl
end K34
namespace K34
open PySem L2 PyProof.Rows Vw
theorem MP{T:Type}{l:List T}{x:T}:bQ (l++[x]) (-(1:Int))=.ok x:=by
 have:atI (l++[x]) (-(1:Int))=some x:=by
  unfold atI ixN
  rw[if_neg (by omega),if_pos (by simp;omega)]
  have:((-(1:Int))+((l++[x]).length:Nat)).toNat=l.length:=by simp;omega
  rw[this]
  simp
 unfold bQ
 rw[this]
theorem Hy:∀ (w:List Nat) (m:List Nat),(∀ c∈w,c∈dY)→(w++58::m).takeWhile (· ∈dY)=w∧(w++58::m).dropWhile (· ∈dY)=58::m
 | [],m,h=>by
  have:¬ (58∈dY):=by decide+kernel
  simp[List.takeWhile_cons,List.dropWhile_cons,this]
 | c::w,m,h=>by
  have hc:=h c (by simp)
  obtain⟨h1,h2⟩:=Hy w m fun x hx=>h x (by simp[hx])
  simp[List.takeWhile_cons,List.dropWhile_cons,hc,h1,h2]
theorem Ck{w m:List Nat}(h:∀ c∈w,c∈dY):fP (w++58::39::m)=(tT m).map fun u=>((w,u.1),u.2):=by
 unfold fP
 obtain⟨h1,h2⟩:=Hy w (39::m) h
 rw[h1,h2]
 dsimp only
 rw[if_pos ⟨rfl,rfl⟩]
theorem MA{w:List Nat}:fM (fun(c5:List Nat)=>M.ok (!subIn c5 (sS "abcdefghijklmnopqrstuvwxyz"))) (fun(c5:List Nat)=>M.ok c5) (chars w)=.ok ((chars w).filter fun s=> !subIn s (sS "abcdefghijklmnopqrstuvwxyz"))∨16777216<w.length:=by
 by_cases hl:w.length≤16777216
 ·left
  have:=HQ (mt:=fun(c5:List Nat)=>M.ok (!subIn c5 (sS "abcdefghijklmnopqrstuvwxyz"))) (me:=fun(c5:List Nat)=>M.ok c5) (b:=fun s=> !subIn s (sS "abcdefghijklmnopqrstuvwxyz")) (F:=fun s=>s) (l:=chars w) (fun _ _=>rfl) (fun _ _ _=>rfl) (by unfold chars;simpa using hl)
  rw[this,List.map_id']
 ·right;omega
theorem FR{w:List Nat}:((chars w).filter fun s=> !subIn s (sS "abcdefghijklmnopqrstuvwxyz"))=[]↔∀ c∈w,c∈dY:=by
 rw[List.filter_eq_nil_iff]
 constructor
 ·intro h c hc
  have:=h [c] (by unfold chars;exact List.mem_map.mpr ⟨c,hc,rfl⟩)
  rw[jV]at this
  simp at this
  exact this
 ·intro h s hs
  unfold chars at hs
  obtain⟨c,hc,rfl⟩:=List.mem_map.mp hs
  rw[jV,decide_eq_true (show c∈sS "abcdefghijklmnopqrstuvwxyz" from h c hc)]
  simp
theorem Rj{a:List Nat}(h:a.take 2=[58,39]):∃ m,a=58::39::m:=by
 cases a with
 | nil=>cases h
 | cons x a=>
  cases a with
  | nil=>cases h
  | cons y a=>cases h;exact⟨a,rfl⟩
theorem Il(P:List Nat)(x:List Nat×List Nat)(r:List Nat):((P++(fld x++r)).drop (P.length+x.1.length)).take 2=[58,39]:=by
 unfold fld
 rw[←List.drop_drop,List.drop_left,List.append_assoc,List.drop_left]
 rfl
theorem NT{P l:List Nat}{found:Doc}{c:List Nat}{a0:Int}(h:P.length+l.length≤60000)(hf:found.length≤60000)(hc:(found=[]∧c=[])∨∃ f0 x,found=f0++[x]∧c=x.1):dF (P++l) (found,a0) (P.length:Int)=.ok (match fP l with
  | none=>.ret none
  | some u=>if(decide (gm u.1.1)&&eG c u.1.1)=true then .go (found++[u.1],((P.length+(fld u.1).length:Nat):Int))else .ret none):=by
 unfold dF CQ
 rw[J9,M.aa]
 rcases JT (P++l) P.length with⟨e,hn⟩ | ⟨j,e,hj,ht,hn⟩
 ·have hno:fP l=none:=by
   cases e2:fP l with
   | none=>rfl
   | some u=>
    have hq:=(oA (x:=u.1) (r:=u.2) (by rw[e2])).1
    refine absurd ?_ (hn (P.length+u.1.1.length) (by omega))
    rw[hq]
    exact Il P u.1 u.2
  rw[e,hno]
  obtain⟨v,ev⟩:=IX (line:=P++l) (by simp;omega)
  rw[show((-1:Int)+2)=1 from rfl,ev,d6,M.aa]
  rfl
 ·obtain⟨k,rfl⟩:∃ k,j=P.length+k:=⟨j-P.length,by omega⟩
  have hd:(P++l).drop (P.length+k)=l.drop k:=by rw[←List.drop_drop,List.drop_left]
  rw[hd]at ht
  obtain⟨m,em⟩:=Rj ht
  obtain⟨w,ew⟩:∃ w,w=l.take k:=⟨_,rfl⟩
  have el:l=w++58::39::m:=by rw[ew,←em,List.take_append_drop]
  have hk:w.length=k:=by
   rw[ew,List.length_take]
   have:=congrArg List.length em
   simp at this
   omega
  have hll:=congrArg List.length el
  simp only[List.length_append,List.length_cons]at hll
  rw[e]
  have etx:eA (P++l) (((P.length+k:Nat):Int)+2)=.ok ((tT m).map fun r=>(r.1,(((P++w++[58,39]).length+(qt r.1).length+1:Nat):Int))):=by
   have:=Av (P:=P++w++[58,39]) (l:=m) (by simp;omega)
   rw[show(P++w++[58,39])++m=P++l by rw[el];simp]at this
   rw[←this]
   congr 1
   simp
   omega
  rw[etx,d6,M.aa]
  have e1:(((P.length+k:Nat):Int)<(0:Int))↔False:=iff_false_intro (by omega)
  have e2:((P.length+k:Nat):Int)-(P.length:Int)=(w.length:Int):=by omega
  rw[e2,decide_eq_false (fun z=>e1.mp z),Bool.false_or]
  have bad:∀ X:Option ((List Nat×List Nat)×List Nat),(∀ u,X=some u→(∀ z∈w,z∈dY)∧u.1.1=w)→(tT m=none→X=none)→(¬ (∀ z∈w,z∈dY)∨¬ (1≤w.length∧w.length≤12))→(match X with
    | none=>(Lp.ret none:Lp (Doc×Int) (Option Doc))
    | some u=>if(decide (gm u.1.1)&&eG c u.1.1)=true then .go (found++[u.1],((P.length+(fld u.1).length:Nat):Int))else .ret none)=.ret none:=fun X hX _ hb=>by
   cases X with
   | none=>rfl
   | some u=>
    obtain⟨q1,q2⟩:=hX u rfl
    dsimp only
    rw[if_neg]
    rw[Bool.and_eq_true]
    rintro⟨z,_⟩
    have z:=of_decide_eq_true z
    rw[q2]at z
    rcases hb with hb | hb
    ·exact hb q1
    ·exact hb ⟨z.1,z.2.1⟩
  have hX:∀ u,fP l=some u→(∀ z∈w,z∈dY)∧u.1.1=w:=fun u eu=>by
   obtain⟨q1,q2⟩:=oA (x:=u.1) (r:=u.2) (by rw[eu])
   have hle:k≤u.1.1.length:=by
    by_cases z:k≤u.1.1.length
    ·exact z
    ·have:=hn (P.length+u.1.1.length) (by omega) (by omega)
     rw[q1]at this
     exact absurd (Il P u.1 u.2) this
   have hwl:w=u.1.1.take k:=by
    rw[ew,q1]
    unfold fld
    rw[List.append_assoc,List.take_append_of_le_length hle]
   have hwL:∀ z∈w,z∈dY:=fun z hz=>q2 z (by rw[hwl]at hz;exact List.mem_of_mem_take hz)
   refine⟨hwL,?_⟩
   rw[el,Ck hwL]at eu
   obtain⟨v,_,ev⟩:=Option.map_eq_some_iff.mp eu
   rw[←ev]
  by_cases hlen:1≤w.length∧w.length≤12
  ·have en:(!(decide ((1:Int)≤(w.length:Int))&&decide ((w.length:Int)≤(12:Int))))=false:=by
    rw[decide_eq_true (by omega),decide_eq_true (by omega)]
    rfl
   rw[en,Bool.or_false]
   cases et:tT m with
   | none=>
    have hno:fP l=none:=by
     cases eu:fP l with
     | none=>rfl
     | some u=>
      have:=(hX u eu).1
      rw[el,Ck this,et]at eu
      cases eu
    rw[hno]
    rfl
   | some t=>
    simp only[Option.map,Option.isNone,Bool.false_eq_true,if_false]
    rw[nk (by simp;omega),M.aa]
    have ecut:cz (P++l) (some (P.length:Int)) (some ((P.length+k:Nat):Int))=w:=by
     rw[show((P.length+k:Nat):Int)=(P.length:Int)+(k:Int) by omega,CK,ew]
    rw[ecut]
    rcases MA (w:=w)with efl | z
    ·rw[efl]
     simp only[M.aa]
     by_cases hw:∀ z∈w,z∈dY
     ·rw[FR.mpr hw,bF]
      simp only[Bool.not_true,Bool.false_eq_true,if_false]
      have efp:fP l=some ((w,t.1),t.2):=by rw[el,Ck hw,et];rfl
      rw[efp]
      dsimp only
      have hNm:gm w:=⟨hlen.1,hlen.2,hw⟩
      rw[decide_eq_true hNm,Bool.true_and]
      have eand:(andM (M.ok (!(eqB found ([]:List (List Nat×List Nat))))) (((bQ found (-(1:Int))).bind fun a12=>M.ok a12.1).bind fun a13=>M.ok (!eG a13 w)))=.ok (!eG c w):=by
       rcases hc with⟨q1,q2⟩ | ⟨f0,x,q1,q2⟩
       ·subst q1 q2
        have:eG [] w=true:=by
         cases w with
         | nil=>simp at hlen
         | cons a t=>exact decide_eq_true (List.nil_lt_cons a t)
        rw[bF,this]
        rfl
       ·subst q1
        rw[bA (by simp),MP]
        simp only[Bool.not_false,h9,if_true,M.aa]
        rw[q2]
      rw[eand,M.aa]
      cases elx:eG c w with
      | false=>rfl
      | true=>
       simp only[Bool.not_true,Bool.false_eq_true,if_false,if_true,Iv,M.aa]
       rw[iI (by omega)]
       simp only[M.aa]
       congr 3
       unfold fld
       simp
       omega
     ·rw[bA (fun z=>hw (FR.mp z))]
      rw[bad _ hX (fun z=>by rw[et]at z;cases z) (.inl hw)]
      rfl
    ·omega
  ·have en:(!(decide ((1:Int)≤(w.length:Int))&&decide ((w.length:Int)≤(12:Int))))=true:=by
    by_cases q:1≤w.length
    ·rw[decide_eq_true (p:=(1:Int)≤(w.length:Int)) (by omega),decide_eq_false (p:=(w.length:Int)≤(12:Int)) (by omega)]
     rfl
    ·rw[decide_eq_false (p:=(1:Int)≤(w.length:Int)) (by omega)]
     rfl
   rw[en,Bool.or_true]
   rw[bad _ hX (fun z=>by
    cases eu:fP l with
    | none=>rfl
    | some u=>
     have:=(hX u eu).1
     rw[el,Ck this,z]at eu
     cases eu) (.inr hlen)]
   rfl
end K34
namespace K34
open PySem L2 PyProof.Rows Vw
theorem GI{line:List Nat}{found:Doc}{a:Int}(h:line.length≤60000):dT line (found,a)=.ok (decide (found=[]∨a<(line.length:Int))):=by
 unfold dT
 dsimp only
 rw[fE (by omega)]
 by_cases h0:found=[]
 ·rw[h0,bF]
  rfl
 ·rw[bA h0]
  simp only[M.aa,uX,Bool.false_eq_true,if_false]
  congr 1
  rw[decide_eq_decide]
  simp[h0]
theorem Km{line:List Nat}{a:Int}:dB line ([],a)=dF line ([],a) (a+0):=by
 unfold dB
 rfl
theorem QZ{P r:List Nat}{c:Nat}{found:Doc}(h:P.length+(c::r).length≤60000)(hf:found≠[])(hc:c≠32):dB (P++c::r) (found,(P.length:Int))=.ok (.ret none):=by
 unfold dB
 dsimp only
 rw[bA hf,Gn (by omega),rC]
 simp only[Bool.not_false,h9,if_true,M.aa]
 rw[bA (by simpa using hc)]
 rfl
theorem Q4{P r:List Nat}{found:Doc}(h:P.length+(32::r).length≤60000)(hf:found≠[]):dB (P++32::r) (found,(P.length:Int))=dF (P++32::r) (found,(P.length:Int)) ((P.length:Int)+1):=by
 unfold dB
 dsimp only
 rw[bA hf,Gn (by omega),rC]
 simp only[Bool.not_false,h9,if_true,M.aa]
 rw[bF]
 rfl
theorem yV:∀ (n:Nat) (l:List Nat) (f0:Doc) (x:List Nat×List Nat) (P:List Nat) (m:Nat),l.length<n→n≤m→P.length+l.length≤50000→f0.length+l.length≤50000→
  l7 (dT (P++l)) (dB (P++l)) m (f0++[x],(P.length:Int))=.ok (match iB n l with
   | some d=>if jX x.1 d=true then .inl (f0++x::d,((P++l).length:Int))else .inr none
   | none=>.inr none)
 | 0,l,f0,x,P,m,h1,h2,h3,h4=>by omega
 | n+1,l,f0,x,P,0,h1,h2,h3,h4=>by omega
 | n+1,[],f0,x,P,m+1,h1,h2,h3,h4=>by
  have e:iB (n+1) []=some []:=rfl
  rw[e]
  dsimp only
  rw[Fs]
  ·rw[List.append_nil]
   rfl
  ·rw[GI (by simpa using by omega),decide_eq_false]
   simp
 | n+1,c::r,f0,x,P,m+1,h1,h2,h3,h4=>by
  simp only[List.length_cons]at h1 h3 h4
  have ht:dT (P++c::r) (f0++[x],(P.length:Int))=.ok true:=by
   rw[GI (by simp;omega),decide_eq_true]
   right
   simp
   omega
  have hf:f0++[x]≠[]:=by simp
  unfold iB
  by_cases hc:c=32
  ·subst hc
   rw[if_pos rfl]
   have hb:=Q4 (P:=P) (r:=r) (found:=f0++[x]) (by simp;omega) hf
   have hd:=NT (P:=P++[32]) (l:=r) (found:=f0++[x]) (c:=x.1) (a0:=(P.length:Int)) (by simp;omega) (by simp;omega) (.inr ⟨f0,x,rfl,rfl⟩)
   have eL:((List.length (P++[32]):Nat):Int)=(P.length:Int)+1:=by simp
   rw[show(P++[32])++r=P++32::r by simp,eL]at hd
   rw[hd]at hb
   cases e:fP r with
   | none=>
    rw[e]at hb
    rw[mF ht hb]
   | some u=>
    rw[e]at hb
    dsimp only at hb ⊢
    have hl:=yW e
    have hg:=pK u.1
    have hq:=(oA (x:=u.1) (r:=u.2) (by rw[e])).1
    cases ec:(decide (gm u.1.1)&&eG x.1 u.1.1)with
    | false=>
     rw[ec]at hb
     rw[mF ht hb]
     cases iB n u.2 with
     | none=>rfl
     | some d=>
      have echB:jX x.1 (u.1::d)=false:=by unfold jX;rw[ec];rfl
      simp only[Option.map]
      rw[echB]
      rfl
    | true=>
     rw[ec,if_pos rfl]at hb
     rw[pT ht hb]
     have ih:=yV n u.2 (f0++[x]) u.1 (P++[32]++fld u.1) m (by omega) (by omega) (by simp;omega) (by simp;omega)
     have eline:(P++[32]++fld u.1)++u.2=P++32::r:=by rw[hq];simp
     have elen:(((P++[32]++fld u.1).length:Nat):Int)=(((P++[32]).length+(fld u.1).length:Nat):Int):=by simp;omega
     rw[eline,elen]at ih
     rw[ih]
     cases iB n u.2 with
     | none=>rfl
     | some d=>
      have echB:jX x.1 (u.1::d)=jX u.1.1 d:=by
       conv=>lhs;unfold jX
       rw[ec];rfl
      simp only[Option.map]
      rw[echB]
      simp
  ·rw[if_neg hc]
   rw[mF ht (QZ (by simp;omega) hf hc)]
theorem DM{l:List Nat}(h:l.length≤40000):dw l=.ok (kf l):=by
 rw[HY]
 unfold kf
 by_cases h0:l=sS "none"
 ·rw[h0,bF,if_pos rfl,if_pos rfl]
 ·rw[bA h0,if_neg h0]
  simp only[Bool.false_eq_true,if_false]
  have ht:dT l ([],(0:Int))=.ok true:=by
   rw[GI (by omega),decide_eq_true (.inl rfl)]
  have hb:=Km (line:=l) (a:=0)
  have hd:=NT (P:=[]) (l:=l) (found:=[]) (c:=[]) (a0:=0) (by simp;omega) (by simp) (.inl ⟨rfl,rfl⟩)
  rw[List.nil_append]at hd
  have hd:dF l ([],0) (0+0)=_:=hd
  rw[hd]at hb
  have hw:ef=(ef- 1)+1:=by unfold ef;rfl
  rw[hw]
  unfold vG
  cases e:fP l with
  | none=>
   rw[e]at hb
   rw[mF ht hb]
   rfl
  | some u=>
   rw[e]at hb
   dsimp only at hb ⊢
   have hl:=yW e
   have hg:=pK u.1
   have hq:=(oA (x:=u.1) (r:=u.2) (by rw[e])).1
   cases ec:(decide (gm u.1.1)&&eG [] u.1.1)with
   | false=>
    rw[ec]at hb
    rw[mF ht hb]
    cases iB (l.length+1) u.2 with
    | none=>rfl
    | some d=>
     have echB:jX [] (u.1::d)=false:=by unfold jX;rw[ec];rfl
     simp only[Option.map]
     rw[echB]
     rfl
   | true=>
    rw[ec,if_pos rfl]at hb
    rw[pT ht hb]
    have ih:=yV (l.length+1) u.2 [] u.1 (fld u.1) (ef- 1) (by omega) (by unfold ef;omega) (by omega) (by simp;omega)
    rw[←hq]at ih
    rw[show((List.length ([]:List Nat)+(fld u.1).length:Nat):Int)=((fld u.1).length:Int) by simp]
    rw[ih]
    cases iB (l.length+1) u.2 with
    | none=>rfl
    | some d=>
     have echB:jX [] (u.1::d)=jX u.1.1 d:=by
      conv=>lhs;unfold jX
      rw[ec];rfl
     simp only[Option.map]
     rw[echB]
     cases jX u.1.1 d<;> rfl
end K34
namespace K34
open PySem L2 PyProof.Rows Vw
def ir:List Nat→Ws
 | []=>[[]]
 | c::r=>if c=32 then []::ir r else match ir r with
  | x::l=>(c::x)::l
  | []=>[[c]]
theorem uH:∀ X:List Nat,ir X≠[]
 | []=>by simp[ir]
 | c::r=>by
  unfold ir
  split
  ·simp
  ·split<;> simp
theorem An:∀ X:List Nat,((ir X).map (·.length)).sum+(ir X).length=X.length+1
 | []=>rfl
 | c::r=>by
  have ih:=An r
  unfold ir
  split
  ·simp only[List.map_cons,List.sum_cons,List.length_cons,List.length_nil]
   omega
  ·cases e:ir r with
   | nil=>exact absurd e (uH r)
   | cons x l=>
    rw[e]at ih
    simp only[List.map_cons,List.sum_cons,List.length_cons]at ih ⊢
    omega
theorem pts_one:∀ a:List Nat,32∉a→ir a=[a]
 | [],_=>rfl
 | c::r,h=>by
  have hc:c≠32:=fun z=>h (by simp[z])
  unfold ir
  rw[if_neg hc,pts_one r (fun z=>h (by simp[z]))]
theorem Qm(r:List Nat):ir (32::r)=[]::ir r:=by
 conv=>lhs;unfold ir
 rw[if_pos rfl]
theorem Qy{c:Nat}{r:List Nat}(h:c≠32):ir (c::r)=match ir r with
  | x::l=>(c::x)::l
  | []=>[[c]]:=by
 conv=>lhs;unfold ir
 rw[if_neg h]
theorem jM:∀ (a b:List Nat),32∉a→ir (a++32::b)=a::ir b
 | [],b,_=>by
  exact Qm b
 | c::r,b,h=>by
  have hc:c≠32:=fun z=>h (by simp[z])
  show ir (c::(r++32::b))=_
  rw[Qy hc,jM r b (fun z=>h (by simp[z]))]
theorem kE:∀ X:List Nat,32∉X∨∃ a b,X=a++32::b∧32∉a
 | []=>.inl (by simp)
 | c::r=>by
  by_cases hc:c=32
  ·exact .inr ⟨[],r,by rw[hc];rfl,by simp⟩
  ·rcases kE r with h | ⟨a,b,e,h⟩
   ·left
    simp only[List.mem_cons,not_or]
    exact⟨Ne.symm hc,h⟩
   ·right
    refine⟨c::a,b,by rw[e];rfl,?_⟩
    simp only[List.mem_cons,not_or]
    exact⟨Ne.symm hc,h⟩
theorem Ia{a b:List Nat}(ha:32∉a):sW (a++32::b) [32]=a::sW b [32]:=by
 rw[zV,zV]
 have e:a++32::b=a++(32::[]++b):=rfl
 rw[e,TL.spl_part1 ha]
 rfl
theorem Eo:∀ (n:Nat) (X:List Nat),X.length≤n→sW X [32]=ir X
 | n,X,h=>by
  rcases kE X with h1 | ⟨a,b,e,h1⟩
  ·rw[Kl h1,pts_one X h1]
  ·have hl:=congrArg List.length e
   simp only[List.length_append,List.length_cons]at hl
   cases n with
   | zero=>omega
   | succ n=>rw[e,Ia h1,jM a b h1,Eo n b (by omega)]
theorem D3{X:List Nat}(h:X.length≤60000):xA X (sS " ")=.ok (ir X):=by
 unfold xA
 rw[rC,cB (decide_eq_true ⟨by simp,by rw[zL];omega⟩),M.aa,Eo _ X (Nat.le_refl _)]
theorem E7:∀ (l:Ws) (t:List Nat),t∈l→t.length≤(l.map (·.length)).sum
 | [],t,h=>by cases h
 | x::l,t,h=>by
  simp only[List.map_cons,List.sum_cons]
  rcases List.mem_cons.mp h with e | e
  ·rw[e];omega
  ·have:=E7 l t e
   omega
theorem MT{X t:List Nat}(h:t∈ir X):t.length≤X.length:=by
 have h1:=E7 _ t h
 have h2:=An X
 have h3:=List.length_pos_iff.mpr (uH X)
 omega
theorem CO{a b:List Nat}(h:32∉a)(hl:a.length+b.length≤60000):sF (a++32::b) (sS " ")=.ok (a,[32],b):=by
 unfold sF
 rw[rC,cB (decide_eq_true ⟨by simp,by rw[zL];simp;omega⟩),M.aa,Ki h]
theorem uG{a:List Nat}(h:32∉a)(hl:a.length≤60000):sF a (sS " ")=.ok (a,[],[]):=by
 unfold sF
 rw[rC,cB (decide_eq_true ⟨by simp,by rw[zL];omega⟩),M.aa,ID h]
theorem yf:∀ (l:Ws) (acc:List Int),(∀ t∈l,t.length≤60000)→acc.length+l.length≤60000→((∀ t∈l,rT t)∧∃ ns:List Nat,l=ns.map (fun(n:Nat)=>cO (n:Int))∧(∀ n∈ns,n<10^60)∧lz (fun(part14:List Nat)=>cy part14) acc l=.ok (acc++ns.map fun(n:Nat)=>(n:Int)))∨(¬ (∀ t∈l,rT t)∧lz (fun(part14:List Nat)=>cy part14) acc l=.exc NL)
 | [],acc,h,hl=>.inl ⟨fun t ht=>(by cases ht),[],rfl,fun n hn=>(by cases hn),by simp[lz]⟩
 | t::l,acc,h,hl=>by
  simp only[List.length_cons]at hl
  have ht:=h t (by simp)
  unfold lz
  by_cases hp:rT t
  ·obtain⟨n,hn,e⟩:=Hm hp
   have en:cy t=.ok (n:Int):=by rw[e];exact jU hn
   rw[en,M.aa,cB (decide_eq_true (by rw[zL];omega)),M.aa]
   rcases yf l (acc++[(n:Int)]) (fun u hu=>h u (by simp[hu])) (by simp;omega)with⟨h1,ns,h2,h3,h4⟩ | ⟨h1,h2⟩
   ·left
    refine⟨fun u hu=>?_,n::ns,by rw[List.map_cons,←h2,←e],fun m hm=>?_,by rw[h4];simp⟩
    ·rcases List.mem_cons.mp hu with q | q
     ·rw[q];exact hp
     ·exact h1 u q
    ·rcases List.mem_cons.mp hm with q | q
     ·rw[q];exact hn
     ·exact h3 m q
   ·right
    exact⟨fun z=>h1 fun u hu=>z u (by simp[hu]),h2⟩
  ·right
   rw[u4 ht hp]
   exact⟨fun z=>hp (z t (by simp)),rfl⟩
def O8:Dd→Prop
 | .put d=>jX [] d=true
 | .change n d=>n<10^60∧jX [] d=true
 | .bare w=>w∈zS
 | .one w n=>w∈yK∧n<10^60
 | .pour n m=>n<10^60∧m<10^60
def w4:Ws:=[sS "take",sS "drop",sS "pack",sS "pour"]
def nV(ar:List Nat)(bg:Ws):M D:=((bQ bg (0:Int)).bind fun a2=>M.ok (eqB a2 (sS "put"))).bind fun b3=>if b3=true then(((((((gR ar (some (4:Int)) (none:Option Int)).bind fun a4=>(M.ok ()).bind fun w5=>M.ok (a4,w5)).bind fun z6=>nox (dw z6.1)).bind fun v=>M.ok ((eO (eL (aP D.str D.str))) v)).bind fun a7=>(M.ok ()).bind fun w8=>M.ok (a7,w8)).bind fun z9=>M.ok (D.tup [(D.str (sS "put")),z9.1])).bind fun jr=>(lF (eN ()) jr).bind fun b11=>if b11=true then(M.ok ((eN ())))else(M.ok (jr)))else((andM ((bQ bg (0:Int)).bind fun a12=>M.ok (eqB a12 (sS "change"))) (M.ok (decide ((2:Int)<(bg.length:Int))))).bind fun b13=>if b13=true then(((((((bQ bg (1:Int)).bind fun a14=>(M.ok ()).bind fun w15=>M.ok (a14,w15)).bind fun z16=>nox (aZ z16.1)).bind fun v=>M.ok ((eO D.int) v)).bind fun a17=>(((((((((bQ bg (1:Int)).bind fun a18=>(M.ok ()).bind fun w19=>M.ok (a18,w19)).bind fun z20=>gx z20.1).bind fun a21=>M.ok (a21+(8:Int))).bind fun l22=>(M.ok ()).bind fun h23=>gR ar (some l22) (none:Option Int)).bind fun a24=>(M.ok ()).bind fun w25=>M.ok (a24,w25)).bind fun z26=>nox (dw z26.1)).bind fun v=>M.ok ((eO (eL (aP D.str D.str))) v)).bind fun a27=>(M.ok ()).bind fun w28=>M.ok (a27,w28)).bind fun w29=>M.ok (a17,w29)).bind fun z30=>M.ok (D.tup [(D.str (sS "change")),z30.1,z30.2.1])).bind fun js=>(lF (eN ()) js).bind fun b32=>if b32=true then(M.ok ((eN ())))else(M.ok (js)))else((andM ((bQ bg (0:Int)).bind fun a33=>M.ok (eqB a33 (sS "pour"))) (M.ok (eqB (bg.length:Int) (3:Int)))).bind fun b34=>if b34=true then(((((((bQ bg (1:Int)).bind fun a35=>(M.ok ()).bind fun w36=>M.ok (a35,w36)).bind fun z37=>nox (aZ z37.1)).bind fun v=>M.ok ((eO D.int) v)).bind fun a38=>(((((bQ bg (2:Int)).bind fun a39=>(M.ok ()).bind fun w40=>M.ok (a39,w40)).bind fun z41=>nox (aZ z41.1)).bind fun v=>M.ok ((eO D.int) v)).bind fun a42=>(M.ok ()).bind fun w43=>M.ok (a42,w43)).bind fun w44=>M.ok (a38,w44)).bind fun z45=>M.ok (D.tup [(D.str (sS "pour")),z45.1,z45.2.1])).bind fun jt=>(lF (eN ()) jt).bind fun b47=>if b47=true then(M.ok ((eN ())))else(M.ok (jt)))else((andM ((bQ bg (0:Int)).bind fun a48=>M.ok (d8 a48 [(sS "take"),(sS "drop"),(sS "pack")])) (M.ok (eqB (bg.length:Int) (2:Int)))).bind fun b49=>if b49=true then(((((bQ bg (0:Int)).bind fun v=>M.ok (D.str v)).bind fun a50=>(((((bQ bg (1:Int)).bind fun a51=>(M.ok ()).bind fun w52=>M.ok (a51,w52)).bind fun z53=>nox (aZ z53.1)).bind fun v=>M.ok ((eO D.int) v)).bind fun a54=>(M.ok ()).bind fun w55=>M.ok (a54,w55)).bind fun w56=>M.ok (a50,w56)).bind fun z57=>M.ok (D.tup [z57.1,z57.2.1])).bind fun ju=>(lF (eN ()) ju).bind fun b59=>if b59=true then(M.ok ((eN ())))else(M.ok (ju)))else(M.ok ((eN ()))))))
theorem xT(ar:List Nat):fC ar=(if(d8 ar [(sS "stamp"),(sS "seal"),(sS "thin")])=true then(M.ok ((D.tup [(D.str ar)])))else(xA ar (sS " ")).bind fun bg=>nV ar bg):=id rfl
theorem CM(d:Doc):fh (gX d)=true:=(qL (Fo qS qS)).pl d
theorem FL{l:List D}(h:iE l=true):lF (eN ()) (.tup l)=.ok (l.any fun y=>fH y .non):=by
 unfold lF
 dsimp only
 rw[if_pos]
 rw[sy l h]
 have:(pd (eN ())).depth≤60:=by decide+kernel
 have h2:(pd (eN ())).plain=true:=by decide+kernel
 rw[h2]
 simp
 omega
theorem IP(d:Doc):fH (gX d) .non=false:=by
 show fH (.lst _) .non=false
 unfold fH
 rfl
theorem OJ(t:List Nat):fH (.str t) .non=false:=by unfold fH;rfl
theorem GF(t:Int):fH (.int t) .non=false:=by unfold fH;rfl
theorem vr:fH .non .non=true:=by unfold fH;rfl
end K34
namespace K34
open PySem L2 PyProof.Rows Vw
def Lf(a b:List Nat):M D:=((xA b (sS " ")).bind fun l15=>vm (fun(part14:List Nat)=>cy part14) l15).bind fun eC=>(gU (eqB (eC.length:Int) ((1:Int)+(if(eqB a (sS "pour"))=true then(1:Int)else 0)))).bind fun u17=>(((eU [(D.str a)] (eC.map D.int)).bind fun a18=>(M.ok ()).bind fun w19=>M.ok (a18,w19)).bind fun z20=>M.ok (D.tup (z20.1.map eY))).bind fun v21=>M.ok (v21)
theorem vv(ar:List Nat):eJ ar=(sF ar (sS " ")).bind fun t1=>(if(eqB t1.1 (sS "put"))=true then((((((eT t1.2.2).bind fun v=>M.ok v.2).bind fun v=>M.ok ((eL (aP D.str D.str)) v)).bind fun a2=>(M.ok ()).bind fun w3=>M.ok (a2,w3)).bind fun z4=>M.ok (D.tup [(D.str (sS "put")),z4.1])).bind fun v5=>M.ok (v5))else((if(eqB t1.1 (sS "change"))=true then((sF t1.2.2 (sS " ")).bind fun t6=>((((cy t6.1).bind fun v=>M.ok (D.int v)).bind fun a7=>((((eT t6.2.2).bind fun v=>M.ok v.2).bind fun v=>M.ok ((eL (aP D.str D.str)) v)).bind fun a8=>(M.ok ()).bind fun w9=>M.ok (a8,w9)).bind fun w10=>M.ok (a7,w10)).bind fun z11=>M.ok (D.tup [(D.str (sS "change")),z11.1,z11.2.1])).bind fun v12=>M.ok (v12))else((if(d8 ar [(sS "stamp"),(sS "seal"),(sS "thin")])=true then(M.ok ((D.tup [(D.str ar)])))else((gU (d8 t1.1 [(sS "take"),(sS "drop"),(sS "pack"),(sS "pour")])).bind fun u13=>Lf t1.1 t1.2.2)))))):=id rfl
theorem K6{x:D}{l:List D}(h:l.length≤100000):eU [x] l=.ok (x::l):=by
 rw[DG (by simp;omega)]
 rfl
theorem Kq(l:List D):l.map eY=l:=by
 induction l with
 | nil=>rfl
 | cons x l ih=>rw[List.map_cons,ih]
theorem Lz{a b:List Nat}(hb:b.length≤50000):((∀ t∈ir b,rT t)∧∃ ns:List Nat,ir b=ns.map (fun(n:Nat)=>cO (n:Int))∧(∀ n∈ns,n<10^60)∧Lf a b=if ns.length=(if a=sS "pour" then 2 else 1)then .ok (.tup (.str a::ns.map fun(n:Nat)=>.int (n:Int)))else .exc NL)∨(¬ (∀ t∈ir b,rT t)∧Lf a b=.exc NL):=by
 unfold Lf
 have hl:=An b
 rw[D3 (by omega),M.aa]
 unfold vm
 rcases yf (ir b) [] (fun t ht=>by have:=MT ht;omega) (by simp;omega)with⟨h1,ns,h2,h3,h4⟩ | ⟨h1,h2⟩
 ·refine .inl ⟨h1,ns,h2,h3,?_⟩
  have hn:ns.length≤60000:=by
   have:=congrArg List.length h2
   simp at this
   omega
  rw[h4,M.aa,List.nil_append]
  have e1:((ns.map fun(n:Nat)=>(n:Int)).length:Int)=(ns.length:Int):=by simp
  rw[e1]
  by_cases ha:a=sS "pour"
  ·rw[ha,bF,if_pos rfl,if_pos rfl]
   by_cases hk:ns.length=2
   ·rw[hk,if_pos rfl,show eqB (((2:Nat):Int)) ((1:Int)+1)=true from rfl,pU,M.aa,K6 (by simp;omega)]
    simp only[M.aa]
    rw[Kq,List.map_map]
    rfl
   ·rw[if_neg hk,bA (by omega),vh]
    rfl
  ·rw[bA ha,if_neg ha]
   simp only[Bool.false_eq_true,if_false]
   by_cases hk:ns.length=1
   ·rw[hk,if_pos rfl,show eqB (((1:Nat):Int)) ((1:Int)+0)=true from rfl,pU,M.aa,K6 (by simp;omega)]
    simp only[M.aa]
    rw[Kq,List.map_map]
    rfl
   ·rw[if_neg hk,bA (by omega),vh]
    rfl
 ·right
  rw[h2]
  exact⟨h1,rfl⟩
theorem Jk{a:List Nat}{l:Ws}:bQ (a::l) (0:Int)=.ok a:=vU (l:=a::l) (i:=0) (by simp)
theorem JK{a c:List Nat}{l:Ws}:bQ (a::c::l) (1:Int)=.ok c:=vU (l:=a::c::l) (i:=1) (by simp)
theorem Tt{a c e:List Nat}{l:Ws}:bQ (a::c::e::l) (2:Int)=.ok e:=vU (l:=a::c::e::l) (i:=2) (by simp)
theorem G1{α:Type}(l:List α)(k:Nat):cz l (some (k:Int)) none=l.drop k:=by
 unfold cz
 rw[HT.sIx_nat]
 have e:HT.sIx l.length l.length none=l.length:=rfl
 rw[e]
 by_cases h:k≤l.length
 ·rw[Nat.min_eq_left h]
  exact List.take_of_length_le (by simp)
 ·rw[Nat.min_eq_right (by omega),List.drop_length,List.drop_eq_nil_of_le (by omega)]
  simp
theorem Er{P l:List Nat}:cz (P++l) (some (P.length:Int)) none=l:=by rw[G1,List.drop_left]
theorem HE:eqB (sS "change") (sS "pour")=false:=by kernel_rfl
theorem DW:eqB (sS "change") (sS "put")=false:=by kernel_rfl
theorem sH:eqB (sS "pour") (sS "put")=false:=by kernel_rfl
theorem uo:eqB (sS "pour") (sS "change")=false:=by kernel_rfl
theorem J5:d8 (sS "change") [(sS "take"),(sS "drop"),(sS "pack")]=false:=by kernel_rfl
theorem yi:d8 (sS "pour") [(sS "take"),(sS "drop"),(sS "pack")]=false:=by kernel_rfl
theorem Ga:∀ w∈zS,eqB w (sS "put")=false∧eqB w (sS "change")=false∧32∉w∧w.length≤6:=by decide+kernel
theorem Hg:∀ w∈yK,eqB w (sS "put")=false∧eqB w (sS "change")=false∧eqB w (sS "pour")=false∧32∉w∧w.length≤6∧w∈[sS "take",sS "drop",sS "pack",sS "pour"]:=by decide+kernel
theorem Jh:∀ w,w∈[sS "take",sS "drop",sS "pack",sS "pour"]→w∈yK∨w=sS "pour":=by
 intro w h
 simp only[List.mem_cons,List.not_mem_nil,or_false]at h
 unfold yK
 simp only[List.mem_cons,List.not_mem_nil,or_false]
 rcases h with h | h | h | h
 ·exact .inl (.inl h)
 ·exact .inl (.inr (.inl h))
 ·exact .inl (.inr (.inr h))
 ·exact .inr h
theorem MC{a b:List Nat}:d8 (a++32::b) [sS "stamp",sS "seal",sS "thin"]=false:=by
 refine Dh fun h=>?_
 have:=(Ga _ h).2.2.1
 exact this (by simp)
theorem HW:¬ rT []:=fun h=>h.1 rfl
theorem zZ:kf []=none:=by
 unfold kf vG
 have:fP []=none:=rfl
 rw[this]
 rw[if_neg]
 intro z
 have:=congrArg List.length z
 rw[show(sS "none").length=4 by decide+kernel]at this
 simp at this
theorem FQ:(sS "put").length=3:=by decide+kernel
theorem yj:(sS "change").length=6:=by decide+kernel
theorem K1{w:List Nat}{x:D}(hx:fh x=true):lF (eN ()) (.tup [.str w,x])=.ok (fH x .non):=by
 rw[FL (by simp[iE,fh,hx])]
 simp[OJ]
theorem AS{w:List Nat}{x y:D}(hx:fh x=true)(hy:fh y=true):lF (eN ()) (.tup [.str w,x,y])=.ok (fH x .non||fH y .non):=by
 rw[FL (by simp[iE,fh,hx,hy])]
 simp[OJ]
end K34
namespace K34
open PySem L2 PyProof.Rows Vw
theorem kq:fh .non=true:=rfl
theorem pY(n:Int):fh (.int n)=true:=rfl
theorem jb{a:List Nat}{l:Ws}(w:List Nat):((bQ (a::l) (0:Int)).bind fun a2=>M.ok (eqB a2 w))=.ok (eqB a w):=by rw[Jk];rfl
theorem FA{a:List Nat}{l:Ws}(w:Ws):((bQ (a::l) (0:Int)).bind fun a2=>M.ok (d8 a2 w))=.ok (d8 a w):=by rw[Jk];rfl
theorem DT{X b:List Nat}{l:Ws}(hX:X.length≤30000)(hb:cz X (some (4:Int)) none=b)(hbl:b.length≤30000):nV X (sS "put"::l)=.ok (match kf b with
  | some d=>cG (.put d)
  | none=>.non):=by
 unfold nV
 rw[jb,M.aa,bF,if_pos rfl,nk (by omega),M.aa,hb]
 simp only[M.aa]
 rw[DM (by omega),d6]
 cases kf b with
 | none=>
  simp only[M.aa,eO]
  rw[K1 kq,M.aa,vr,if_pos rfl]
 | some d=>
  simp only[M.aa,eO]
  rw[K1 (CM d),M.aa,IP]
  rfl
theorem mD{X a:List Nat}{l:Ws}(h1:eqB a (sS "put")=false)(h2:eqB a (sS "change")=false∨l.length+1≤2)(h3:eqB a (sS "pour")=false∨l.length+1≠3)(h4:d8 a [(sS "take"),(sS "drop"),(sS "pack")]=false∨l.length+1≠2):nV X (a::l)=.ok .non:=by
 unfold nV
 rw[jb,jb,jb,FA,M.aa,h1]
 simp only[Bool.false_eq_true,if_false]
 have e2:andM (M.ok (eqB a (sS "change"))) (M.ok (decide ((2:Int)<((a::l).length:Int))))=.ok false:=by
  rcases h2 with h | h
  ·rw[h];rfl
  ·rw[decide_eq_false (by simp only[List.length_cons];omega)]
   cases eqB a (sS "change")<;> rfl
 have e3:andM (M.ok (eqB a (sS "pour"))) (M.ok (eqB ((a::l).length:Int) (3:Int)))=.ok false:=by
  rcases h3 with h | h
  ·rw[h];rfl
  ·have hq:((List.length (a::l):Nat):Int)≠3:=by simp only[List.length_cons];omega
   rw[bA hq]
   cases eqB a (sS "pour")<;> rfl
 have e4:andM (M.ok (d8 a [(sS "take"),(sS "drop"),(sS "pack")])) (M.ok (eqB ((a::l).length:Int) (2:Int)))=.ok false:=by
  rcases h4 with h | h
  ·rw[h];rfl
  ·have hq:((List.length (a::l):Nat):Int)≠2:=by simp only[List.length_cons];omega
   rw[bA hq]
   cases d8 a [(sS "take"),(sS "drop"),(sS "pack")]<;> rfl
 rw[e2,e3,e4]
 rfl
theorem ki{c:List Nat}(hl:c.length≤60000):(∃ n:Nat,n<10^60∧rT c∧c=cO (n:Int)∧aZ c=.ok (some (n:Int))∧cy c=.ok (n:Int))∨(¬ rT c∧aZ c=.ok none∧cy c=.exc NL):=by
 by_cases h:rT c
 ·obtain⟨n,hn,e⟩:=Hm h
  left
  refine⟨n,hn,h,e,?_,by rw[e];exact jU hn⟩
  rw[e]at h ⊢
  exact ES hn h
 ·exact .inr ⟨h,EN hl h,u4 hl h⟩
theorem ER{X c e:List Nat}{l:Ws}(hX:X.length≤30000)(hc:c.length≤30000)(he:e.length≤30000)(hl:l≠[])(hcut:cz X (some ((c.length:Int)+8)) none=e):nV X (sS "change"::c::l)=((aZ c).bind fun v=>M.ok (match v,kf e with
  | some n,some d=>.tup [.str (sS "change"),.int n,gX d]
  | _,_=>.non)):=by
 have hll:=List.length_pos_iff.mpr hl
 unfold nV
 rw[jb,jb,M.aa,DW]
 simp only[Bool.false_eq_true,if_false]
 rw[bF,decide_eq_true (by simp only[List.length_cons];omega)]
 simp only[h9,if_true,M.aa]
 rw[JK]
 simp only[M.aa]
 rw[fE (by omega)]
 simp only[M.aa]
 rw[nk (by omega),hcut]
 simp only[M.aa]
 rw[DM (by omega),d6]
 rcases ki (c:=c) (by omega)with⟨n,hn,hp,ec,e1,e2⟩ | ⟨hp,e1,e2⟩
 ·rw[e1,d6]
  cases kf e with
  | none=>
   simp only[M.aa,eO]
   rw[AS (pY _) kq,M.aa,vr,Bool.or_true,if_pos rfl]
  | some d=>
   simp only[M.aa,eO]
   rw[AS (pY _) (CM d),M.aa,IP,GF]
   rfl
 ·rw[e1,d6]
  cases kf e with
  | none=>
   simp only[M.aa,eO]
   rw[AS kq kq,M.aa,vr,Bool.true_or,if_pos rfl]
  | some d=>
   simp only[M.aa,eO]
   rw[AS kq (CM d),M.aa,vr,Bool.true_or,if_pos rfl]
theorem HV{X c e:List Nat}(hc:c.length≤30000)(he:e.length≤30000):nV X [sS "pour",c,e]=((aZ c).bind fun v=>(aZ e).bind fun u=>M.ok (match v,u with
  | some n,some m=>.tup [.str (sS "pour"),.int n,.int m]
  | _,_=>.non)):=by
 unfold nV
 rw[jb,jb,jb,M.aa,sH,uo]
 simp only[Bool.false_eq_true,if_false,h9,M.aa]
 rw[bF,show eqB (([sS "pour",c,e].length:Nat):Int) (3:Int)=true from rfl]
 simp only[if_true]
 rw[JK,Tt]
 simp only[M.aa]
 rcases ki (c:=c) (by omega)with⟨n,hn,hp,ec,e1,e2⟩ | ⟨hp,e1,e2⟩<;> rcases ki (c:=e) (by omega)with⟨m,hm,hq,ee,f1,f2⟩ | ⟨hq,f1,f2⟩<;> rw[e1,f1]<;> simp only[d6,M.aa,eO,if_true]
 ·rw[AS (pY _) (pY _),M.aa,GF,GF];rfl
 ·rw[AS (pY _) kq,M.aa,vr,Bool.or_true,if_pos rfl]
 ·rw[AS kq (pY _),M.aa,vr,Bool.true_or,if_pos rfl]
 ·rw[AS kq kq,M.aa,vr,Bool.true_or,if_pos rfl]
theorem Kf{X a c:List Nat}(ha:a∈yK)(hc:c.length≤30000):nV X [a,c]=((aZ c).bind fun v=>M.ok (match v with
  | some n=>.tup [.str a,.int n]
  | none=>.non)):=by
 obtain⟨b1,b2,b3,b4,b5,b6⟩:=Hg a ha
 unfold nV
 rw[jb,jb,jb,FA,M.aa,b1,b2,b3,show d8 a [(sS "take"),(sS "drop"),(sS "pack")]=true from Ct ha]
 simp only[Bool.false_eq_true,if_false,h9,M.aa,if_true]
 rw[show eqB (([a,c].length:Nat):Int) (2:Int)=true from rfl,if_pos rfl,Jk,JK]
 simp only[M.aa]
 rcases ki (c:=c) (by omega)with⟨n,hn,hp,ec,e1,e2⟩ | ⟨hp,e1,e2⟩<;> rw[e1,d6]<;> simp only[M.aa,eO]
 ·rw[K1 (pY _),M.aa,GF];rfl
 ·rw[K1 kq,M.aa,vr,if_pos rfl]
end K34
namespace K34
open PySem L2 PyProof.Rows Vw
def Ic(X:List Nat):Prop:=(∃ q,O8 q∧X=uv q∧eJ X=.ok (cG q)∧fC X=.ok (cG q))∨(eJ X=.exc NL∧fC X=.ok .non)
theorem IC{X:List Nat}{l:Ws}(h:X.length≤30000)(hb:d8 X [(sS "stamp"),(sS "seal"),(sS "thin")]=false)(hp:ir X=l):fC X=nV X l:=by
 rw[xT,hb,if_neg (by simp),D3 (by omega),M.aa,hp]
theorem L4{X:List Nat}(h:X.length≤30000)(hx:32∉X):Ic X:=by
 unfold Ic
 rw[vv,uG hx (by omega),M.aa]
 dsimp only
 by_cases hB:X∈zS
 ·obtain⟨b1,b2,b3,b4⟩:=Ga X hB
  left
  have hm:d8 X [(sS "stamp"),(sS "seal"),(sS "thin")]=true:=Ct hB
  refine⟨.bare X,hB,rfl,?_,?_⟩
  ·rw[b1,b2,hm]
   rfl
  ·rw[xT,hm]
   rfl
 ·right
  have hm:d8 X [(sS "stamp"),(sS "seal"),(sS "thin")]=false:=Dh hB
  have hl:=IC h hm (pts_one X hx)
  refine⟨?_,?_⟩
  ·by_cases h1:X=sS "put"
   ·rw[h1,bF,if_pos rfl,oI (by simp),zZ]
    rfl
   ·rw[bA h1]
    by_cases h2:X=sS "change"
    ·rw[h2,bF,uG (by simp) (by simp)]
     simp only[Bool.false_eq_true,if_false,if_true,M.aa]
     rw[u4 (by simp) HW]
     rfl
    ·rw[bA h2,hm]
     simp only[Bool.false_eq_true,if_false]
     by_cases h4:X∈[sS "take",sS "drop",sS "pack",sS "pour"]
     ·rw[Ct h4,pU,M.aa]
      rcases Lz (a:=X) (b:=[]) (by simp)with⟨g1,_⟩ | ⟨_,g2⟩
      ·exact absurd (g1 [] (by simp[ir])) HW
      ·exact g2
     ·rw[Dh h4,vh]
      rfl
  ·rw[hl]
   by_cases h1:X=sS "put"
   ·rw[h1]at h ⊢
    rw[DT h (b:=[]) (by kernel_rfl) (by simp),zZ]
   ·exact mD (bA h1) (.inr (by simp)) (.inr (by simp)) (.inr (by simp))
theorem MG{a b:List Nat}(h:(a++32::b).length≤30000)(ha:32∉a):Ic (a++32::b):=by
 have hlen:a.length+b.length+1≤30000:=by simp at h;omega
 have hm:d8 (a++32::b) [(sS "stamp"),(sS "seal"),(sS "thin")]=false:=MC
 have hl:=IC h hm (jM a b ha)
 unfold Ic
 rw[vv,CO ha (by omega),M.aa,hl]
 dsimp only
 by_cases h1:a=sS "put"
 ·subst h1
  rw[bF,if_pos rfl,oI (by omega),DT h (b:=b) (by
   have:=Er (P:=sS "put"++[32]) (l:=b)
   rw[show((List.length (sS "put"++[32]):Nat):Int)=4 by simp[FQ]]at this
   rw[List.append_assoc]at this
   exact this) (by omega)]
  cases e:kf b with
  | none=>exact .inr ⟨rfl,rfl⟩
  | some d=>
   obtain⟨q1,q2⟩:=Jb e
   exact .inl ⟨.put d,q2,by rw[q1];rfl,rfl,rfl⟩
 rw[bA h1]
 by_cases h2:a=sS "change"
 ·subst h2
  rw[bF]
  simp only[Bool.false_eq_true,if_false,if_true]
  rcases kE b with hb | ⟨c,e,eb,hc⟩
  ·right
   rw[uG hb (by omega),M.aa,pts_one b hb]
   refine⟨?_,mD DW (.inr (by simp)) (.inl HE) (.inl J5)⟩
   dsimp only
   rcases ki (c:=b) (by omega)with⟨n,hn,hp,ec,e1,e2⟩ | ⟨hp,e1,e2⟩
   ·rw[e2]
    simp only[M.aa]
    rw[oI (by simp),zZ]
    rfl
   ·rw[e2]
    rfl
  ·subst eb
   simp only[List.length_append,List.length_cons]at hlen
   rw[CO hc (by omega),M.aa,jM c e hc,ER h (by omega) (by omega) (uH e) (e:=e) (by
    have:=Er (P:=sS "change"++32::(c++[32])) (l:=e)
    rw[show((List.length (sS "change"++32::(c++[32])):Nat):Int)=(c.length:Int)+8 by simp[yj];omega]at this
    simpa using this)]
   dsimp only
   rw[oI (by omega)]
   rcases ki (c:=c) (by omega)with⟨n,hn,hp,ec,e1,e2⟩ | ⟨hp,e1,e2⟩
   ·rw[e1,e2]
    cases ed:kf e with
    | none=>exact .inr ⟨rfl,rfl⟩
    | some d=>
     obtain⟨q1,q2⟩:=Jb ed
     exact .inl ⟨.change n d,⟨hn,q2⟩,by rw[q1,ec];rfl,rfl,rfl⟩
   ·right
    rw[e1,e2]
    cases kf e<;> exact⟨rfl,rfl⟩
 rw[bA h2,hm]
 simp only[Bool.false_eq_true,if_false]
 by_cases h4:a∈[sS "take",sS "drop",sS "pack",sS "pour"]
 ·rw[Ct h4,pU,M.aa]
  have hx:=Lz (a:=a) (b:=b) (by omega)
  rcases Jh a h4 with hO | hP
  ·obtain⟨b1,b2,b3,b4,b5,b6⟩:=Hg a hO
   have hnp:a≠sS "pour":=fun z=>by rw[z,bF]at b3;cases b3
   rw[if_neg hnp]at hx
   rcases kE b with hb | ⟨c,e,eb,hc⟩
   ·rw[pts_one b hb]at hx ⊢
    rw[Kf hO (by omega)]
    rcases ki (c:=b) (by omega)with⟨n,hn,hp,ec,e1,e2⟩ | ⟨hp,e1,e2⟩
    ·rcases hx with⟨g1,ns,g2,g3,g4⟩ | ⟨g1,g2⟩
     ·have hns:ns.length=1:=by have:=congrArg List.length g2;simp at this;omega
      obtain⟨n',rfl⟩:=List.length_eq_one_iff.mp hns
      have hb2:b=cO (n':Int):=by simpa using g2
      have hn':n'=n:=by
       have:=jU (n:=n') (g3 n' (by simp))
       rw[←hb2,e2]at this
       injection this with this
       omega
      subst hn'
      rw[g4,e1]
      exact .inl ⟨.one a n',⟨hO,hn⟩,by show _=a++32::cO ((n':Nat):Int);rw[←ec],rfl,rfl⟩
     ·exact absurd (fun t ht=>by rw[List.mem_singleton]at ht;rw[ht];exact hp) g1
    ·right
     rw[e1]
     rcases hx with⟨g1,_⟩ | ⟨_,g2⟩
     ·exact absurd (g1 b (by simp)) hp
     ·exact⟨g2,rfl⟩
   ·right
    rw[eb,jM c e hc]at hx
    rw[eb,jM c e hc]
    have hne:=List.length_pos_iff.mpr (uH e)
    refine⟨?_,mD b1 (.inl b2) (.inl b3) (.inr (by simp only[List.length_cons];omega))⟩
    rcases hx with⟨g1,ns,g2,g3,g4⟩ | ⟨g1,g2⟩
    ·rw[g4,if_neg]
     have:=congrArg List.length g2
     simp at this
     omega
    ·exact g2
  ·subst hP
   rw[if_pos rfl]at hx
   rcases kE b with hb | ⟨c,e,eb,hc⟩
   ·right
    rw[pts_one b hb]at hx ⊢
    refine⟨?_,mD sH (.inl uo) (.inr (by simp)) (.inl yi)⟩
    rcases hx with⟨g1,ns,g2,g3,g4⟩ | ⟨g1,g2⟩
    ·rw[g4,if_neg]
     have:=congrArg List.length g2
     simp at this
     omega
    ·exact g2
   ·subst eb
    simp only[List.length_append,List.length_cons]at hlen
    rw[jM c e hc]at hx ⊢
    rcases kE e with he | ⟨f,g,ee,hf⟩
    ·rw[pts_one e he]at hx ⊢
     rw[HV (by omega) (by omega)]
     rcases ki (c:=c) (by omega)with⟨n,hn,hp,ec,e1,e2⟩ | ⟨hp,e1,e2⟩
     ·rcases ki (c:=e) (by omega)with⟨m,hm',hq,ee,f1,f2⟩ | ⟨hq,f1,f2⟩
      ·rcases hx with⟨g1,ns,g2,g3,g4⟩ | ⟨g1,g2⟩
       ·have hns:ns.length=2:=by have:=congrArg List.length g2;simp at this;omega
        obtain⟨n',m',rfl⟩:∃ n' m',ns=[n',m']:=by
         cases ns with
         | nil=>simp at hns
         | cons x ns=>
          cases ns with
          | nil=>simp at hns
          | cons y ns=>
           cases ns with
           | nil=>exact⟨x,y,rfl⟩
           | cons z ns=>simp at hns
        simp only[List.map_cons,List.map_nil,List.cons.injEq,and_true]at g2
        have hn':n'=n:=by
         have:=jU (n:=n') (g3 n' (by simp))
         rw[←g2.1,e2]at this
         injection this with this
         omega
        have hm2:m'=m:=by
         have:=jU (n:=m') (g3 m' (by simp))
         rw[←g2.2,f2]at this
         injection this with this
         omega
        subst hn' hm2
        rw[g4,e1,f1]
        exact .inl ⟨.pour n' m',⟨hn,hm'⟩,by show _=sS "pour"++32::(cO ((n':Nat):Int)++32::cO ((m':Nat):Int));rw[←g2.1,←g2.2],rfl,rfl⟩
       ·exact absurd (fun t ht=>by
         rcases List.mem_cons.mp ht with q | q
         ·rw[q];exact hp
         ·rw[List.mem_singleton]at q;rw[q];exact hq) g1
      ·right
       rw[e1,f1]
       rcases hx with⟨g1,_⟩ | ⟨_,g2⟩
       ·exact absurd (g1 e (by simp)) hq
       ·exact⟨g2,rfl⟩
     ·right
      rw[e1]
      refine⟨?_,?_⟩
      ·rcases hx with⟨g1,_⟩ | ⟨_,g2⟩
       ·exact absurd (g1 c (by simp)) hp
       ·exact g2
      ·rcases ki (c:=e) (by omega)with⟨m,hm',hq,ee,f1,f2⟩ | ⟨hq,f1,f2⟩<;> rw[f1]<;> rfl
    ·right
     rw[ee,jM f g hf]at hx ⊢
     have hne:=List.length_pos_iff.mpr (uH g)
     refine⟨?_,mD sH (.inl uo) (.inr (by simp only[List.length_cons];omega)) (.inl yi)⟩
     rcases hx with⟨g1,ns,g2,g3,g4⟩ | ⟨g1,g2⟩
     ·rw[g4,if_neg]
      have:=congrArg List.length g2
      simp at this
      omega
     ·exact g2
 ·right
  rw[Dh h4,vh]
  have ho:d8 a [(sS "take"),(sS "drop"),(sS "pack")]=false:=Dh fun z=>h4 (by
   simp only[List.mem_cons,List.not_mem_nil,or_false]at z ⊢
   rcases z with z | z | z
   ·exact .inl z
   ·exact .inr (.inl z)
   ·exact .inr (.inr (.inl z)))
  have hp:a≠sS "pour":=fun z=>h4 (by simp[z])
  exact⟨rfl,mD (bA h1) (.inl (bA h2)) (.inl (bA hp)) (.inl ho)⟩
theorem alike{X:List Nat}(h:X.length≤30000):Ic X:=by
 rcases kE X with hx | ⟨a,b,e,ha⟩
 ·exact L4 h hx
 ·subst e
  exact MG h ha
end K34
namespace K34
open PySem L2 PyProof.Rows Vw
theorem CB{x:List Nat×List Nat}(h:x.1.length+x.2.length≤3000):iT x.1 x.2=.ok (fld x):=by
 have h3:=yc x.2
 unfold iT
 rw[J9,DB,JH,cj (by simp;omega),M.aa]
 have e:B1 x.2 [39] [39,39]=.ok (qt x.2):=by
  unfold B1
  rw[cB (decide_eq_true (by simp;omega)),M.aa,MJ]
 rw[e]
 simp only[M.aa]
 rw[cj (by simp;omega),M.aa,cj (by simp;omega),M.aa]
 unfold fld
 simp
theorem xO:∀ (l:Doc) (acc:Ws),(∀ x∈l,x.1.length+x.2.length≤3000)→acc.length+l.length≤5000→hE (fun(bR:List Nat×List Nat)=>M.ok true) (fun(bR:List Nat×List Nat)=>nox (iT bR.1 bR.2)) acc l=.ok (acc++l.map fld)
 | [],acc,h,hl=>by simp[hE]
 | x::l,acc,h,hl=>by
  simp only[List.length_cons]at hl
  unfold hE
  rw[M.aa,if_pos rfl,CB (h x (by simp)),d6,M.aa,cB (decide_eq_true (by rw[zL];omega)),M.aa,xO l _ (fun y hy=>h y (by simp[hy])) (by simp;omega)]
  simp
theorem y8:∀ d:Doc,(qu d).length=((d.map fld).map (·.length)).sum+d.length
 | []=>rfl
 | x::d=>by
  have:=y8 d
  rw[jJ]
  simp only[List.length_cons,List.length_append,List.map_cons,List.sum_cons]
  omega
theorem Lh:∀ (d:Doc),∀ x∈d,x.1.length+x.2.length≤(qu d).length
 | [],x,h=>by cases h
 | y::d,x,h=>by
  have hg:=pK y
  rw[jJ]
  simp only[List.length_cons,List.length_append]
  rcases List.mem_cons.mp h with e | e
  ·rw[e];omega
  ·have:=Lh d x e
   omega
theorem yA{d:Doc}(h:(iZ d).length≤2500):ib d=.ok (iZ d):=by
 unfold ib
 by_cases e:d=[]
 ·subst e
  rfl
 ·have:¬ (d.length:Int)=0:=fun z=>e (List.length_eq_zero_iff.mp (by omega))
  rw[bA this]
  simp only[Bool.false_eq_true,if_false]
  have h2:(qu d).length≤2501:=by
   cases d with
   | nil=>exact absurd rfl e
   | cons x d=>
    rw[m3]at h
    rw[jJ]
    simp only[List.length_cons]
    omega
  have hs:=y8 d
  unfold fM
  rw[xO d [] (fun x hx=>by have:=Lh d x hx;omega) (by simp;omega),d6]
  simp only[M.aa,List.nil_append]
  unfold joinM
  rw[rC,cB (decide_eq_true (by simp only[List.length_map,List.length_cons,List.length_nil];omega)),M.aa,xE]
  unfold iZ
  rw[if_neg e]
  rfl
theorem ug{l:Ws}(h:(l.map (·.length)).sum≤10000)(h2:l.length≤10):joinM (sS " ") l=.ok (TL.joinL [32] l):=by
 unfold joinM
 rw[rC,cB (decide_eq_true (by simp only[List.length_cons,List.length_nil];omega)),M.aa,xE]
theorem EV{q:Dd}(h:O8 q)(hl0:(uv q).length≤2500):mI (cG q)=.ok (uv q):=by
 unfold mI
 cases q with
 | put d=>
  have h0:qZ (cG (.put d)) (0:Int)=.ok (.str (sS "put")):=rfl
  have h1:qV (cG (.put d)) (some (1:Int)) none=.ok (.tup [gX d]):=rfl
  have hd:k9 (gX d)=.ok true:=rfl
  have hl:(iZ d).length≤2500:=by unfold uv at hl0;simp at hl0;omega
  have h3:(sS "put").length=3:=by decide+kernel
  simp only[h0,h1,M.aa,th,mr,cu,iq,hd,if_true,Dx,yA hl,d6]
  rw[iI (by simp),M.aa]
  simp only[M.aa]
  rw[ug (by simp;omega) (by simp)]
  rfl
 | change n d=>
  obtain⟨hn,hd2⟩:=h
  have h0:qZ (cG (.change n d)) (0:Int)=.ok (.str (sS "change")):=rfl
  have h1:qV (cG (.change n d)) (some (1:Int)) none=.ok (.tup [.int n,gX d]):=rfl
  have hd:k9 (gX d)=.ok true:=rfl
  have hi:k9 (.int (n:Int))=.ok false:=rfl
  have hl:(iZ d).length≤2500:=by unfold uv at hl0;simp at hl0;omega
  have hln:=(gN hn).2
  have h3:(sS "change").length=6:=by decide+kernel
  simp only[h0,h1,M.aa,th,GY,mr,cu,iq,hd,hi,if_true,if_false,Bool.false_eq_true,Dx,yA hl,d6,str_ok hn]
  rw[iI (by simp),M.aa]
  simp only[M.aa]
  rw[iI (by simp),M.aa]
  simp only[M.aa]
  rw[ug (by simp;omega) (by simp)]
  rfl
 | bare w=>
  have h0:qZ (cG (.bare w)) (0:Int)=.ok (.str w):=rfl
  have h1:qV (cG (.bare w)) (some (1:Int)) none=.ok (.tup []):=rfl
  have hw:=o6 (.inl h)
  simp only[h0,h1,M.aa,th,mr,iq]
  rw[ug (by simp;omega) (by simp)]
  rfl
 | one w n=>
  obtain⟨hw,hn⟩:=h
  have h0:qZ (cG (.one w n)) (0:Int)=.ok (.str w):=rfl
  have h1:qV (cG (.one w n)) (some (1:Int)) none=.ok (.tup [.int n]):=rfl
  have hi:k9 (.int (n:Int))=.ok false:=rfl
  have hln:=(gN hn).2
  have hw:=o6 (.inr hw)
  simp only[h0,h1,M.aa,th,GY,mr,cu,iq,hi,if_true,if_false,Bool.false_eq_true,d6,str_ok hn]
  rw[iI (by simp),M.aa]
  simp only[M.aa]
  rw[ug (by simp;omega) (by simp)]
  rfl
 | pour n m=>
  obtain⟨hn,hm⟩:=h
  have h0:qZ (cG (.pour n m)) (0:Int)=.ok (.str (sS "pour")):=rfl
  have h1:qV (cG (.pour n m)) (some (1:Int)) none=.ok (.tup [.int n,.int m]):=rfl
  have hi:k9 (.int (n:Int))=.ok false:=rfl
  have hj:k9 (.int (m:Int))=.ok false:=rfl
  have hln:=(gN hn).2
  have hlm:=(gN hm).2
  have h3:(sS "pour").length=4:=by decide+kernel
  simp only[h0,h1,M.aa,th,GY,mr,cu,iq,hi,hj,if_true,if_false,Bool.false_eq_true,d6,str_ok hn,str_ok hm]
  rw[iI (by simp),M.aa]
  simp only[M.aa]
  rw[iI (by simp),M.aa]
  simp only[M.aa]
  rw[ug (by simp;omega) (by simp)]
  rfl
end K34
namespace K34
open PySem L2 PyProof.Rows Vw
def Js:M Ws:=(M.ok [(sS ""),(sS " "),(sS "put"),(sS "put "),(sS "put none "),(sS "put  none"),(sS "put nones"),(sS "put a:''"),(sS "put a:'")]).bind fun qi=>(eU qi [(sS "put a:'''"),(sS "put a:''''"),(sS "put a:'x'b:'y'"),(sS "put a:'x'  b:'y'"),(sS "put b:'x' a:'y'")]).bind fun qj=>(eU qj [(sS "put a:'x' a:'y'"),(sS "put A:'x'"),(sS "put :'x'")]).bind fun qk=>(eU qk [(sS "put abcdefghijklm:'x'"),(sS "put abcdefghijkl:'x'"),(sS "put a:'x' "),(sS "put a:'x' none"),(sS "put a1:'x'")]).bind fun ql=>(eU ql [(sS "change 1"),(sS "change 1 "),(sS "change none"),(sS "change 01 none"),(sS "change 1 none"),(sS "change  1 none")]).bind fun qm=>(eU qm [(sS "take"),(sS "take "),(sS "take 1 2"),(sS "take 1 "),(sS "take -1"),(sS "take +1"),(sS "take 1_0"),(sS "take 00"),(sS "take 0")]).bind fun qp=>(((((EI (sS "1") (60:Int)).bind fun a7=>br (sS "take ") a7).bind fun a8=>(((EI (sS "1") (61:Int)).bind fun a9=>br (sS "take ") a9).bind fun a10=>(M.ok ()).bind fun w11=>M.ok (a10,w11)).bind fun w12=>M.ok (a8,w12)).bind fun z13=>M.ok [z13.1,z13.2.1,(sS "pour 1"),(sS "pour 1 2 3"),(sS "pour 1  2"),(sS "stamp "),(sS " stamp")]).bind fun a14=>eU qp a14).bind fun mG=>(eU mG [(sS "Stamp"),(sS "seal 1"),(sS "thin"),(sS "drop now"),(sS "pack a"),(sS "ask now a:b"),(sS "stamps"),(sS "take 1."),(sS "put none:''")]).bind fun ia=>M.ok ia
def Cy:Ws:=match Js with
 | .ok l=>l
 | _=>[]
theorem QI:Js=.ok Cy:=by kernel_rfl
theorem M3(n:Int):oz n=Js.bind fun ia=>((lH n (ia.length:Int)).bind fun a17=>bQ ia a17).bind fun v18=>M.ok v18:=by kernel_rfl
theorem F7:(Cy.all fun u=>decide (u.length≤100))=true∧0<Cy.length:=by decide+kernel
theorem MN(n:Int):Sat (oz n) fun v=>v.length≤100:=by
 have h0:=F7.2
 rw[M3,QI,M.aa,mm (by omega),M.aa]
 obtain⟨a,ha,e⟩:=xX (l:=Cy) (i:=n%((Cy.length:Nat):Int)) (Int.emod_nonneg _ (by omega)) (Int.emod_lt_of_pos _ (by omega))
 rw[e]
 exact aF (of_decide_eq_true (List.all_eq_true.mp F7.1 a ha))
theorem M0(l:List Nat)(lo hi:Option Int):(cz l lo hi).length≤l.length:=by
 unfold cz
 simp
 omega
theorem JZ{L:List Nat}(hL:L.length≤300)(d:List Int):Sat (jn L d) fun v=>v.1.length≤1300:=by
 unfold jn
 simp only[M.bind_assoc,M.aa]
 refine az (dJ (vV d)) fun n _=>?_
 refine az (dJ (vV _)) fun a _=>?_
 rw[fE (by omega),M.aa,mm (by omega)]
 simp only[M.aa]
 refine az (dJ (vV _)) fun o _=>?_
 generalize a.1%((L.length:Int)+1)=k
 have hs:∀ lo hi,gR L lo hi=.ok (cz L lo hi):=fun lo hi=>nk (by omega)
 have hc:=M0 L
 refine az (P:=fun u=>8≤u.length∧u.length≤11) ?_ fun sl hsl=>?_
 ·have h2:o.1%2=0∨o.1%2=1:=by omega
  have l1:(sS " '':0189").length=8:=by decide+kernel
  have l2:(sS "abzAZ.,-~\"#").length=11:=by decide+kernel
  rcases h2 with h2 | h2<;> rw[h2]
  ·rw[show bQ [(sS " '':0189"),(sS "abzAZ.,-~\"#")] (0:Int)=.ok (sS " '':0189")from rfl]
   exact aF (by rw[l1];omega)
  ·rw[show bQ [(sS " '':0189"),(sS "abzAZ.,-~\"#")] (1:Int)=.ok (sS "abzAZ.,-~\"#")from rfl]
   exact aF (by rw[l2];omega)
 have h8:0≤o.1/2%8∧o.1/2%8<8:=by omega
 obtain⟨x,_,ex⟩:=Ez (l:=sl) h8.1 (by omega) (by omega)
 rw[ex,M.aa]
 simp only[hs,M.aa]
 refine jk (fun _=>?_) fun _=>?_
 ·have h1:=hc none (some k)
  have h2:=hc (some k) none
  rw[cj (by simp;omega),M.aa,cj (by simp;omega),M.aa]
  exact aF (by simp;omega)
 refine jk (fun _=>?_) fun _=>?_
 ·have h1:=hc none (some k)
  have h2:=hc (some (k+1)) none
  rw[cj (by simp;omega),M.aa,cj (by simp;omega),M.aa]
  exact aF (by simp;omega)
 refine jk (fun _=>?_) fun _=>?_
 ·have h1:=hc none (some k)
  have h2:=hc (some (k+1)) none
  rw[cj (by omega),M.aa]
  exact aF (by simp;omega)
 refine jk (fun _=>?_) fun _=>?_
 ·have h1:=hc (some (k+1)) (some (k+2))
  have h2:=hc (some k) (some (k+1))
  have h3:=hc none (some k)
  have h4:=hc (some (k+2)) none
  rw[cj (by omega),M.aa,cj (by simp;omega),M.aa,cj (by simp;omega),M.aa]
  exact aF (by simp;omega)
 refine jk (fun _=>?_) fun _=>?_
 ·have h3:=hc none (some k)
  exact aF (by show(cz L none (some k)).length≤1300;omega)
 refine jk (fun _=>?_) fun _=>?_
 ·refine az (dJ (MN _)) fun v hv=>aF (by show v.length≤1300;omega)
 ·exact aF (by show L.length≤1300;omega)
theorem ME{q:Dd}(h:uP q):(uv q).length≤300:=by
 cases q with
 | put d=>
  have:=EG h
  show(sS "put"++32::iZ d).length≤300
  simp[FQ]
  omega
 | change n d=>
  have:=EG h.2
  have h2:=(gN h.1).2
  show(sS "change"++32::(cO (n:Int)++32::iZ d)).length≤300
  simp[yj]
  omega
 | bare w=>
  have:=o6 (.inl h)
  show w.length≤300
  omega
 | one w n=>
  have:=o6 (.inr h.1)
  have h2:=(gN h.2).2
  show(w++32::cO (n:Int)).length≤300
  simp
  omega
 | pour n m=>
  have h1:=(gN h.1).2
  have h2:=(gN h.2).2
  have h3:(sS "pour").length=4:=by decide+kernel
  show(sS "pour"++32::(cO (n:Int)++32::cO (m:Int))).length≤300
  simp[h3]
  omega
end K34
namespace Vw
open PySem L2
end Vw
namespace Vw
open PySem L2
end Vw
namespace K34
open PySem L2 PyProof.Rows Vw
abbrev RT:List Ob→Prop:=fun _=>True
abbrev CV:List Int→D:=eL D.int
abbrev xd(d:D):Option Sl:=some (.v (.d d))
abbrev S1:List Int→List Ob:=fun d=>[oL D.int d]
theorem rn{X:List Nat}:F3 d4 [D.str X] (eJ X) (fun v=>.val (.d (eY v))):=cE.toE (R:=RT) (EZ (σ:=[]) trivial (ar:=X)) (fun _=>rfl) (fun _=>trivial)
abbrev P1(ns:List Int):Pt:=[xd (CV ns),some (.v (.r 0)),none,none,none,none]
section
variable{ns dd:List Int}
def Ea(ns dd:List Int):M (List Nat×List Int):=(((nox (mV ns dd)).bind fun a1=>(M.ok ()).bind fun w2=>M.ok (a1,w2)).bind fun z3=>nox ((mO z3.1.1).bind fun v=>M.ok (v,z3.1.2)))
theorem NI:Ev RT (P1 ns) (S1 dd) (bh 1 (aw [(bh 2 (aw [(ae 0),(ae 1)]) gJ)]) gI) (Ea ns dd) (pE D.str (P1 ns) S1):=
 jo (R':=RT) (post:=(pE D.str _ S1)) (aQ (sv (bE (R':=RT) (post:=(pE eY _ S1)) (ah (sv (ax (a:=ns) (e:=(eL D.int)) rfl)) (ah (sv (fW (a:=dd) rfl)) aq)) (.d (.d .nil)) rfl (EX (S:=S1) (n:=0) (aK:=ns) (aG:=dd) (fun _=>rfl) (fun _ _=>rfl)) (fun _=>rfl))) fun a1=>aq) (fun _=>(.d .nil)) (fun _=>rfl) (fun z3=>cE.tag (S:=S1) z3.1.2 (EK (cJ:=z3.1.1))) (fun _ _=>rfl)
def Dt(d:List Int):M (List Int×List Int):=(lC 0 (3:Int)).bind fun a7=>oH (fun k5 c6=>M.ok true) (fun k5 c6=>nox (bT c6)) a7 d
theorem PZ{d:List Int}:Ev RT (P1 ns) (S1 d) (jZ [5] (.nm 5) (gV (aw [(fD (.int 3))]) fL) eD mn) (Dt d) (fun r=>(.new (oL D.int r.1),P1 ns,S1 r.2)):=
 GV (q:=P1 ns) (p2:=fun k5=>[xd (CV ns),some (.v (.r 0)),none,none,none,some (.v (.d (D.int k5)))]) (p3:=fun k5=>[xd (CV ns),some (.v (.r 0)),none,none,none,some (.v (.d (D.int k5)))]) (S:=S1) (lA:=(fun(a7:List Int)=>a7)) (cA:=(fun(a7:List Int)=>d)) (mt:=(fun k5 c6=>M.ok true)) (me:=(fun k5 c6=>nox (bT c6))) (e:=D.int) (Gk (ah (sv (cD D.int (3:Int))) aq) ze) rfl (fun k5 c6=>⟨eS,rL,(ui (bE (R':=RT) (post:=(pE D.int _ S1)) (ah (sv (fW (a:=c6) rfl)) aq) (.d .nil) rfl (fJ (S:=S1) (n:=0) (aG:=c6) (fun _=>rfl) (fun _ _=>rfl)) (fun _=>rfl)))⟩) (fun _=>by(repeat' (first | exact trivial | refine And.intro rfl ?_))) (fun _=>by(repeat' (first | exact trivial | refine And.intro rfl ?_)))
theorem Nk{L X:List Nat}{d1 d2 r3 r4:List Int}(hL:Ea ns dd=.ok (L,d1))(h3:Dt d1=.ok (r3,d2))(hX:jn L r3=.ok (X,r4)):Ev RT (P1 ns) (S1 dd) (bh 2 (aw [(bh 1 (aw [(bh 2 (aw [(ae 0),(ae 1)]) gJ)]) gI),(yB (jZ [5] (.nm 5) (gV (aw [(fD (.int 3))]) fL) eD mn))]) jm) (.ok (X,r4)) (fun v=>(.val (.d (.str v.1)),P1 ns,[oL D.int d2,oL D.int v.2])):=by
 have hA:Ev RT (P1 ns) (S1 dd) (aw [(bh 1 (aw [(bh 2 (aw [(ae 0),(ae 1)]) gJ)]) gI),(yB (jZ [5] (.nm 5) (gV (aw [(fD (.int 3))]) fL) eD mn))]) (.ok ()) (fun _=>([.val (.d (.str L)),.val (.r 1)],P1 ns,[oL D.int d2,oL D.int r3])):=fun sg hf=>by
  obtain⟨sg1,e1,f1⟩:=(vo (sv NI) hL) sg hf
  obtain⟨sg2,e2,f2⟩:=(vo (sv (Pl (o:=fun r:List Int×List Int=>oL D.int r.1) (PZ (ns:=ns) (d:=d1)) (fun v=>KI _))) h3) sg1 f1
  refine⟨sg2,?_,f2⟩
  rw[yH,e1,Res.aa,yH]
  have e2':ev (yB (jZ [5] (.nm 5) (gV (aw [(fD (.int 3))]) fL) eD mn)) ⟨sg1,S1 d1⟩=.ok (.val (.r 1)) ⟨sg2,[oL D.int d2,oL D.int r3]⟩:=e2
  show(Res.bind (ev (yB (jZ [5] (.nm 5) (gV (aw [(fD (.int 3))]) fL) eD mn)) ⟨sg1,S1 d1⟩) _).bind _=_
  rw[e2',Res.aa,D9]
  rfl
 refine vo (jo (R':=RT) (mA:=.ok ()) (vs:=fun _=>[.d (.str L),.r 1]) (Q:=fun _=>P1 ns) (mg:=fun _=>jn L r3) (pg:=fun _ v=>(.val (.d (.str v.1)),[oL D.int d2,oL D.int v.2])) hA (fun _=>.d (.d .nil)) (fun _=>rfl) (fun _=>EL (S:=fun d=>[oL D.int d2,oL D.int d]) (n:=1) (ar:=L) (aG:=r3) (fun _=>rfl) (fun _ _=>rfl)) (fun _ _=>rfl)) ?_
 rw[hX]
 rfl
end
theorem IE(σ:List Ob):eP [.d (.exc "NoLine" [])] σ=Res.ok (.new (oL D.str [sS "line"])) ⟨[],σ⟩:=by kernel_rfl
theorem HH(σ:List Ob):eP [.d .non] σ=Res.ok (.new (oL D.str [])) ⟨[],σ⟩:=by kernel_rfl
theorem LO:jz cM "NoLine" "FindError"=some true:=by decide+kernel
abbrev PR(X:List Nat)(s1:Option Sl):Pt:=[xd (.str X),s1,none]
section
variable{X:List Nat}{σ:List Ob}
theorem Nh(he:eJ X=.exc NL):Sg true RT (PR X (xd .non)) σ (ai [du,dy]) (.ok [sS "line"]) (fun v=>.ret (.new (oL D.str v)) σ):=by
 intro sg hf
 have he2:=rn (X:=X)
 rw[he]at he2
 obtain⟨s,he2⟩:=he2
 have he2:d4 [.d (.str X)] []=.exc ⟨"NoLine",none⟩ s:=he2
 have h3:sg[0]? =some (some (.v (.d (.str X)))):=hf.2 0 _ rfl
 have e0:mT 1 (aw [(ae 0)]) d4 ⟨sg,σ⟩=.exc ⟨"NoLine",none⟩ ⟨sg,σ⟩:=by
  have ea:aw [(ae 0)] ⟨sg,σ⟩=.ok [.val (.d (.str X))] ⟨sg,σ⟩:=by simp[h3]
  unfold mT
  rw[ea,Res.aa]
  have ec:bc [.val (.d (.str X))] ⟨sg,σ⟩=.ok [.d (.str X)] ⟨sg,σ⟩:=by simp
  rw[ec,Res.aa,show tu [Val.d (.str X)]=some [.str X]from rfl]
  dsimp only
  rw[if_pos (show [D.str X].length=1 from rfl),show([D.str X].map Val.d)=[.d (.str X)]from rfl,he2]
  rfl
 have e1:gu ⟨sg,σ⟩=.exc ⟨"NoLine",none⟩ ⟨sg,σ⟩:=by
  show ai [(bY (mT 1 (aw [(ae 0)]) d4))] ⟨sg,σ⟩=_
  rw[j3,D1,e0]
  rfl
 have e12:du ⟨sg,σ⟩=.ok .nx ⟨((sg.set 2 none).set 1 (some (.v (.d (.exc "NoLine" []))))).set 2 none,σ⟩:=by
  show i6 cM "FindError" 2 1 gu ⟨sg,σ⟩=_
  unfold i6
  rw[e1]
  dsimp only
  rw[LO]
  rfl
 have hl:sg.length=3:=hf.1.symm
 have h7:(((sg.set 2 none).set 1 (some (.v (.d (.exc "NoLine" []))))).set 2 none)[1]? =some (some (.v (.d (.exc "NoLine" [])))):=by
  rw[List.getElem?_set_ne (by decide),List.getElem?_set_self (by rw[List.length_set];omega)]
 generalize ((sg.set 2 none).set 1 (some (.v (.d (.exc "NoLine" []))))).set 2 none=sg1 at e12 h7
 have e13:dy ⟨sg1,σ⟩=.ok (.ret (.new (oL D.str [sS "line"]))) ⟨sg1,σ⟩:=by
  have k:=IE σ
  have eg:bh 1 (aw [(ae 1)]) eP ⟨sg1,σ⟩=.ok (.new (oL D.str [sS "line"])) ⟨sg1,σ⟩:=by
   simp[h7,k]
  show aN (bh 1 (aw [(ae 1)]) eP) ⟨sg1,σ⟩=_
  rw[mU,eg]
  rfl
 have e14:ai [du,dy] ⟨sg,σ⟩=.ok (.ret (.new (oL D.str [sS "line"]))) ⟨sg1,σ⟩:=(jc e12).trans (rP e13)
 exact⟨⟨_,sg1,e14,rfl⟩,fun _ s hs=>by rw[e14]at hs;cases hs⟩
theorem Nu{d:D}(he:eJ X=.ok d):Sg true RT (PR X (xd .non)) σ (ai [du,dy]) (.ok []) (fun v=>.ret (.new (oL D.str v)) σ):=by
 intro sg hf
 have hx:Ev RT (PR X (xd .non)) σ gu (eJ X) (fun v=>(.nx,PR X (xd .non),σ)):=
  Hz (kZ (r:=fun v:D=>.val (.d v)) (P:=fun _=>PR X (xd .non)) (S:=fun _=>σ) (tO (R:=RT) (ds:=[D.str X]) (post:=pD eY (PR X (xd .non)) σ) (ah (sv (ax (a:=X) (e:=D.str) (i:=0) rfl)) aq) (.d .nil) rfl (rn (X:=X)) (fun _=>rfl) trivial))
 have h1:=hx sg hf
 rw[he]at h1
 obtain⟨sg',e1,hf'⟩:=h1
 have e12:du ⟨sg,σ⟩=.ok .nx ⟨sg',σ⟩:=by
  show i6 cM "FindError" 2 1 gu ⟨sg,σ⟩=_
  unfold i6
  rw[e1]
 have h7:sg'[1]? =some (some (.v (.d .non))):=hf'.2 1 _ rfl
 have e13:dy ⟨sg',σ⟩=.ok (.ret (.new (oL D.str []))) ⟨sg',σ⟩:=by
  have k:=HH σ
  have eg:bh 1 (aw [(ae 1)]) eP ⟨sg',σ⟩=.ok (.new (oL D.str [])) ⟨sg',σ⟩:=by
   simp[h7,k]
  show aN (bh 1 (aw [(ae 1)]) eP) ⟨sg',σ⟩=_
  rw[mU,eg]
  rfl
 have e14:ai [du,dy] ⟨sg,σ⟩=.ok (.ret (.new (oL D.str []))) ⟨sg',σ⟩:=(jc e12).trans (rP e13)
 exact⟨⟨_,sg',e14,rfl⟩,fun _ s hs=>by rw[e14]at hs;cases hs⟩
theorem HI{l:Ws}(h:Sg true RT (PR X (xd .non)) σ (ai [du,dy]) (.ok l) (fun v=>.ret (.new (oL D.str v)) σ)):cE RT dG [.d (.str X)] σ (.ok l) (fun v=>(.new (oL D.str v),σ)):=
 dE (N:=3) (b:=mj) (fx (PR X (xd .non)) (cU (cD eN ())) rfl h)
end
end K34
namespace K34
open PySem L2 PyProof.Rows Vw
section
variable{p p1 p2:Pt}{σ:List Ob}
theorem HF{i:Nat}{x:Val}(h:p[i]? =some (some (.v x))){sg:Slots}(hf:Fits p sg):ev (ae i) ⟨sg,σ⟩=.ok (.val x) ⟨sg,σ⟩:=by
 show(ae i ⟨sg,σ⟩).bind settle=_
 rw[mH,hf.2 _ _ h]
 rfl
theorem Mr{i:Nat}{x:Val}(h:p[i]? =some (some (.v x))){sg:Slots}(hf:Fits p sg):aw [ae i] ⟨sg,σ⟩=.ok [.val x] ⟨sg,σ⟩:=by
 rw[yH,HF h hf,Res.aa,D9]
 rfl
theorem MV{i j:Nat}{x y:Val}(h:p[i]? =some (some (.v x)))(h2:p[j]? =some (some (.v y))){sg:Slots}(hf:Fits p sg):aw [ae i,ae j] ⟨sg,σ⟩=.ok [.val x,.val y] ⟨sg,σ⟩:=by
 rw[yH,HF h hf,Res.aa,Mr h2 hf]
 rfl
theorem Pm:bj 8=Sh.bj 8:=by rfl
theorem Jj{i j:Nat}{x y:Val}{d:D}(h:p[i]? =some (some (.v x)))(h2:p[j]? =some (some (.v y)))(hx:∀ sg,Df 6 ⟨sg,σ⟩ (.val x)=some d)(hy:∀ sg,Df 6 ⟨sg,σ⟩ (.val y)=some d)(hk:Sh.m5 d=true)(hd:fG 7 d=true):Ev RT p σ (x6 6 2 (aw [ae i,ae j]) (bj 8)) (.ok true) (pD .bl p σ):=fun sg hf=>by
 refine⟨sg,?_,hf⟩
 obtain⟨s,e⟩:=Sh.alike 7 d hk hd
 unfold x6
 rw[MV h h2 hf,Res.aa]
 have e1:nR 6 ⟨sg,σ⟩ [.val x,.val y]=some [d,d]:=by
  unfold nR nR nR
  rw[hx,hy]
 rw[e1]
 dsimp only
 rw[if_pos (show [d,d].length=2 from rfl),Pm]
 have e2:Sh.bj 8 ([d,d].map Val.d) []=.ok (.val (.d (.bl true))) s:=e
 rw[e2]
 rfl
end
theorem Iu(d:Doc)(n:Nat):fB (n+2) (d.map (aP D.str D.str))=true:=pJ _ _ _ fun _ _=>rfl
theorem Sm(q:Dd)(n:Nat):fG (n+4) (cG q)=true:=by
 cases q with
 | put d=>simp[cG,fG,fB,eL,Iu]
 | change n d=>simp[cG,fG,fB,eL,Iu]
 | bare w=>rfl
 | one w n=>rfl
 | pour n m=>rfl
theorem Iw(d:Doc):Sh.kX (d.map (aP D.str D.str))=true:=by
 induction d with
 | nil=>rfl
 | cons a l ih=>rw[List.map_cons,Sh.kX,ih];rfl
theorem Tq{q:Dd}(h:(uv q).length≤2000):Sh.m5 (cG q)=true:=by
 have hd:∀ d:Doc,(iZ d).length≤2000→d.length≤2001:=fun d h=>by
  cases d with
  | nil=>simp
  | cons x d=>
   have:=y8 d
   have hg:=pK x
   rw[m3]at h
   simp only[List.length_append,List.length_cons]at h ⊢
   omega
 cases q with
 | put d=>
  have:=hd d (by unfold uv at h;simp at h;omega)
  simp[cG,Sh.m5,Sh.kX,eL,Iw]
  omega
 | change n d=>
  have:=hd d (by unfold uv at h;simp at h;omega)
  simp[cG,Sh.m5,Sh.kX,eL,Iw]
  omega
 | bare w=>rfl
 | one w n=>rfl
 | pour n m=>rfl
section
variable{ns:List Int}{X:List Nat}{σ:List Ob}
abbrev P2(ns:List Int)(X:List Nat)(s3 s4:Option Sl):Pt:=[xd (CV ns),some (.v (.r 0)),xd (.str X),s3,s4,none]
theorem Ky{l:Ws}{s3 s4:Option Sl}(h:cE RT dG [.d (.str X)] σ (.ok l) (fun v=>(.new (oL D.str v),σ))):Ev RT (P2 ns X s3 s4) σ (ev (cK 1 (aw [(ae 2)]) dG)) (.ok l) (pD (eL D.str) (P2 ns X s3 s4) σ):=
 sn (jR (post:=pN (oL D.str) (P2 ns X s3 s4) σ) (ah (sv (ax (a:=X) (e:=D.str) (i:=2) rfl)) aq) (.d .nil) rfl h (fun _=>rfl)) (fun v=>bN _ v)
theorem OD(he:eJ X=.exc NL)(hl:fC X=.ok .non):Sg true RT (P2 ns X none none) σ (ai [vP,vR,wb,vM,vO]) (.ok true) (fun b=>.ret (.val (.d (.bl b))) σ):=by
 refine fx (P2 ns X (xd .non) none) (vo (m':=M.ok (D.non)) (cU (x:=fun v=>.d v) (bE (R':=RT) (post:=pD eY (P2 ns X none none) σ) (ah (sv (ax (a:=X) (e:=D.str) (i:=2) rfl)) aq) (.d .nil) rfl (rS (ar:=X)) (fun _=>rfl))) (by rw[hl];rfl)) rfl ?_
 refine Rp (vo (fy (sv (aB (sv (ax (a:=D.non) (e:=eY) (i:=3) rfl)) (sv (cD eN ())) K7))) rfl) ?_
 exact aU (fj (v:=true) (a:=eqB [sS "line"] [sS "line"]) (x:=fun b=>.d (.bl b)) (aB (Ky (HI (Nh he))) (sn (Ev.bH (post2:=(pN (oL D.str) _ _)) (bz (l:=fun _=>([sS "line"]:List (List Nat))) (e:=D.str) (ah (sv (cD D.str (sS "line"))) aq) (fun _=>(.d .nil)) (fun _=>rfl) (fun _=>rfl)) rfl) (fun v=>bN _ v)) (d0 aL aL (qL qS) (by decide))) (by rw[bF]))
theorem O5{q:Dd}(hg:O8 q)(hX:X=uv q)(hlen:X.length≤1300)(he:eJ X=.ok (cG q))(hl:fC X=.ok (cG q)):Sg true RT (P2 ns X none none) σ (ai [vP,vR,wb,vM,vO]) (.ok true) (fun b=>.ret (.val (.d (.bl b))) σ):=by
 have hsh:mI (cG q)=.ok X:=by rw[hX];exact EV hg (by rw[←hX];omega)
 have hk:Sh.m5 (cG q)=true:=Tq (by rw[←hX];omega)
 have hd:fG 7 (cG q)=true:=Sm q 3
 refine fx (P2 ns X (xd (cG q)) none) (vo (m':=M.ok (cG q)) (cU (x:=fun v=>.d v) (bE (R':=RT) (post:=pD eY (P2 ns X none none) σ) (ah (sv (ax (a:=X) (e:=D.str) (i:=2) rfl)) aq) (.d .nil) rfl (rS (ar:=X)) (fun _=>rfl))) (by rw[hl];rfl)) rfl ?_
 refine OB (vo (fy (sv (aB (sv (ax (a:=cG q) (e:=eY) (i:=3) rfl)) (sv (cD eN ())) K7))) (by cases q<;> rfl)) ?_
 refine OB (vo (fy (sv (aB (Ky (HI (Nu he))) (sn (Ev.bH (post2:=(pN (oL D.str) _ _)) (bz (l:=fun _=>([]:List (List Nat))) (e:=D.str) aq (fun _=>.nil) (fun _=>rfl) (fun _=>rfl)) rfl) (fun v=>bN _ v)) (nX aL aL (qL qS) (by decide))))) (by rw[bF];rfl)) ?_
 refine fx (P2 ns X (xd (cG q)) (xd (cG q))) (vo (m':=M.ok (cG q)) (cU (x:=fun v=>.d v) (tO (R:=RT) (ds:=[D.str X]) (post:=pD eY (P2 ns X (xd (cG q)) none) σ) (ah (sv (ax (a:=X) (e:=D.str) (i:=2) rfl)) aq) (.d .nil) rfl (rn (X:=X)) (fun _=>rfl) trivial)) he) rfl ?_
 refine aU (fj (v:=true) (a:=true&&eqB X X) (x:=fun b=>.d (.bl b)) (N0 (sv (Jj (i:=4) (j:=3) (x:=.d (cG q)) (y:=.d (cG q)) (d:=cG q) rfl rfl (fun sg=>K4 _) (fun sg=>K4 _) hk hd)) (zG (sv (aB (sv (vo (bE (R':=RT) (post:=pD D.str (P2 ns X (xd (cG q)) (xd (cG q))) σ) (ah (sv (ax (a:=cG q) (e:=eY) (i:=4) rfl)) aq) (.d .nil) rfl (EY (cJ:=cG q)) (fun _=>rfl)) (by rw[hsh];rfl))) (sv (ax (a:=X) (e:=D.str) (i:=2) rfl)) (d0 aL aL qS (by decide)))))) (by rw[bF];rfl))
theorem PH(hlen:X.length≤1300):Sg true RT (P2 ns X none none) σ (ai [vP,vR,wb,vM,vO]) (.ok true) (fun b=>.ret (.val (.d (.bl b))) σ):=by
 rcases alike (X:=X) (by omega)with⟨q,h1,h2,h3,h4⟩ | ⟨h1,h2⟩
 ·exact O5 h1 h2 hlen h3 h4
 ·exact OD h1 h2
end
theorem Qv{ns dd d1 d2 r3 r4:List Int}{L X:List Nat}(hd:nox (kY ns 2 70)=.ok dd)(hL:Ea ns dd=.ok (L,d1))(h3:Dt d1=.ok (r3,d2))(hX:jn L r3=.ok (X,r4))(hlen:X.length≤1300):∃ st,cE RT xK [.d (CV ns)] [] (.ok true) (fun b=>(.val (.d (.bl b)),st)):=by
 refine⟨[oL D.int d2,oL D.int r4],dE (N:=6) (b:=G3) ?_⟩
 refine De (P1 ns) (S1 dd) (vo (m':=M.ok dd) (cU (x:=fun _=>.r 0) (Pl (o:=fun v=>oL D.int v) (bE (R':=RT) (post:=(pN (oL D.int) [xd (CV ns),none,none,none,none,none] [])) (ah (sv (ax (a:=ns) (e:=CV) rfl)) (ah (sv (cD D.int (2:Int))) (ah (sv (cD D.int (70:Int))) aq))) (.d (.d (.d .nil))) rfl (Cs (aK:=ns)) (fun _=>rfl)) (fun v=>KI v))) hd) rfl rfl ?_
 refine De (P2 ns X none none) [oL D.int d2,oL D.int r4] (cU (x:=fun v:List Nat×List Int=>.d (.str v.1)) (Nk hL h3 hX)) rfl rfl ?_
 exact PH hlen
theorem OE{ns dd:List Int}(h:Dr dd):Sat (Ea ns dd) fun v=>v.1.length≤300:=by
 unfold Ea
 refine az (P:=fun z:(D×List Int)×Unit=>∃ q,z.1.1=cG q∧uP q) ?_ fun z ⟨q,e,hq⟩=>?_
 ·refine az (dJ (JE (s:=ns) h)) fun v hv=>az (P:=fun w:(D×List Int)×Unit=>w.1=v) (az (P:=fun _=>True) (aF trivial) fun _ _=>aF rfl) fun w hw=>?_
  first
   | exact aF (by rw[hw];exact hv.1)
   | exact aF hv.1
 ·rw[e,MQ hq]
  exact aF (ME hq)
theorem O1(d:List Int):Sat (Dt d) fun _=>True:=by
 unfold Dt
 rw[show(3:Int)=((3:Nat):Int)from rfl,zp (by omega),M.aa]
 obtain⟨r,c',e,_⟩:=MU (mt:=fun(k5:Int) (c6:List Int)=>M.ok true) (me:=fun(k5:Int) (c6:List Int)=>nox (bT c6)) (fun _=>True) (fun _=>True) (l:=(List.range 3).map fun(i:Nat)=>(i:Int)) (c:=d) trivial (fun _ _ _=>rfl) (fun x _ c _=>by
  obtain⟨v,e,_⟩:=dJ (vV c)
  exact⟨v.1,v.2,e,trivial,trivial⟩) (by simp)
 exact⟨_,e,trivial⟩
theorem Pn(ns:List Int)(hl:ns.length≤63):∃ s,xK [Kh ns] []=.ok (.val (.d (.bl true))) s:=by
 obtain⟨dd,hd,hdr⟩:=dJ (Io ns 2 70 (by decide) (by decide))
 obtain⟨⟨L,d1⟩,hL,hl1⟩:=OE (ns:=ns) hdr
 obtain⟨⟨r3,d2⟩,h3,_⟩:=O1 d1
 obtain⟨⟨X,r4⟩,hX,hx⟩:=JZ hl1 r3
 obtain⟨st,s⟩:=Qv hd hL h3 hX hx
 exact⟨⟨[],st⟩,s⟩
end K34
namespace K34
open PySem L2 PyProof.Rows Vw
theorem Gv:NM "FIGURES":=⟨by decide,by decide⟩
theorem Am:NM "FieldReader":=⟨by decide,by decide⟩
theorem Cv:NM "FindError":=⟨by decide,by decide⟩
theorem yO:NM "LETTERS":=⟨by decide,by decide⟩
theorem G7:NM "NoBytes":=⟨by decide,by decide⟩
theorem BH:NM "NoDocument":=⟨by decide,by decide⟩
theorem sQ:NM "NoField":=⟨by decide,by decide⟩
theorem uf:NM "NoLine":=⟨by decide,by decide⟩
theorem HZ:NM "NoMake":=⟨by decide,by decide⟩
theorem DS:NM "NoPattern":=⟨by decide,by decide⟩
theorem Gu:NM "NoPiece":=⟨by decide,by decide⟩
theorem G0:NM "NoStamp":=⟨by decide,by decide⟩
theorem HL:NM "NoText":=⟨by decide,by decide⟩
theorem tU:NM "_law_alike":=⟨by decide,by decide⟩
theorem aV:NM "_law_at":=⟨by decide,by decide⟩
theorem DA:NM "_law_bent":=⟨by decide,by decide⟩
theorem Ae:NM "_law_caught":=⟨by decide,by decide⟩
theorem DN:NM "_law_cell":=⟨by decide,by decide⟩
theorem hY:NM "_law_cells":=⟨by decide,by decide⟩
theorem DD:NM "_law_deed":=⟨by decide,by decide⟩
theorem oa:NM "_law_deed_here":=⟨by decide,by decide⟩
theorem yD:NM "_law_deed_in":=⟨by decide,by decide⟩
theorem o4:NM "_law_document":=⟨by decide,by decide⟩
theorem lS:NM "_law_document_in":=⟨by decide,by decide⟩
theorem A8:NM "_law_draws":=⟨by decide,by decide⟩
theorem aH:NM "_law_draws_here":=⟨by decide,by decide⟩
theorem eK:NM "_law_due":=⟨by decide,by decide⟩
theorem mL:NM "_law_end":=⟨by decide,by decide⟩
theorem ck:NM "_law_error":=⟨by decide,by decide⟩
theorem Bx:NM "_law_field":=⟨by decide,by decide⟩
theorem aA:NM "_law_found":=⟨by decide,by decide⟩
theorem AX:NM "_law_j":=⟨by decide,by decide⟩
theorem iW:NM "_law_k":=⟨by decide,by decide⟩
theorem DU:NM "_law_kind":=⟨by decide,by decide⟩
theorem lG:NM "_law_left":=⟨by decide,by decide⟩
theorem qU:NM "_law_letters":=⟨by decide,by decide⟩
theorem Ey:NM "_law_line":=⟨by decide,by decide⟩
theorem ay:NM "_law_line_here":=⟨by decide,by decide⟩
theorem vd:NM "_law_many":=⟨by decide,by decide⟩
theorem cm:NM "_law_name":=⟨by decide,by decide⟩
theorem BU:NM "_law_names":=⟨by decide,by decide⟩
theorem j5:NM "_law_number":=⟨by decide,by decide⟩
theorem bw:NM "_law_number_here":=⟨by decide,by decide⟩
theorem iD:NM "_law_number_in":=⟨by decide,by decide⟩
theorem EU:NM "_law_odd":=⟨by decide,by decide⟩
theorem c8:NM "_law_one":=⟨by decide,by decide⟩
theorem cg:NM "_law_parts":=⟨by decide,by decide⟩
theorem Bj:NM "_law_place":=⟨by decide,by decide⟩
theorem eM:NM "_law_pop":=⟨by decide,by decide⟩
theorem qM:NM "_law_refused":=⟨by decide,by decide⟩
theorem eo:NM "_law_script":=⟨by decide,by decide⟩
theorem g0:NM "_law_sign":=⟨by decide,by decide⟩
theorem Bg:NM "_law_signs":=⟨by decide,by decide⟩
theorem dA:NM "_law_some":=⟨by decide,by decide⟩
theorem C0:NM "_law_text":=⟨by decide,by decide⟩
theorem cc:NM "_law_text_here":=⟨by decide,by decide⟩
theorem yp:NM "_law_text_in":=⟨by decide,by decide⟩
theorem dz:NM "_law_turn":=⟨by decide,by decide⟩
theorem zR:NM "_law_turned":=⟨by decide,by decide⟩
theorem PB:NM "all":=⟨by decide,by decide⟩
theorem PL:("all":Str)≠"__name__":=by decide
theorem JP:NM "begin":=⟨by decide,by decide⟩
theorem F6:NM "bool":=⟨by decide,by decide⟩
theorem Fh:("bool":Str)≠"__name__":=by decide
theorem F4:NM "deed":=⟨by decide,by decide⟩
theorem rq:NM "document":=⟨by decide,by decide⟩
theorem M9:NM "e":=⟨by decide,by decide⟩
theorem mf:NM "field":=⟨by decide,by decide⟩
theorem Hv:NM "fields":=⟨by decide,by decide⟩
theorem pR:NM "found":=⟨by decide,by decide⟩
theorem Fp:NM "good":=⟨by decide,by decide⟩
theorem lp:NM "int":=⟨by decide,by decide⟩
theorem lE:("int":Str)≠"__name__":=by decide
theorem GB:NM "is_name":=⟨by decide,by decide⟩
theorem LS:NM "last":=⟨by decide,by decide⟩
theorem dk:NM "len":=⟨by decide,by decide⟩
theorem df:("len":Str)≠"__name__":=by decide
theorem vZ:NM "line":=⟨by decide,by decide⟩
theorem zW:NM "list":=⟨by decide,by decide⟩
theorem zg:("list":Str)≠"__name__":=by decide
theorem ue:NM "look_at_document":=⟨by decide,by decide⟩
theorem Mh:NM "many":=⟨by decide,by decide⟩
theorem rK:NM "name":=⟨by decide,by decide⟩
theorem Hq:NM "number":=⟨by decide,by decide⟩
theorem uj:NM "number_of":=⟨by decide,by decide⟩
theorem yk:NM "numbers":=⟨by decide,by decide⟩
theorem ED:NM "one":=⟨by decide,by decide⟩
theorem Mq:NM "part":=⟨by decide,by decide⟩
theorem xG:NM "parts":=⟨by decide,by decide⟩
theorem Kg:NM "place":=⟨by decide,by decide⟩
theorem uC:NM "read_deed":=⟨by decide,by decide⟩
theorem pC:NM "read_document":=⟨by decide,by decide⟩
theorem rg:NM "reader":=⟨by decide,by decide⟩
theorem yZ:NM "rest":=⟨by decide,by decide⟩
theorem b9:NM "self":=⟨by decide,by decide⟩
theorem Ek:NM "show_deed":=⟨by decide,by decide⟩
theorem wW:NM "show_document":=⟨by decide,by decide⟩
theorem BA:NM "show_field":=⟨by decide,by decide⟩
theorem Fu:NM "sign":=⟨by decide,by decide⟩
theorem xF:NM "signs":=⟨by decide,by decide⟩
theorem HX:NM "sorted":=⟨by decide,by decide⟩
theorem Hn:("sorted":Str)≠"__name__":=by decide
theorem yU:NM "str":=⟨by decide,by decide⟩
theorem yo:("str":Str)≠"__name__":=by decide
theorem mw:NM "sure":=⟨by decide,by decide⟩
theorem gM:NM "text":=⟨by decide,by decide⟩
theorem D6:NM "tuple":=⟨by decide,by decide⟩
theorem CW:("tuple":Str)≠"__name__":=by decide
structure Fx (P:Program) (w:World) (K:PySem.W.Frag) (mg:Str→Option Value) (base:Heap) (cA:String→Addr) where
 f__law_draws:Addr
 d__law_draws:FuncData
 F__law_draws:gv K "_law_draws" "_law_draws" (top 26) f__law_draws d__law_draws
 B__law_draws:Binds K d__law_draws ["_law_script","_law_turn","_law_many"] []
 iK:mg "_law_draws"=some (.ref f__law_draws)
 f__law_pop:Addr
 d__law_pop:FuncData
 F__law_pop:gv K "_law_pop" "_law_pop" (top 27) f__law_pop d__law_pop
 B__law_pop:Binds K d__law_pop ["_law_draws_here"] []
 bp:mg "_law_pop"=some (.ref f__law_pop)
 f__law_odd:Addr
 d__law_odd:FuncData
 F__law_odd:gv K "_law_odd" "_law_odd" (top 40) f__law_odd d__law_odd
 B__law_odd:Binds K d__law_odd ["_law_number_here"] []
 kQ:mg "_law_odd"=some (.ref f__law_odd)
 f__law_bent:Addr
 d__law_bent:FuncData
 F__law_bent:gv K "_law_bent" "_law_bent" (top 41) f__law_bent d__law_bent
 B__law_bent:Binds K d__law_bent ["_law_line_here","_law_draws_here"] []
 jm:mg "_law_bent"=some (.ref f__law_bent)
 f__law_line:Addr
 d__law_line:FuncData
 F__law_line:gv K "_law_line" "_law_line" (top 34) f__law_line d__law_line
 B__law_line:Binds K d__law_line ["_law_deed_here"] []
 gI:mg "_law_line"=some (.ref f__law_line)
 f__law_names:Addr
 d__law_names:FuncData
 F__law_names:gv K "_law_names" "_law_names" (top 29) f__law_names d__law_names
 B__law_names:Binds K d__law_names ["_law_draws_here"] []
 jP:mg "_law_names"=some (.ref f__law_names)
 f__law_text:Addr
 d__law_text:FuncData
 F__law_text:gv K "_law_text" "_law_text" (top 30) f__law_text d__law_text
 B__law_text:Binds K d__law_text ["_law_draws_here"] []
 jl:mg "_law_text"=some (.ref f__law_text)
 f__law_document:Addr
 d__law_document:FuncData
 F__law_document:gv K "_law_document" "_law_document" (top 31) f__law_document d__law_document
 B__law_document:Binds K d__law_document ["_law_draws_here"] []
 eR:mg "_law_document"=some (.ref f__law_document)
 f__law_number:Addr
 d__law_number:FuncData
 F__law_number:gv K "_law_number" "_law_number" (top 32) f__law_number d__law_number
 B__law_number:Binds K d__law_number ["_law_script","_law_draws_here"] []
 cX:mg "_law_number"=some (.ref f__law_number)
 f__law_deed:Addr
 d__law_deed:FuncData
 F__law_deed:gv K "_law_deed" "_law_deed" (top 33) f__law_deed d__law_deed
 B__law_deed:Binds K d__law_deed ["_law_script","_law_draws_here"] []
 gJ:mg "_law_deed"=some (.ref f__law_deed)
 f__law_text_in:Addr
 d__law_text_in:FuncData
 F__law_text_in:gv K "_law_text_in" "_law_text_in" (top 36) f__law_text_in d__law_text_in
 B__law_text_in:Binds K d__law_text_in ["_law_line_here","_law_at"] []
 iO:mg "_law_text_in"=some (.ref f__law_text_in)
 f__law_document_in:Addr
 d__law_document_in:FuncData
 F__law_document_in:gv K "_law_document_in" "_law_document_in" (top 37) f__law_document_in d__law_document_in
 B__law_document_in:Binds K d__law_document_in ["_law_line_here"] []
 dq:mg "_law_document_in"=some (.ref f__law_document_in)
 f__law_number_in:Addr
 d__law_number_in:FuncData
 F__law_number_in:gv K "_law_number_in" "_law_number_in" (top 35) f__law_number_in d__law_number_in
 B__law_number_in:Binds K d__law_number_in ["_law_text_here"] []
 bZ:mg "_law_number_in"=some (.ref f__law_number_in)
 f__law_deed_in:Addr
 d__law_deed_in:FuncData
 F__law_deed_in:gv K "_law_deed_in" "_law_deed_in" (top 38) f__law_deed_in d__law_deed_in
 B__law_deed_in:Binds K d__law_deed_in ["_law_line_here"] []
 iM:mg "_law_deed_in"=some (.ref f__law_deed_in)
 hU:Addr
 dO:FuncData
 F_FieldReader____init__:gv K "__init__" "FieldReader.__init__" (gi 22 0) hU dO
 B_FieldReader____init__:Binds K dO ["self","line"] []
 f_FieldReader__next_name:Addr
 d_FieldReader__next_name:FuncData
 F_FieldReader__next_name:gv K "next_name" "FieldReader.next_name" (gi 22 3) f_FieldReader__next_name d_FieldReader__next_name
 B_FieldReader__next_name:Binds K d_FieldReader__next_name ["self"] []
 cP:Meth K (cA "FieldReader") (Str.ofString "next_name") f_FieldReader__next_name
 f_sure:Addr
 d_sure:FuncData
 F_sure:gv K "sure" "sure" (top 20) f_sure d_sure
 B_sure:Binds K d_sure ["good"] []
 fw:mg "sure"=some (.ref f_sure)
 f_FieldReader__ahead:Addr
 d_FieldReader__ahead:FuncData
 F_FieldReader__ahead:gv K "ahead" "FieldReader.ahead" (gi 22 1) f_FieldReader__ahead d_FieldReader__ahead
 B_FieldReader__ahead:Binds K d_FieldReader__ahead ["self","many"] []
 aC:Meth K (cA "FieldReader") (Str.ofString "ahead") f_FieldReader__ahead
 f_FieldReader__eat:Addr
 d_FieldReader__eat:FuncData
 F_FieldReader__eat:gv K "eat" "FieldReader.eat" (gi 22 2) f_FieldReader__eat d_FieldReader__eat
 B_FieldReader__eat:Binds K d_FieldReader__eat ["self","signs"] []
 aT:Meth K (cA "FieldReader") (Str.ofString "eat") f_FieldReader__eat
 f_FieldReader__next_text:Addr
 d_FieldReader__next_text:FuncData
 F_FieldReader__next_text:gv K "next_text" "FieldReader.next_text" (gi 22 4) f_FieldReader__next_text d_FieldReader__next_text
 B_FieldReader__next_text:Binds K d_FieldReader__next_text ["self"] []
 cN:Meth K (cA "FieldReader") (Str.ofString "next_text") f_FieldReader__next_text
 f_FieldReader__next_field:Addr
 d_FieldReader__next_field:FuncData
 F_FieldReader__next_field:gv K "next_field" "FieldReader.next_field" (gi 22 5) f_FieldReader__next_field d_FieldReader__next_field
 B_FieldReader__next_field:Binds K d_FieldReader__next_field ["self"] []
 bo:Meth K (cA "FieldReader") (Str.ofString "next_field") f_FieldReader__next_field
 f_is_name:Addr
 d_is_name:FuncData
 F_is_name:gv K "is_name" "is_name" (top 14) f_is_name d_is_name
 B_is_name:Binds K d_is_name ["text"] []
 mY:mg "is_name"=some (.ref f_is_name)
 f_look_at_document:Addr
 d_look_at_document:FuncData
 F_look_at_document:gv K "look_at_document" "look_at_document" (top 15) f_look_at_document d_look_at_document
 B_look_at_document:Binds K d_look_at_document ["document"] []
 fU:mg "look_at_document"=some (.ref f_look_at_document)
 f_read_document:Addr
 d_read_document:FuncData
 F_read_document:gv K "read_document" "read_document" (top 23) f_read_document d_read_document
 B_read_document:Binds K d_read_document ["text"] []
 dU:mg "read_document"=some (.ref f_read_document)
 f_number_of:Addr
 d_number_of:FuncData
 F_number_of:gv K "number_of" "number_of" (top 21) f_number_of d_number_of
 B_number_of:Binds K d_number_of ["text"] []
 iz:mg "number_of"=some (.ref f_number_of)
 f_read_deed:Addr
 d_read_deed:FuncData
 F_read_deed:gv K "read_deed" "read_deed" (top 24) f_read_deed d_read_deed
 B_read_deed:Binds K d_read_deed ["line"] []
 d4:mg "read_deed"=some (.ref f_read_deed)
 f__law_kind:Addr
 d__law_kind:FuncData
 F__law_kind:gv K "_law_kind" "_law_kind" (top 39) f__law_kind d__law_kind
 B__law_kind:Binds K d__law_kind ["_law_error"] []
 eP:mg "_law_kind"=some (.ref f__law_kind)
 f__law_refused:Addr
 d__law_refused:FuncData
 F__law_refused:gv K "_law_refused" "_law_refused" (top 42) f__law_refused d__law_refused
 B__law_refused:Binds K d__law_refused ["_law_line_here"] []
 dG:mg "_law_refused"=some (.ref f__law_refused)
 f__law_alike:Addr
 d__law_alike:FuncData
 F__law_alike:gv K "_law_alike" "_law_alike" (top 28) f__law_alike d__law_alike
 B__law_alike:Binds K d__law_alike ["_law_found","_law_due"] []
 bj:mg "_law_alike"=some (.ref f__law_alike)
 f_show_field:Addr
 d_show_field:FuncData
 F_show_field:gv K "show_field" "show_field" (top 17) f_show_field d_show_field
 B_show_field:Binds K d_show_field ["field","text"] []
 jQ:mg "show_field"=some (.ref f_show_field)
 f_show_document:Addr
 d_show_document:FuncData
 F_show_document:gv K "show_document" "show_document" (top 18) f_show_document d_show_document
 B_show_document:Binds K d_show_document ["document"] []
 il:mg "show_document"=some (.ref f_show_document)
 f_show_deed:Addr
 d_show_deed:FuncData
 F_show_deed:gv K "show_deed" "show_deed" (top 19) f_show_deed d_show_deed
 B_show_deed:Binds K d_show_deed ["deed"] []
 kg:mg "show_deed"=some (.ref f_show_deed)
 f_law:Addr
 d_law:FuncData
 F_law:gv K "law" "law" (top 43) f_law d_law
 B_law:Binds K d_law ["_law_script"] []
 xK:mg "law"=some (.ref f_law)
 b_ValueError:mg "ValueError"=none
 b_all:mg "all"=none
 b_bool:mg "bool"=none
 b_enumerate:mg "enumerate"=none
 b_int:mg "int"=none
 b_isinstance:mg "isinstance"=none
 b_len:mg "len"=none
 b_list:mg "list"=none
 b_range:mg "range"=none
 b_sorted:mg "sorted"=none
 b_str:mg "str"=none
 b_tuple:mg "tuple"=none
 t_FIGURES:Tok
 c_FIGURES:mg "FIGURES"=some (.str "0123456789" t_FIGURES)
 t_LETTERS:Tok
 c_LETTERS:mg "LETTERS"=some (.str "abcdefghijklmnopqrstuvwxyz" t_LETTERS)
 gc_FieldReader:mg (Str.ofString "FieldReader")=some (.ref (cA "FieldReader"))
 gc_FindError:mg (Str.ofString "FindError")=some (.ref (cA "FindError"))
 gc_NoBytes:mg (Str.ofString "NoBytes")=some (.ref (cA "NoBytes"))
 gc_NoDocument:mg (Str.ofString "NoDocument")=some (.ref (cA "NoDocument"))
 gc_NoField:mg (Str.ofString "NoField")=some (.ref (cA "NoField"))
 gc_NoLine:mg (Str.ofString "NoLine")=some (.ref (cA "NoLine"))
 gc_NoMake:mg (Str.ofString "NoMake")=some (.ref (cA "NoMake"))
 gc_NoPattern:mg (Str.ofString "NoPattern")=some (.ref (cA "NoPattern"))
 gc_NoPiece:mg (Str.ofString "NoPiece")=some (.ref (cA "NoPiece"))
 gc_NoStamp:mg (Str.ofString "NoStamp")=some (.ref (cA "NoStamp"))
 gc_NoText:mg (Str.ofString "NoText")=some (.ref (cA "NoText"))
 ex_NoLine:ExF K (cA "NoLine")
 em_FindError:EM cM K cA "FindError" (.ref (cA "FindError"))
 em_NoField:EM cM K cA "NoField" (.ref (cA "NoField"))
 ek_NoBytes:ExK cM K cA "NoBytes" (.ref (cA "NoBytes"))
 ek_NoDocument:ExK cM K cA "NoDocument" (.ref (cA "NoDocument"))
 ek_NoField:ExK cM K cA "NoField" (.ref (cA "NoField"))
 ek_NoLine:ExK cM K cA "NoLine" (.ref (cA "NoLine"))
 ek_NoMake:ExK cM K cA "NoMake" (.ref (cA "NoMake"))
 ek_NoPattern:ExK cM K cA "NoPattern" (.ref (cA "NoPattern"))
 ek_NoPiece:ExK cM K cA "NoPiece" (.ref (cA "NoPiece"))
 ek_NoStamp:ExK cM K cA "NoStamp" (.ref (cA "NoStamp"))
 ek_NoText:ExK cM K cA "NoText" (.ref (cA "NoText"))
 ek_ValueError:ExK cM K cA "ValueError" (.type "ValueError")
 oa_NoField:Addr
 od_NoField:FuncData
 oi_NoField:OinF P w K mg base (cA "NoField") oa_NoField od_NoField
 cl_FieldReader:Cls K (cA "FieldReader")
 k_FieldReader:Mk K (cA "FieldReader") hU
 pl:PM Ii K cA
 fld:vp K cA fT
section
variable{P:Program}{w:World}{K:PySem.W.Frag}{mg:Str→Option Value}{base:Heap}{cA:String→Addr}
theorem ua:FnScope ["_law_script","_law_turn","_law_many","_law_cells","_law_found","_law_k","_law_left","_law_place","_law_number_here","_law_at","_law_cell"] ["_law_script","_law_turn","_law_many"] (defScope (top 26)):=gp
theorem nZ(E:Fx P w K mg base cA):FnOk P w K mg base CX0 2 E.f__law_draws E.d__law_draws ["_law_script","_law_turn","_law_many"] (bP cA 3 iK):=by
 refine gZ (k:=1) E.F__law_draws ua rfl rfl fun cdv A outer s H E0 C hr hC=>?_
 have hu:=hr.units
 have nodupN:=ua.nd
 unfold lK
 exact(af (vg nodupN (aW (hJ (va eo) i8 (di vi)) (bu (vc (va dz) ak)))) (af (vg nodupN (bu ak)) (af (Vw.bB (dR hu (dP (kh (vx hu (va hY) vi) vi) vi) vi rfl) (af (ML hC [("_law_cell",10)] rfl rfl nodupN rfl rfl rfl rfl (by kernel_rfl) (n4 (va hY)) (by kernel_rfl) (fun s H D cl fp C hC=>⟨(tn nodupN),pQ,(kh (va DN) vi)⟩) rfl (by decide)) (af (je hC PassesOwn.never rfl (pq (vc (aW (va dz) (va vd)) ak) rfl E.b_range rfl) (fun C hC hW=>(tn nodupN)) (fun C hC hW=>(af (vg nodupN (dP (va iW) (dX call_len (cC _) rfl E.b_len dh (vc (va lG) ak) rfl df dk.1))) (af (Vw.bB (Rg hu (va iW) (va dz) rfl) (af (cq (gk F.plainAttrs_list F.slot_list_append F.type_list_append mt_append cH fZ (va aA) (vc (dP (vx hu (va lG) (va aV)) vi) ak) rfl rfl (by decide) rfl) rfl) aj) aj) (af (LC hu (va lG) (va aV) (kh (vx hu (va lG) (va aV)) vi) rfl rfl) aj)))) rfl) (af (aR (va aA)) aj))) aj) (af (je hC PassesOwn.never rfl (pq (vc (va vd) ak) rfl E.b_range rfl) (fun C hC hW=>(tn nodupN)) (fun C hC hW=>(af (vg nodupN (aW (mK (mK (aW (va iW) (va dz)) (aW (va iW) (va dz))) vi) vi)) (af (vg nodupN (dP (mK (aW (dP (vx hu (va hY) (dP (va iW) (dX call_len (cC _) rfl E.b_len dh (vc (va hY) ak) rfl df dk.1))) vi) (va Bj)) vi) vi)) (af (vg nodupN (dP (aW (mK (va bw) (va bw)) (mK vi (va iW))) vi)) (af (cq (gk F.plainAttrs_list F.slot_list_append F.type_list_append mt_append cH fZ (va aA) (vc (dP (mK (va bw) (va bw)) vi) ak) rfl rfl (by decide) rfl) rfl) aj))))) rfl) (af (aR (va aA)) aj)))))
theorem wG:FnScope ["_law_draws_here"] ["_law_draws_here"] (defScope (top 27)):=gp
theorem bt(E:Fx P w K mg base cA):FnOk P w K mg base CX0 2 E.f__law_pop E.d__law_pop ["_law_draws_here"] (bP cA 1 bp):=by
 refine gZ (k:=1) E.F__law_pop wG rfl rfl fun cdv A outer s H E0 C hr hC=>?_
 have hu:=hr.units
 have nodupN:=wG.nd
 unfold oE
 exact(af (Vw.bB (dR hu (va aH) (bu ak) rfl) (af (aR vi) aj) aj) (af (aR (Qw F.plainAttrs_list F.slot_list_pop F.type_list_pop mt_pop L3 fZ (va aH) rfl rfl)) aj))
theorem wy:FnScope ["_law_number_here","_law_some"] ["_law_number_here"] (defScope (top 40)):=gp
theorem rk(E:Fx P w K mg base cA):FnOk P w K mg base CX0 2 E.f__law_odd E.d__law_odd ["_law_number_here"] (bP cA 1 kQ):=by
 refine gZ (k:=1) E.F__law_odd wy rfl rfl fun cdv A outer s H E0 C hr hC=>?_
 have hu:=hr.units
 have nodupN:=wy.nd
 unfold xZ
 exact(af (vg nodupN (bu (vc av (vc av (vc av (vc av (vc av (vc av (vc av (vc av (vc av ak))))))))))) (af (vg nodupN (aW (va dA) (bu (vc av (vc av (vc av (vc av (vc av ak)))))))) (af (vg nodupN (aW (va dA) (bu (vc av (vc av (vc av ak)))))) (af (vg nodupN (aW (va dA) (bu (vc av (vc av (vc av (vc av (vc av ak)))))))) (af (vg nodupN (aW (va dA) (bu (vc av (vc av (vc av (vc av (vc av (vc av ak))))))))) (af (vg nodupN (aW (va dA) (bu (vc av (vc av (vc av (vc av (vc av (vc av (vc av (vc av (vc av ak)))))))))))) (af (vg nodupN (aW (va dA) (bu (vc (aW av (mK av vi)) (vc (aW av (mK av vi)) (vc av (vc av (vc av (vc av (vc av ak)))))))))) (af (vg nodupN (aW (va dA) (bu (vc av (vc av (vc av (vc av (vc av (vc av (vc av (vc av (vc av ak)))))))))))) (af (aR (vx hu (va dA) (dP (va bw) (dX call_len (cC _) rfl E.b_len dh (vc (va dA) ak) rfl df dk.1)))) aj)))))))))
theorem uW:FnScope ["_law_line_here","_law_draws_here","_law_number_here","_law_at","_law_one","_law_sign","_law_turn","_law_turned"] ["_law_line_here","_law_draws_here"] (defScope (top 41)):=gp
theorem pM(E:Fx P w K mg base cA):FnOk P w K mg base CX0 4 E.f__law_bent E.d__law_bent ["_law_line_here","_law_draws_here"] (bP cA 2 jm):=by
 have bt:=bt E
 have rk:=rk E
 refine gZ (k:=3) E.F__law_bent uW rfl rfl fun cdv A outer s H E0 C hr hC=>?_
 have hu:=hr.units
 have nodupN:=uW.nd
 unfold wU
 exact(af (vg nodupN (x_call hC bt (hr.mono (by omega)) rfl E.bp E.F__law_pop.kp E.B__law_pop pass0 rfl (vc (va aH) ak) eM.1 rfl)) (af (vg nodupN (dP (x_call hC bt (hr.mono (by omega)) rfl E.bp E.F__law_pop.kp E.B__law_pop pass0 rfl (vc (va aH) ak) eM.1 rfl) (aW (dX call_len (cC _) rfl E.b_len dh (vc (va ay) ak) rfl df dk.1) vi))) (af (vg nodupN (x_call hC bt (hr.mono (by omega)) rfl E.bp E.F__law_pop.kp E.B__law_pop pass0 rfl (vc (va aH) ak) eM.1 rfl)) (af (vg nodupN (vx hu (vx hu (bu (vc av (vc av ak))) (dP (va c8) vi)) (dP (kh (va c8) vi) vi))) (af (vg nodupN (dP (va bw) vi)) (af (Vw.bB (vS hu (va dz) vi rfl) (af (aR (aW (aW (hJ (va ay) i8 (di (va aV))) (va g0)) (hJ (va ay) (di (va aV)) i8))) aj) aj) (af (Vw.bB (vS hu (va dz) vi rfl) (af (aR (aW (aW (hJ (va ay) i8 (di (va aV))) (va g0)) (hJ (va ay) (di (aW (va aV) vi)) i8))) aj) aj) (af (Vw.bB (dR hu (va dz) vi rfl) (af (aR (aW (hJ (va ay) i8 (di (va aV))) (hJ (va ay) (di (aW (va aV) vi)) i8))) aj) aj) (af (Vw.bB (dR hu (va dz) vi rfl) (af (vg nodupN (aW (hJ (va ay) (di (aW (va aV) vi)) (di (aW (va aV) vi))) (hJ (va ay) (di (va aV)) (di (aW (va aV) vi))))) (af (aR (aW (aW (hJ (va ay) i8 (di (va aV))) (va zR)) (hJ (va ay) (di (aW (va aV) vi)) i8))) aj)) aj) (af (Vw.bB (dR hu (va dz) vi rfl) (af (aR (hJ (va ay) i8 (di (va aV)))) aj) aj) (af (Vw.bB (dR hu (va dz) vi rfl) (af (aR (x_call hC rk (hr.mono (by omega)) rfl E.kQ E.F__law_odd.kp E.B__law_odd pass0 rfl (vc (va c8) ak) EU.1 rfl)) aj) aj) (af (aR (va ay)) aj))))))))))))
theorem vw:FnScope ["_law_deed_here","_law_line_here","_law_one","_law_field","_law_text_here","_law_sign"] ["_law_deed_here"] (defScope (top 34)):=gp
theorem pz(E:Fx P w K mg base cA):FnOk P w K mg base CX0 2 E.f__law_line E.d__law_line ["_law_deed_here"] (bP cA 1 gI):=by
 refine gZ (k:=1) E.F__law_line vw rfl rfl fun cdv A outer s H E0 C hr hC=>?_
 have hu:=hr.units
 have nodupN:=vw.nd
 unfold wQ
 exact(af (vg nodupN (vx hu (va oa) vi)) (af (je hC PassesOwn.never rfl (n4 (hJ (va oa) (di vi) i8)) (fun C hC hW=>(tn nodupN)) (fun C hC hW=>(af (Vw.bB (fq (lJ (va c8) rfl E.b_isinstance rfl E.b_int ll (by decide) rfl lE lp.1) rfl) (af (vg nodupN (aW (aW (va ay) av) (lq call_str_int Ew rfl E.b_str xM (vc (va c8) ak) rfl yo yU.1))) aj) (af (Vw.bB (dR hu (va c8) (bu ak) rfl) (af (vg nodupN (aW (va ay) av)) aj) (af (je hC PassesOwn.never rfl (n4 (va c8)) (fun C hC hW=>(oV rfl (eX (tn nodupN) (eX (tn nodupN) oP rfl) rfl) rfl rfl)) (fun C hC hW=>(af (vg nodupN (aW (aW (aW (va ay) av) (va Bx)) av)) (af (je hC PassesOwn.never rfl (n4 (va cc)) (fun C hC hW=>(tn nodupN)) (fun C hC hW=>(af (vg nodupN (aW (aW (va ay) (va g0)) (vx hu (bu (vc av (vc av ak))) (lq call_int1 vW rfl E.b_int ll (vc (rH hu (va g0) av rfl) ak) rfl lE lp.1)))) aj)) rfl) (af (vg nodupN (aW (va ay) av)) aj)))) rfl) aj)) aj)) aj)) rfl) (af (aR (va ay)) aj)))
theorem uc:FnScope ["_law_draws_here","_law_letters","_law_found","_law_k","_law_number_here","_law_name","_law_j"] ["_law_draws_here"] (defScope (top 29)):=gp
theorem nK(E:Fx P w K mg base cA):FnOk P w K mg base CX0 4 E.f__law_names E.d__law_names ["_law_draws_here"] (bP cA 1 jP):=by
 have bt:=bt E
 refine gZ (k:=3) E.F__law_names uc rfl rfl fun cdv A outer s H E0 C hr hC=>?_
 have hu:=hr.units
 have nodupN:=uc.nd
 unfold uz
 exact(af (Cf nodupN rfl (.inr rfl) (.inl rfl) av rfl) (af (vg nodupN Oz) (af (je hC PassesOwn.never rfl (pq (vc (vx hu (bu (vc vi (vc vi (vc vi (vc vi (vc vi (vc vi ak))))))) (dP (x_call hC bt (hr.mono (by omega)) rfl E.bp E.F__law_pop.kp E.B__law_pop pass0 rfl (vc (va aH) ak) eM.1 rfl) vi)) ak) rfl E.b_range rfl) (fun C hC hW=>(tn nodupN)) (fun C hC hW=>(af (Cf nodupN rfl (.inr rfl) (.inl rfl) (x_call hC bt (hr.mono (by omega)) rfl E.bp E.F__law_pop.kp E.B__law_pop pass0 rfl (vc (va aH) ak) eM.1 rfl) rfl) (af (vg nodupN (gk F.plainAttrs_str F.slot_str_join F.type_str_join mt_join (sX _) k7 av (vc (Ad hC [("_law_j",6)] rfl rfl nodupN (pq (vc (aW vi (dP (vb bw) vi)) ak) rfl E.b_range rfl) (by kernel_rfl) (fun s H D cl fp C hC=>⟨(tn nodupN),pQ,(vx hu (vb qU) (dP (aW (kh (vb bw) vi) (mK (mK (va AX) (va AX)) vi)) vi))⟩) rfl (by decide)) ak) rfl rfl (by decide) rfl)) (af (LC hu (va aA) (aW (vx hu (vb qU) (dP (kh (vb bw) vi) vi)) (va cm)) vt rfl rfl) aj)))) rfl) (af (aR (dX (call_sortedD rfl) GP rfl E.b_sorted HC (vc (va aA) ak) rfl Hn HX.1)) aj))))
theorem uK:FnScope ["_law_draws_here","_law_signs","_law_found","_law_k","_law_number_here","_law_some"] ["_law_draws_here"] (defScope (top 30)):=gp
theorem pf(E:Fx P w K mg base cA):FnOk P w K mg base CX0 4 E.f__law_text E.d__law_text ["_law_draws_here"] (bP cA 1 jl):=by
 have bt:=bt E
 refine gZ (k:=3) E.F__law_text uK rfl rfl fun cdv A outer s H E0 C hr hC=>?_
 have hu:=hr.units
 have nodupN:=uK.nd
 unfold mM
 exact(af (vg nodupN av) (af (vg nodupN av) (af (je hC PassesOwn.never rfl (pq (vc (dP (x_call hC bt (hr.mono (by omega)) rfl E.bp E.F__law_pop.kp E.B__law_pop pass0 rfl (vc (va aH) ak) eM.1 rfl) vi) ak) rfl E.b_range rfl) (fun C hC hW=>(tn nodupN)) (fun C hC hW=>(af (vg nodupN (x_call hC bt (hr.mono (by omega)) rfl E.bp E.F__law_pop.kp E.B__law_pop pass0 rfl (vc (va aH) ak) eM.1 rfl)) (af (vg nodupN (vx hu (bu (vc (va Bg) (vc av (vc av ak)))) (dP (va bw) vi))) (af (vg nodupN (aW (va aA) (vx hu (va dA) (dP (kh (va bw) vi) (dX call_len (cC _) rfl E.b_len dh (vc (va dA) ak) rfl df dk.1))))) aj)))) rfl) (af (aR (va aA)) aj))))
theorem o5:FnScope ["_law_draws_here","_law_name"] ["_law_draws_here"] (defScope (top 31)):=gp
theorem i5(E:Fx P w K mg base cA):FnOk P w K mg base CX0 6 E.f__law_document E.d__law_document ["_law_draws_here"] (bP cA 1 eR):=by
 have nK:=nK E
 have pf:=pf E
 refine gZ (k:=5) E.F__law_document o5 rfl rfl fun cdv A outer s H E0 C hr hC=>?_
 have hu:=hr.units
 have nodupN:=o5.nd
 unfold qE
 exact(af (aR (Ad hC [("_law_name",1)] rfl rfl nodupN (n4 (x_call hC nK (hr.mono (by omega)) rfl E.jP E.F__law_names.kp E.B__law_names pass0 rfl (vc (vb aH) ak) BU.1 rfl)) (by kernel_rfl) (fun s H D cl fp C hC=>⟨(tn nodupN),pQ,(fR (vc (va cm) (vc (x_call hC pf (hr.mono (by omega)) rfl E.jl E.F__law_text.kp E.B__law_text pass0 rfl (vc (vb aH) ak) C0.1 rfl) ak)))⟩) rfl (by decide))) aj)
theorem rO:FnScope ["_law_script","_law_draws_here","_law_one","_law_cells"] ["_law_script","_law_draws_here"] (defScope (top 32)):=gp
theorem gK(E:Fx P w K mg base cA):FnOk P w K mg base CX0 4 E.f__law_number E.d__law_number ["_law_script","_law_draws_here"] (bP cA 2 cX):=by
 have bt:=bt E
 refine gZ (k:=3) E.F__law_number rO rfl rfl fun cdv A outer s H E0 C hr hC=>?_
 have hu:=hr.units
 have nodupN:=rO.nd
 unfold ub
 exact(af (vg nodupN (x_call hC bt (hr.mono (by omega)) rfl E.bp E.F__law_pop.kp E.B__law_pop pass0 rfl (vc (va aH) ak) eM.1 rfl)) (af (vg nodupN (aW (hJ (va eo) i8 (di vi)) (bu (vc (va c8) ak)))) (af (aR (vx hu (bu (vc (dP (kh (va c8) vi) vi) (vc (dP (kh (va c8) vi) vi) (vc (dP (vx hu (va hY) (dP (kh (va c8) vi) (dX call_len (cC _) rfl E.b_len dh (vc (va hY) ak) rfl df dk.1))) (Kz vi vi)) (vc (aW (Kz vi vi) (va c8)) ak))))) (dP (va c8) vi))) aj)))
theorem uN:FnScope ["_law_script","_law_draws_here","_law_number_here","_law_name"] ["_law_script","_law_draws_here"] (defScope (top 33)):=gp
theorem pW(E:Fx P w K mg base cA):FnOk P w K mg base CX0 8 E.f__law_deed E.d__law_deed ["_law_script","_law_draws_here"] (bP cA 2 gJ):=by
 have bt:=bt E
 have i5:=i5 E
 have gK:=gK E
 refine gZ (k:=7) E.F__law_deed uN rfl rfl fun cdv A outer s H E0 C hr hC=>?_
 have hu:=hr.units
 have nodupN:=uN.nd
 unfold wO
 exact(af (vg nodupN (x_call hC bt (hr.mono (by omega)) rfl E.bp E.F__law_pop.kp E.B__law_pop pass0 rfl (vc (va aH) ak) eM.1 rfl)) (af (vg nodupN (vx hu (bu (vc av (vc av (vc av (vc av (vc av (vc av (vc av (vc av (vc av (vc av (vc av ak)))))))))))) (dP (va bw) vi))) (af (Vw.bB (dR hu (va cm) av rfl) (af (aR (fR (vc (va cm) (vc (x_call hC i5 (hr.mono (by omega)) rfl E.eR E.F__law_document.kp E.B__law_document pass0 rfl (vc (va aH) ak) o4.1 rfl) ak)))) aj) aj) (af (Vw.bB (dR hu (va cm) av rfl) (af (aR (fR (vc (va cm) (vc (x_call hC gK (hr.mono (by omega)) rfl E.cX E.F__law_number.kp E.B__law_number pass0 rfl (vc (va eo) (vc (va aH) ak)) j5.1 rfl) (vc (x_call hC i5 (hr.mono (by omega)) rfl E.eR E.F__law_document.kp E.B__law_document pass0 rfl (vc (va aH) ak) o4.1 rfl) ak))))) aj) aj) (af (Vw.bB (oR hu (va cm) (bu (vc av (vc av (vc av ak)))) rfl) (af (aR (fR (vc (va cm) ak))) aj) aj) (af (Vw.bB (dR hu (va cm) av rfl) (af (aR (fR (vc (va cm) (vc (x_call hC gK (hr.mono (by omega)) rfl E.cX E.F__law_number.kp E.B__law_number pass0 rfl (vc (va eo) (vc (va aH) ak)) j5.1 rfl) (vc (x_call hC gK (hr.mono (by omega)) rfl E.cX E.F__law_number.kp E.B__law_number pass0 rfl (vc (va eo) (vc (va aH) ak)) j5.1 rfl) ak))))) aj) aj) (af (aR (fR (vc (va cm) (vc (x_call hC gK (hr.mono (by omega)) rfl E.cX E.F__law_number.kp E.B__law_number pass0 rfl (vc (va eo) (vc (va aH) ak)) j5.1 rfl) ak)))) aj)))))))
theorem qY:FnScope ["_law_line_here","_law_at","_law_found"] ["_law_line_here","_law_at"] (defScope (top 36)):=gp
theorem lx(E:Fx P w K mg base cA):FnOk P w K mg base CX0 2 E.f__law_text_in E.d__law_text_in ["_law_line_here","_law_at"] (bP cA 2 iO):=by
 refine gZ (k:=1) E.F__law_text_in qY rfl rfl fun cdv A outer s H E0 C hr hC=>?_
 have hu:=hr.units
 have nodupN:=qY.nd
 unfold rW
 exact(af (vg nodupN av) (af (DI PassesOwn.never (mN hu (hJ (va ay) (di (va aV)) (di (aW (va aV) vi))) av rfl) (af (Vw.bB (mN hu (vx hu (va ay) (va aV)) av rfl) (af (vg nodupN (aW (va aA) (vx hu (va ay) (va aV)))) (af (vg nodupN (aW (va aV) vi)) aj)) (af (Vw.bB (dR hu (hJ (va ay) (di (va aV)) (di (aW (va aV) vi))) av rfl) (af (vg nodupN (aW (va aA) av)) (af (vg nodupN (aW (va aV) vi)) aj)) (af (aR (fR (vc (va aA) (vc (aW (va aV) vi) ak)))) aj)) aj)) aj)) (af (aR vn) aj)))
theorem lR:FnScope ["_law_line_here","_law_found","_law_at","_law_end","_law_text_here","_law_name","_law_sign"] ["_law_line_here"] (defScope (top 37)):=gp
theorem hG(E:Fx P w K mg base cA):FnOk P w K mg base CX0 4 E.f__law_document_in E.d__law_document_in ["_law_line_here"] (bP cA 1 dq):=by
 have lx:=lx E
 refine gZ (k:=3) E.F__law_document_in lR rfl rfl fun cdv A outer s H E0 C hr hC=>?_
 have hu:=hr.units
 have nodupN:=lR.nd
 unfold m7
 exact(af (Vw.bB (dR hu (va ay) av rfl) (af (aR (bu ak)) aj) aj) (af (vg nodupN (bu ak)) (af (vg nodupN vi) (af (DI PassesOwn.never (PW.pt (Vw.v_or (dR hu (va aA) (bu ak) rfl) (Vw.yR (vS hu (va aV) (dX call_len (cC _) rfl E.b_len dh (vc (va ay) ak) rfl df dk.1) rfl)))) (af (Vw.bB (PW.pt (Vw.v_and (mN hu (va aA) (bu ak) rfl) (Vw.lr (mN hu (vx hu (va ay) (va aV)) av rfl)))) (af (aR vn) aj) aj) (af (vg nodupN (aW (va aV) (lq call_int1 vW rfl E.b_int ll (vc (Je hu (va aA) (bu ak) rfl) ak) rfl lE lp.1))) (af (vg nodupN (gk F.plainAttrs_str F.slot_str_find F.type_str_find mt_find3 Ir k7 (va ay) (vc av (vc (va aV) ak)) rfl rfl (by decide) rfl)) (af (vg nodupN (x_call hC lx (hr.mono (by omega)) rfl E.iO E.F__law_text_in.kp E.B__law_text_in pass0 rfl (vc (va ay) (vc (aW (va mL) vi) ak)) yp.1 rfl)) (af (Vw.bB (PW.pt (Vw.v_or (vS hu (va mL) vi rfl) (Vw.v_or (LG hu (va cc) vn rfl) (Vw.yR (Vw.v_not (Ie hu vi (QF (va mL) (va aV)) vi rfl)))))) (af (aR vn) aj) aj) (af (vg nodupN (hJ (va ay) (di (va aV)) (di (va mL)))) (af (Vw.bB (mN hu (Ad hC [("_law_sign",6)] rfl rfl nodupN (n4 (va cm)) (by kernel_rfl) (fun s H D cl fp C hC=>⟨(tn nodupN),(OG (Ei hu (va g0) av rfl)),(va g0)⟩) rfl (by decide)) (bu ak) rfl) (af (aR vn) aj) aj) (af (Vw.bB (PW.pt (Vw.v_and (mN hu (va aA) (bu ak) rfl) (Vw.lr (KW hu (va cm) (vx hu (vx hu (va aA) (O7 vi)) vi) rfl)))) (af (aR vn) aj) aj) (af (cq (gk F.plainAttrs_list F.slot_list_append F.type_list_append mt_append cH fZ (va aA) (vc (fR (vc (va cm) (vc (vx hu (va cc) vi) ak))) ak) rfl rfl (by decide) rfl) rfl) (af (vg nodupN (vx hu (va cc) vi)) aj))))))))))) (af (aR (va aA)) aj)))))
theorem om:FnScope ["_law_text_here","_law_sign"] ["_law_text_here"] (defScope (top 35)):=gp
theorem e8(E:Fx P w K mg base cA):FnOk P w K mg base CX0 2 E.f__law_number_in E.d__law_number_in ["_law_text_here"] (bP cA 1 bZ):=by
 refine gZ (k:=1) E.F__law_number_in om rfl rfl fun cdv A outer s H E0 C hr hC=>?_
 have hu:=hr.units
 have nodupN:=om.nd
 unfold p8
 exact(af (Vw.bB (PW.pt (Vw.v_or (dR hu (va cc) av rfl) (Vw.v_or (Ly hu (dX call_len (cC _) rfl E.b_len dh (vc (va cc) ak) rfl df dk.1) vi rfl) (Vw.yR (PW.pt (Vw.v_and (dR hu (vx hu (va cc) vi) av rfl) (Vw.lr (mN hu (va cc) av rfl)))))))) (af (aR vn) aj) aj) (af (je hC PassesOwn.never rfl (n4 (va cc)) (fun C hC hW=>(tn nodupN)) (fun C hC hW=>(af (Vw.bB (Ei hu (va g0) av rfl) (af (aR vn) aj) aj) aj)) rfl) (af (aR (lq call_int_str EJ rfl E.b_int ll (vc (va cc) ak) rfl lE lp.1)) aj)))
theorem qX:FnScope ["_law_line_here","_law_parts","_law_found"] ["_law_line_here"] (defScope (top 38)):=gp
theorem k6(E:Fx P w K mg base cA):FnOk P w K mg base CX0 6 E.f__law_deed_in E.d__law_deed_in ["_law_line_here"] (bP cA 1 iM):=by
 have hG:=hG E
 have e8:=e8 E
 refine gZ (k:=5) E.F__law_deed_in qX rfl rfl fun cdv A outer s H E0 C hr hC=>?_
 have hu:=hr.units
 have nodupN:=qX.nd
 unfold rN
 exact(af (Vw.bB (oR hu (va ay) (bu (vc av (vc av (vc av ak)))) rfl) (af (aR (fR (vc (va ay) ak))) aj) aj) (af (vg nodupN (gk F.plainAttrs_str F.slot_str_split F.type_str_split mt_split AE k7 (va ay) (vc av ak) rfl rfl (by decide) rfl)) (af (Vw.bB (dR hu (vx hu (va cg) vi) av rfl) (af (vg nodupN (fR (vc av (vc (x_call hC hG (hr.mono (by omega)) rfl E.dq E.F__law_document_in.kp E.B__law_document_in pass0 rfl (vc (hJ (va ay) (di vi) i8) ak) lS.1 rfl) ak)))) aj) (af (Vw.bB (PW.pt (Vw.v_and (dR hu (vx hu (va cg) vi) av rfl) (Vw.lr (Ly hu (dX call_len (cC _) rfl E.b_len dh (vc (va cg) ak) rfl df dk.1) vi rfl)))) (af (vg nodupN (fR (vc av (vc (x_call hC e8 (hr.mono (by omega)) rfl E.bZ E.F__law_number_in.kp E.B__law_number_in pass0 rfl (vc (vx hu (va cg) vi) ak) iD.1 rfl) (vc (x_call hC hG (hr.mono (by omega)) rfl E.dq E.F__law_document_in.kp E.B__law_document_in pass0 rfl (vc (hJ (va ay) (di (aW (dX call_len (cC _) rfl E.b_len dh (vc (vx hu (va cg) vi) ak) rfl df dk.1) vi)) i8) ak) lS.1 rfl) ak))))) aj) (af (Vw.bB (PW.pt (Vw.v_and (dR hu (vx hu (va cg) vi) av rfl) (Vw.lr (dR hu (dX call_len (cC _) rfl E.b_len dh (vc (va cg) ak) rfl df dk.1) vi rfl)))) (af (vg nodupN (fR (vc av (vc (x_call hC e8 (hr.mono (by omega)) rfl E.bZ E.F__law_number_in.kp E.B__law_number_in pass0 rfl (vc (vx hu (va cg) vi) ak) iD.1 rfl) (vc (x_call hC e8 (hr.mono (by omega)) rfl E.bZ E.F__law_number_in.kp E.B__law_number_in pass0 rfl (vc (vx hu (va cg) vi) ak) iD.1 rfl) ak))))) aj) (af (Vw.bB (PW.pt (Vw.v_and (oR hu (vx hu (va cg) vi) (bu (vc av (vc av (vc av ak)))) rfl) (Vw.lr (dR hu (dX call_len (cC _) rfl E.b_len dh (vc (va cg) ak) rfl df dk.1) vi rfl)))) (af (vg nodupN (fR (vc (vx hu (va cg) vi) (vc (x_call hC e8 (hr.mono (by omega)) rfl E.bZ E.F__law_number_in.kp E.B__law_number_in pass0 rfl (vc (vx hu (va cg) vi) ak) iD.1 rfl) ak)))) aj) (af (aR vn) aj)) aj)) aj)) aj)) (af (Vw.bB (oR hu vn (va aA) rfl) (af (aR vn) aj) aj) (af (aR (va aA)) aj)))))
theorem jY:FnScope ["self","line"] ["self","line"] (defScope (gi 22 0)):=gp
theorem gS(E:Fx P w K mg base cA):FnOk P w K mg base CX0 2 E.hU E.dO ["self","line"] (bP cA 2 hM):=by
 refine gZ (k:=1) E.F_FieldReader____init__ jY rfl rfl fun cdv A outer s H E0 C hr hC=>?_
 have hu:=hr.units
 have nodupN:=jY.nd
 unfold kc
 exact(af (IF hC E.fld (va b9) (va vZ) rfl) (af (IF hC E.fld (va b9) vi rfl) aj))
theorem jF:FnScope ["self","begin"] ["self"] (defScope (gi 22 3)):=gp
theorem gH(E:Fx P w K mg base cA):FnOk P w K mg base CX0 2 E.f_FieldReader__next_name E.d_FieldReader__next_name ["self"] (bP cA 1 gO):=by
 refine gZ (k:=1) E.F_FieldReader__next_name jF rfl rfl fun cdv A outer s H E0 C hr hC=>?_
 have hu:=hr.units
 have nodupN:=jF.nd
 unfold jS
 exact(af (vg nodupN (lj hC E.fld (va b9) rfl)) (af (DI PassesOwn.never (PW.pt (Vw.v_and (vS hu (lj hC E.fld (va b9) rfl) (dX call_len (cC _) rfl E.b_len dh (vc (lj hC E.fld (va b9) rfl) ak) rfl df dk.1) rfl) (Vw.lr (oR hu (vx hu (lj hC E.fld (va b9) rfl) (lj hC E.fld (va b9) rfl)) (Ec rfl E.c_LETTERS yO.1) rfl)))) (af (sP hC E.fld (va b9) vi) aj)) (af (aR (hJ (lj hC E.fld (va b9) rfl) (di (va JP)) (di (lj hC E.fld (va b9) rfl)))) aj)))
theorem wa:FnScope ["good"] ["good"] (defScope (top 20)):=gp
theorem e9(E:Fx P w K mg base cA):FnOk P w K mg base (L2.CX P w) 2 E.f_sure E.d_sure ["good"] (bP cA 1 fw):=by
 refine oJ (k:=1) E.F_sure wa rfl rfl fun cdv A outer s H E0 C hr hC tk=>?_
 have hu:=hr.units
 have nodupN:=wa.nd
 unfold Eu
 exact(af (Vw.bB (Vw.v_not (fq (va Fp) rfl)) (af (x_raise hC rfl tk E.ex_NoLine E.gc_NoLine rfl uf.1) aj) aj) aj)
theorem wZ(E:Fx P w K mg base cA):L2H.FnH P w K mg base (L2.CX P w) 2 E.f_sure E.d_sure ["good"] (bP cA 1 fw):=by
 refine QD (k:=1) E.F_sure wa rfl rfl fun cdv A outer s H E0 C pp hr hC hot tk=>?_
 have nodupN:=wa.nd
 unfold Eu
 exact(af (Vw.bB (Vw.v_not (fq (va Fp) rfl)) (af (Jx hC hot tk E.ex_NoLine E.gc_NoLine rfl uf.1) aj) aj) aj)
theorem kM:FnScope ["self","many"] ["self","many"] (defScope (gi 22 1)):=gp
theorem bD(E:Fx P w K mg base cA):FnOk P w K mg base CX0 2 E.f_FieldReader__ahead E.d_FieldReader__ahead ["self","many"] (bP cA 2 cn):=by
 refine gZ (k:=1) E.F_FieldReader__ahead kM rfl rfl fun cdv A outer s H E0 C hr hC=>?_
 have hu:=hr.units
 have nodupN:=kM.nd
 unfold kR
 exact(af (aR (hJ (lj hC E.fld (va b9) rfl) (di (lj hC E.fld (va b9) rfl)) (di (aW (lj hC E.fld (va b9) rfl) (va Mh))))) aj)
theorem lY:FnScope ["self","signs"] ["self","signs"] (defScope (gi 22 2)):=gp
theorem bL(E:Fx P w K mg base cA):FnOk P w K mg base (L2.CX P w) 4 E.f_FieldReader__eat E.d_FieldReader__eat ["self","signs"] (bP cA 2 eB):=by
 have e9:=e9 E
 have bD:=bD E
 refine oJ (k:=3) E.F_FieldReader__eat lY rfl rfl fun cdv A outer s H E0 C hr hC tk=>?_
 have hu:=hr.units
 have nodupN:=lY.nd
 unfold ny
 exact(af (cq (ji hC tk e9 (hr.mono (by omega)) rfl E.fw E.F_sure.kp E.B_sure rfl (vc (rH hu (mS hC mR E.cl_FieldReader E.aC bD (hr.mono (by omega)) E.B_FieldReader__ahead rfl (va b9) (vc (dX call_len (cC _) rfl E.b_len dh (vc (va xF) ak) rfl df dk.1) ak) rfl rfl) (va xF) rfl) ak) mw.1 rfl) rfl) (af (sP hC E.fld (va b9) (dX call_len (cC _) rfl E.b_len dh (vc (va xF) ak) rfl df dk.1)) aj))
theorem jG:FnScope ["self","found"] ["self"] (defScope (gi 22 4)):=gp
theorem gG(E:Fx P w K mg base cA):FnOk P w K mg base (L2.CX P w) 6 E.f_FieldReader__next_text E.d_FieldReader__next_text ["self"] (bP cA 1 gT):=by
 have bL:=bL E
 have bD:=bD E
 have e9:=e9 E
 refine oJ (k:=5) E.F_FieldReader__next_text jG rfl rfl fun cdv A outer s H E0 C hr hC tk=>?_
 have hu:=hr.units
 have nodupN:=jG.nd
 unfold jT
 exact(af (cq (mS hC (mX tk) E.cl_FieldReader E.aT bL (hr.mono (by omega)) E.B_FieldReader__eat rfl (va b9) (vc av ak) rfl rfl) rfl) (af (vg nodupN (bu ak)) (af (DI (L2.passes_of rfl) (PW.pt (Vw.v_or (mN hu (mS hC mR E.cl_FieldReader E.aC bD (hr.mono (by omega)) E.B_FieldReader__ahead rfl (va b9) (vc vi ak) rfl rfl) av rfl) (Vw.yR (dR hu (mS hC mR E.cl_FieldReader E.aC bD (hr.mono (by omega)) E.B_FieldReader__ahead rfl (va b9) (vc vi ak) rfl rfl) av rfl)))) (af (cq (ji hC tk e9 (hr.mono (by omega)) rfl E.fw E.F_sure.kp E.B_sure rfl (vc (Je hu (mS hC mR E.cl_FieldReader E.aC bD (hr.mono (by omega)) E.B_FieldReader__ahead rfl (va b9) (vc vi ak) rfl rfl) av rfl) ak) mw.1 rfl) rfl) (af (cq (gk F.plainAttrs_list F.slot_list_append F.type_list_append mt_append cH fZ (va pR) (vc (mS hC mR E.cl_FieldReader E.aC bD (hr.mono (by omega)) E.B_FieldReader__ahead rfl (va b9) (vc vi ak) rfl rfl) ak) rfl rfl (by decide) rfl) rfl) (af (sP hC E.fld (va b9) (aW vi (lq call_int1 vW rfl E.b_int ll (vc (rH hu (mS hC mR E.cl_FieldReader E.aC bD (hr.mono (by omega)) E.B_FieldReader__ahead rfl (va b9) (vc vi ak) rfl rfl) av rfl) ak) rfl lE lp.1))) aj)))) (af (cq (mS hC (mX tk) E.cl_FieldReader E.aT bL (hr.mono (by omega)) E.B_FieldReader__eat rfl (va b9) (vc av ak) rfl rfl) rfl) (af (aR (gk F.plainAttrs_str F.slot_str_join F.type_str_join mt_join (sX _) k7 av (vc (va pR) ak) rfl rfl (by decide) rfl)) aj)))))
theorem ja:FnScope ["self","field"] ["self"] (defScope (gi 22 5)):=gp
theorem d9(E:Fx P w K mg base cA):FnOk P w K mg base (L2.CX P w) 8 E.f_FieldReader__next_field E.d_FieldReader__next_field ["self"] (bP cA 1 eF):=by
 have gH:=gH E
 have bL:=bL E
 have gG:=gG E
 refine oJ (k:=7) E.F_FieldReader__next_field ja rfl rfl fun cdv A outer s H E0 C hr hC tk=>?_
 have hu:=hr.units
 have nodupN:=ja.nd
 unfold jC
 exact(af (vg nodupN (xW hC mR E.cl_FieldReader E.cP gH (hr.mono (by omega)) E.B_FieldReader__next_name rfl (va b9) rfl)) (af (cq (mS hC (mX tk) E.cl_FieldReader E.aT bL (hr.mono (by omega)) E.B_FieldReader__eat rfl (va b9) (vc av ak) rfl rfl) rfl) (af (aR (fR (vc (va mf) (vc (xW hC (mX tk) E.cl_FieldReader E.cN gG (hr.mono (by omega)) E.B_FieldReader__next_text rfl (va b9) rfl) ak)))) aj)))
theorem xR:FnScope ["text","sign"] ["text"] (defScope (top 14)):=gp
theorem tH(E:Fx P w K mg base cA):FnOk P w K mg base CX0 2 E.f_is_name E.d_is_name ["text"] (bP cA 1 mY):=by
 refine gZ (k:=1) E.F_is_name xR rfl rfl fun cdv A outer s H E0 C hr hC=>?_
 have hu:=hr.units
 have nodupN:=xR.nd
 unfold AQ
 exact(af (aR (Vw.rM (DL hu vi (dX call_len (cC _) rfl E.b_len dh (vc (va gM) ak) rfl df dk.1) vi rfl) (Vw.sf (dX (cr_all rfl) (Me _) rfl E.b_all Oi (vc (Ad hC [("sign",1)] rfl rfl nodupN (n4 (va gM)) (by kernel_rfl) (fun s H D cl fp C hC=>⟨(tn nodupN),pQ,(DE hu (va Fu) (Ec rfl E.c_LETTERS yO.1) rfl)⟩) rfl (by decide)) ak) rfl PL PB.1)))) aj)
theorem lQ:FnScope ["document","last","place","field","text"] ["document"] (defScope (top 15)):=gp
theorem jw(E:Fx P w K mg base cA):FnOk P w K mg base (L2N.CX P w) 4 E.f_look_at_document E.d_look_at_document ["document"] (bP cA 1 fU):=by
 have tH:=tH E
 refine N2 (k:=3) E.F_look_at_document lQ rfl rfl fun cdv A outer s H E0 C hr hC tk=>?_
 have hu:=hr.units
 have nodupN:=lQ.nd
 unfold nc
 exact(af (vg nodupN av) (af (je hC (L2.passes_of rfl) rfl (NH (va rq) rfl E.b_enumerate rfl) (fun C hC hW=>(oV rfl (eX (tn nodupN) (eX (oV rfl (eX (tn nodupN) (eX (tn nodupN) oP rfl) rfl) rfl rfl) oP rfl) rfl) rfl rfl)) (fun C hC hW=>have tk:=hW▸tk;(af (Vw.bB (PW.pt (Vw.v_or (Vw.v_not (fq (x_call hC tH (hr.mono (by omega)) rfl E.mY E.F_is_name.kp E.B_is_name pass0 rfl (vc (va mf) ak) GB.1 rfl) rfl)) (Vw.yR (KW hu (va mf) (va LS) rfl)))) (af (IL hC rfl tk (hr.mono (by omega)) E.oi_NoField E.gc_NoField rfl (va Kg) rfl sQ.1) aj) aj) (af (vg nodupN (va mf)) aj))) rfl) aj))
theorem pF:FnScope ["text","reader","found"] ["text"] (defScope (top 23)):=gp
theorem i7(E:Fx P w K mg base cA):FnOk P w K mg base (L2.CX P w) 10 E.f_read_document E.d_read_document ["text"] (bP cA 1 dU):=by
 have gS:=gS E
 have d9:=d9 E
 have bL:=bL E
 have jw:=jw E
 have e9:=e9 E
 have wZ:=wZ E
 refine oJ (k:=9) E.F_read_document pF rfl rfl fun cdv A outer s H E0 C hr hC tk=>?_
 have hu:=hr.units
 have nodupN:=pF.nd
 unfold qF
 exact(af (Vw.bB (dR hu (va gM) av rfl) (af (aR (bu ak)) aj) aj) (af (vg nodupN (Sf hC mR E.k_FieldReader gS (hr.mono (by omega)) rfl E.gc_FieldReader E.B_FieldReader____init__ rfl (vc (va gM) ak) Am.1 rfl)) (af (vg nodupN (bu (vc (xW hC (mX tk) E.cl_FieldReader E.bo d9 (hr.mono (by omega)) E.B_FieldReader__next_field rfl (va rg) rfl) ak))) (af (DI (L2.passes_of rfl) (vS hu (lj hC E.fld (va rg) rfl) (dX call_len (cC _) rfl E.b_len dh (vc (va gM) ak) rfl df dk.1) rfl) (af (cq (mS hC (mX tk) E.cl_FieldReader E.aT bL (hr.mono (by omega)) E.B_FieldReader__eat rfl (va rg) (vc av ak) rfl rfl) rfl) (af (cq (gk F.plainAttrs_list F.slot_list_append F.type_list_append mt_append cH fZ (va pR) (vc (xW hC (mX tk) E.cl_FieldReader E.bo d9 (hr.mono (by omega)) E.B_FieldReader__next_field rfl (va rg) rfl) ak) rfl rfl (by decide) rfl) rfl) aj))) (af (Pg hC rfl rfl ⟨rfl,sQ.1,.inl E.gc_NoField⟩ E.em_NoField (L2H.passesAt_of rfl) tk (fun C pn xe hC tk=>(af (cq (JO hC tk jw (hr.mono (by omega)) rfl E.fU E.F_look_at_document.kp E.B_look_at_document rfl (vc (va pR) ak) ue.1 rfl) rfl) aj)) (fun a oe pn tk hot=>(af (cq (Ma hC tk wZ (QY (hr.mono (by omega)) _) hot rfl E.fw E.F_sure.kp E.B_sure rfl (vc vt ak) mw.1 rfl) rfl) aj))) (af (aR (va pR)) aj))))))
theorem uh:FnScope ["text","sign"] ["text"] (defScope (top 21)):=gp
theorem la(E:Fx P w K mg base cA):FnOk P w K mg base (L2.CX P w) 4 E.f_number_of E.d_number_of ["text"] (bP cA 1 iz):=by
 have e9:=e9 E
 refine oJ (k:=3) E.F_number_of uh rfl rfl fun cdv A outer s H E0 C hr hC tk=>?_
 have hu:=hr.units
 have nodupN:=uh.nd
 unfold wR
 exact(af (cq (ji hC tk e9 (hr.mono (by omega)) rfl E.fw E.F_sure.kp E.B_sure rfl (vc (Vw.rM (DL hu vi (dX call_len (cC _) rfl E.b_len dh (vc (va gM) ak) rfl df dk.1) vi rfl) (Vw.sf (Vw.Ra (Je hu (vx hu (va gM) vi) av rfl) (Vw.N4 (rH hu (va gM) av rfl))))) ak) mw.1 rfl) rfl) (af (je hC (L2.passes_of rfl) rfl (n4 (va gM)) (fun C hC hW=>(tn nodupN)) (fun C hC hW=>have tk:=hW▸tk;(af (cq (ji hC tk e9 (hr.mono (by omega)) rfl E.fw E.F_sure.kp E.B_sure rfl (vc (DE hu (va Fu) (Ec rfl E.c_FIGURES Gv.1) rfl) ak) mw.1 rfl) rfl) aj)) rfl) (af (aR (lq call_int_str EJ rfl E.b_int ll (vc (va gM) ak) rfl lE lp.1)) aj)))
theorem uF:FnScope ["line","numbers","name","blank","rest","number","fields","part"] ["line"] (defScope (top 24)):=gp
theorem iQ(E:Fx P w K mg base cA):FnOk P w K mg base (L2.CX P w) 12 E.f_read_deed E.d_read_deed ["line"] (bP cA 1 d4):=by
 have i7:=i7 E
 have la:=la E
 have e9:=e9 E
 refine oJ (k:=11) E.F_read_deed uF rfl rfl fun cdv A outer s H E0 C hr hC tk=>?_
 have hu:=hr.units
 have nodupN:=uF.nd
 unfold wJ
 exact(af (Ik (gk F.plainAttrs_str F.slot_str_partition F.type_str_partition mt_partition tX k7 (va vZ) (vc av ak) rfl rfl (by decide) rfl) (oV rfl (eX (tn nodupN) (eX (tn nodupN) (eX (tn nodupN) oP rfl) rfl) rfl) rfl rfl) rfl rfl rfl) (af (Vw.bB (dR hu (va rK) av rfl) (af (aR (fR (vc av (vc (xN hC tk i7 (hr.mono (by omega)) rfl E.dU E.F_read_document.kp E.B_read_document rfl (vc (va yZ) ak) pC.1 rfl) ak)))) aj) aj) (af (Vw.bB (dR hu (va rK) av rfl) (af (Ik (gk F.plainAttrs_str F.slot_str_partition F.type_str_partition mt_partition tX k7 (va yZ) (vc av ak) rfl rfl (by decide) rfl) (oV rfl (eX (tn nodupN) (eX (tn nodupN) (eX (tn nodupN) oP rfl) rfl) rfl) rfl rfl) rfl rfl rfl) (af (aR (fR (vc av (vc (ji hC tk la (hr.mono (by omega)) rfl E.iz E.F_number_of.kp E.B_number_of rfl (vc (va Hq) ak) uj.1 rfl) (vc (xN hC tk i7 (hr.mono (by omega)) rfl E.dU E.F_read_document.kp E.B_read_document rfl (vc (va Hv) ak) pC.1 rfl) ak))))) aj)) aj) (af (Vw.bB (oR hu (va vZ) (bu (vc av (vc av (vc av ak)))) rfl) (af (aR (fR (vc (va vZ) ak))) aj) aj) (af (cq (ji hC tk e9 (hr.mono (by omega)) rfl E.fw E.F_sure.kp E.B_sure rfl (vc (DE hu (va rK) (bu (vc av (vc av (vc av (vc av ak))))) rfl) ak) mw.1 rfl) rfl) (af (Jg hC rfl rfl tk [("part",7)] rfl rfl nodupN rfl rfl rfl rfl (by kernel_rfl) (n4 (gk F.plainAttrs_str F.slot_str_split F.type_str_split mt_split AE k7 (va yZ) (vc av ak) rfl rfl (by decide) rfl)) (by kernel_rfl) (fun s H D cl fp xe C hC tk=>⟨(tn nodupN),pQ,(ji hC tk la (hr.mono (by omega)) rfl E.iz E.F_number_of.kp E.B_number_of rfl (vc (va Mq) ak) uj.1 rfl)⟩) rfl (by decide)) (af (cq (ji hC tk e9 (hr.mono (by omega)) rfl E.fw E.F_sure.kp E.B_sure rfl (vc (rH hu (dX call_len (cC _) rfl E.b_len dh (vc (va yk) ak) rfl df dk.1) (aW vi (lq call_int1 vW rfl E.b_int ll (vc (rH hu (va rK) av rfl) ak) rfl lE lp.1)) rfl) ak) mw.1 rfl) rfl) (af (aR (lq call_tuple_of (IW _) rfl E.b_tuple Dz (vc (aW (bu (vc (va rK) ak)) (va yk)) ak) rfl CW D6.1)) aj))))))))
theorem uU:FnScope ["_law_error","_law_found"] ["_law_error"] (defScope (top 39)):=gp
theorem p6(E:Fx P w K mg base cA):FnOk P w K mg base CX0 2 E.f__law_kind E.d__law_kind ["_law_error"] (bP cA 1 eP):=by
 refine gZ (k:=1) E.F__law_kind uU rfl rfl fun cdv A outer s H E0 C hr hC=>?_
 have hu:=hr.units
 have nodupN:=uU.nd
 unfold wF
 exact(af (vg nodupN (bu ak)) (af (Vw.bB (fq (oD hC (va ck) rfl E.b_isinstance rfl E.gc_NoField E.ek_NoField rfl sQ.1) rfl) (af (vg nodupN (aW (va aA) (bu (vc av (vc (Fc hC E.pl (va ck) rfl) ak))))) aj) aj) (af (Vw.bB (fq (oD hC (va ck) rfl E.b_isinstance rfl E.gc_NoMake E.ek_NoMake rfl HZ.1) rfl) (af (vg nodupN (aW (va aA) (bu (vc av (vc (Fc hC E.pl (va ck) rfl) ak))))) aj) aj) (af (Vw.bB (fq (oD hC (va ck) rfl E.b_isinstance rfl E.gc_NoBytes E.ek_NoBytes rfl G7.1) rfl) (af (cq (gk F.plainAttrs_list F.slot_list_append F.type_list_append mt_append cH fZ (va aA) (vc av ak) rfl rfl (by decide) rfl) rfl) aj) aj) (af (Vw.bB (fq (oD hC (va ck) rfl E.b_isinstance rfl E.gc_NoDocument E.ek_NoDocument rfl BH.1) rfl) (af (cq (gk F.plainAttrs_list F.slot_list_append F.type_list_append mt_append cH fZ (va aA) (vc av ak) rfl rfl (by decide) rfl) rfl) aj) aj) (af (Vw.bB (fq (oD hC (va ck) rfl E.b_isinstance rfl E.gc_NoStamp E.ek_NoStamp rfl G0.1) rfl) (af (cq (gk F.plainAttrs_list F.slot_list_append F.type_list_append mt_append cH fZ (va aA) (vc av ak) rfl rfl (by decide) rfl) rfl) aj) aj) (af (Vw.bB (fq (oD hC (va ck) rfl E.b_isinstance rfl E.gc_NoPiece E.ek_NoPiece rfl Gu.1) rfl) (af (cq (gk F.plainAttrs_list F.slot_list_append F.type_list_append mt_append cH fZ (va aA) (vc av ak) rfl rfl (by decide) rfl) rfl) aj) aj) (af (Vw.bB (fq (oD hC (va ck) rfl E.b_isinstance rfl E.gc_NoPattern E.ek_NoPattern rfl DS.1) rfl) (af (cq (gk F.plainAttrs_list F.slot_list_append F.type_list_append mt_append cH fZ (va aA) (vc av ak) rfl rfl (by decide) rfl) rfl) aj) aj) (af (Vw.bB (fq (oD hC (va ck) rfl E.b_isinstance rfl E.gc_NoLine E.ek_NoLine rfl uf.1) rfl) (af (cq (gk F.plainAttrs_list F.slot_list_append F.type_list_append mt_append cH fZ (va aA) (vc av ak) rfl rfl (by decide) rfl) rfl) aj) aj) (af (Vw.bB (fq (oD hC (va ck) rfl E.b_isinstance rfl E.gc_NoText E.ek_NoText rfl HL.1) rfl) (af (cq (gk F.plainAttrs_list F.slot_list_append F.type_list_append mt_append cH fZ (va aA) (vc av ak) rfl rfl (by decide) rfl) rfl) aj) aj) (af (Vw.bB (PW.pt (Vw.v_and (Oh hu (va ck) vn rfl) (Vw.lr (Vw.v_not (fq (NQ hC (va ck) rfl E.b_isinstance rfl E.b_ValueError E.ek_ValueError rfl) rfl))))) (af (cq (gk F.plainAttrs_list F.slot_list_append F.type_list_append mt_append cH fZ (va aA) (vc av ak) rfl rfl (by decide) rfl) rfl) aj) aj) (af (Vw.bB (PW.pt (Vw.v_and (dR hu (dX call_len (cC _) rfl E.b_len dh (vc (va aA) ak) rfl df dk.1) vi rfl) (Vw.lr (fq (lJ (vx hu (va aA) vi) rfl E.b_isinstance rfl E.b_bool Fq (by decide) rfl Fh F6.1) rfl)))) (af (cq (gk F.plainAttrs_list F.slot_list_append F.type_list_append mt_append cH fZ (va aA) (vc av ak) rfl rfl (by decide) rfl) rfl) aj) aj) (af (aR (va aA)) aj)))))))))))))
theorem qK:FnScope ["_law_line_here","_law_caught","e"] ["_law_line_here"] (defScope (top 42)):=gp
theorem jI(E:Fx P w K mg base cA):FnOk P w K mg base (L2.CX P w) 14 E.f__law_refused E.d__law_refused ["_law_line_here"] (bP cA 1 dG):=by
 have iQ:=iQ E
 have p6:=p6 E
 refine oJ (k:=13) E.F__law_refused qK rfl rfl fun cdv A outer s H E0 C hr hC tk=>?_
 have hu:=hr.units
 have nodupN:=qK.nd
 unfold mj
 exact(af (vg nodupN vn) (af (IT hC rfl rfl rfl nodupN rfl rfl (by decide) rfl rfl ⟨rfl,Cv.1,.inl E.gc_FindError⟩ E.em_FindError tk (fun C pn xe hC tk po=>(af (cq (xN hC tk iQ (hr.mono (by omega)) rfl E.d4 E.F_read_deed.kp E.B_read_deed rfl (vc (va ay) ak) uC.1 rfl) rfl) aj)) M9.1 M9.2 rfl rfl) (af (aR (x_call hC p6 (hr.mono (by omega)) rfl E.eP E.F__law_kind.kp E.B__law_kind pass0 rfl (vc (va Ae) ak) DU.1 rfl)) aj)))
theorem tV:FnScope ["_law_found","_law_due","_law_k"] ["_law_found","_law_due"] (defScope (top 28)):=gp
theorem hV(E:Fx P w K mg base cA):∀ n,FnOk P w K mg base CX0 (2+n) E.f__law_alike E.d__law_alike ["_law_found","_law_due"] (bP cA 2 (bj n))
 | 0=>MB rfl
 | n+1=>by
  have hV:=hV E n
  refine gZ (k:=2+n) E.F__law_alike tV rfl rfl fun cdv A outer s H E0 C hr hC=>?_
  have hu:=hr.units
  have nodupN:=tV.nd
  generalize bj n=rec at *
  unfold gQ
  exact(af (Vw.bB (fq (lJ (va eK) rfl E.b_isinstance rfl E.b_str xM (by decide) rfl yo yU.1) rfl) (af (aR (Vw.rM (lJ (va aA) rfl E.b_isinstance rfl E.b_str xM (by decide) rfl yo yU.1) (Vw.sf (rH hu (va aA) (va eK) rfl)))) aj) aj) (af (Vw.bB (fq (lJ (va eK) rfl E.b_isinstance rfl E.b_int ll (by decide) rfl lE lp.1) rfl) (af (aR (Vw.rM (lJ (va aA) rfl E.b_isinstance rfl E.b_int ll (by decide) rfl lE lp.1) (Vw.rM (P6 (lJ (va aA) rfl E.b_isinstance rfl E.b_bool Fq (by decide) rfl Fh F6.1)) (Vw.sf (rH hu (va aA) (va eK) rfl))))) aj) aj) (af (Vw.bB (fq (lJ (va eK) rfl E.b_isinstance rfl E.b_list zQ (by decide) rfl zg zW.1) rfl) (af (Vw.bB (Vw.v_not (fq (lJ (va aA) rfl E.b_isinstance rfl E.b_list zQ (by decide) rfl zg zW.1) rfl)) (af (aR vt) aj) aj) aj) (af (Vw.bB (Vw.v_not (fq (lJ (va aA) rfl E.b_isinstance rfl E.b_tuple Dz (by decide) rfl CW D6.1) rfl)) (af (aR vt) aj) aj) aj)) (af (Vw.bB (mN hu (dX call_len (cC _) rfl E.b_len dh (vc (va aA) ak) rfl df dk.1) (dX call_len (cC _) rfl E.b_len dh (vc (va eK) ak) rfl df dk.1) rfl) (af (aR vt) aj) aj) (af (je hC PassesOwn.never rfl (pq (vc (dX call_len (cC _) rfl E.b_len dh (vc (va eK) ak) rfl df dk.1) ak) rfl E.b_range rfl) (fun C hC hW=>(tn nodupN)) (fun C hC hW=>(af (Vw.bB (Vw.v_not (fq (P4 hC hV (hr.mono (by omega)) rfl E.bj E.F__law_alike.kp E.B__law_alike pass0 rfl (vc (vx hu (va aA) (va iW)) (vc (vx hu (va eK) (va iW)) ak)) tU.1 rfl) rfl)) (af (aR vt) aj) aj) aj)) rfl) (af (aR vt) aj))))))
theorem tS:FnScope ["field","text"] ["field","text"] (defScope (top 17)):=gp
theorem nM(E:Fx P w K mg base cA):FnOk P w K mg base CX0 2 E.f_show_field E.d_show_field ["field","text"] (bP cA 2 jQ):=by
 refine gZ (k:=1) E.F_show_field tS rfl rfl fun cdv A outer s H E0 C hr hC=>?_
 have hu:=hr.units
 have nodupN:=tS.nd
 unfold uJ
 exact(af (aR (aW (Mo (Nw (va mf) (NP rfl)) (P5 (ik:=1) rfl (.inl rfl) gM.1 gM.2 (by decide) rfl rfl rfl rfl rfl)) av)) aj)
theorem pG:FnScope ["document","field","text"] ["document"] (defScope (top 18)):=gp
theorem kD(E:Fx P w K mg base cA):FnOk P w K mg base CX0 4 E.f_show_document E.d_show_document ["document"] (bP cA 1 il):=by
 have nM:=nM E
 refine gZ (k:=3) E.F_show_document pG rfl rfl fun cdv A outer s H E0 C hr hC=>?_
 have hu:=hr.units
 have nodupN:=pG.nd
 unfold rf
 exact(af (Vw.bB (dR hu (dX call_len (cC _) rfl E.b_len dh (vc (va rq) ak) rfl df dk.1) vi rfl) (af (aR av) aj) aj) (af (aR (gk F.plainAttrs_str F.slot_str_join F.type_str_join mt_join (sX _) k7 av (vc (Ad hC [("field",1),("text",2)] rfl rfl nodupN (n4 (va rq)) (by kernel_rfl) (fun s H D cl fp C hC=>⟨(oV rfl (eX (tn nodupN) (eX (tn nodupN) oP rfl) rfl) rfl rfl),pQ,(x_call hC nM (hr.mono (by omega)) rfl E.jQ E.F_show_field.kp E.B_show_field pass0 rfl (vc (va mf) (vc (va gM) ak)) BA.1 rfl)⟩) rfl (by decide)) ak) rfl rfl (by decide) rfl)) aj))
theorem vf:FnScope ["deed","parts","one"] ["deed"] (defScope (top 19)):=gp
theorem pX(E:Fx P w K mg base cA):FnOk P w K mg base CX0 6 E.f_show_deed E.d_show_deed ["deed"] (bP cA 1 kg):=by
 have kD:=kD E
 refine gZ (k:=5) E.F_show_deed vf rfl rfl fun cdv A outer s H E0 C hr hC=>?_
 have hu:=hr.units
 have nodupN:=vf.nd
 unfold wN
 exact(af (vg nodupN (bu (vc (vx hu (va F4) vi) ak))) (af (je hC PassesOwn.never rfl (n4 (hJ (va F4) (di vi) i8)) (fun C hC hW=>(tn nodupN)) (fun C hC hW=>(af (Vw.bB (fq (lJ (va ED) rfl E.b_isinstance rfl E.b_list zQ (by decide) rfl zg zW.1) rfl) (af (cq (gk F.plainAttrs_list F.slot_list_append F.type_list_append mt_append cH fZ (va xG) (vc (x_call hC kD (hr.mono (by omega)) rfl E.il E.F_show_document.kp E.B_show_document pass0 rfl (vc (va ED) ak) wW.1 rfl) ak) rfl rfl (by decide) rfl) rfl) aj) (af (cq (gk F.plainAttrs_list F.slot_list_append F.type_list_append mt_append cH fZ (va xG) (vc (lq call_str_int Ew rfl E.b_str xM (vc (va ED) ak) rfl yo yU.1) ak) rfl rfl (by decide) rfl) rfl) aj)) aj)) rfl) (af (aR (gk F.plainAttrs_str F.slot_str_join F.type_str_join mt_join (sX _) k7 av (vc (va xG) ak) rfl rfl (by decide) rfl)) aj)))
theorem Hu:FnScope ["_law_script","_law_draws_here","_law_line_here","_law_due","_law_found","_law_k"] ["_law_script"] (defScope (top 43)):=gp
theorem OV(E:Fx P w K mg base cA):FnOk P w K mg base (L2.CX P w) 16 E.f_law E.d_law ["_law_script"] (bP cA 1 xK):=by
 have nZ:=nZ E
 have pM:=pM E
 have pz:=pz E
 have pW:=pW E
 have bt:=bt E
 have k6:=k6 E
 have jI:=jI E
 have iQ:=iQ E
 have hV:=hV E 8
 have pX:=pX E
 refine oJ (k:=15) E.F_law Hu rfl rfl fun cdv A outer s H E0 C hr hC tk=>?_
 have hu:=hr.units
 have nodupN:=Hu.nd
 unfold G3
 exact(af (Cf nodupN rfl (.inr rfl) (.inl rfl) (Nm (x_call hC nZ (hr.mono (by omega)) rfl E.iK E.F__law_draws.kp E.B__law_draws pass0 rfl (vc (va eo) (vc vi (vc vi ak))) A8.1 rfl)) rfl) (af (vg nodupN (x_call hC pM (hr.mono (by omega)) rfl E.jm E.F__law_bent.kp E.B__law_bent pass0 rfl (vc (x_call hC pz (hr.mono (by omega)) rfl E.gI E.F__law_line.kp E.B__law_line pass0 rfl (vc (x_call hC pW (hr.mono (by omega)) rfl E.gJ E.F__law_deed.kp E.B__law_deed pass0 rfl (vc (va eo) (vc (vb aH) ak)) DD.1 rfl) ak) Ey.1 rfl) (vc (Nm (Ad hC [("_law_k",5)] rfl rfl nodupN (pq (vc vi ak) rfl E.b_range rfl) (by kernel_rfl) (fun s H D cl fp C hC=>⟨(tn nodupN),pQ,(x_call hC bt (hr.mono (by omega)) rfl E.bp E.F__law_pop.kp E.B__law_pop pass0 rfl (vc (vb aH) ak) eM.1 rfl)⟩) rfl (by decide))) ak)) DA.1 rfl)) (af (vg nodupN (x_call hC k6 (hr.mono (by omega)) rfl E.iM E.F__law_deed_in.kp E.B__law_deed_in pass0 rfl (vc (va ay) ak) yD.1 rfl)) (af (Vw.bB (LG hu (va eK) vn rfl) (af (aR (rH hu (ji hC tk jI (hr.mono (by omega)) rfl E.dG E.F__law_refused.kp E.B__law_refused rfl (vc (va ay) ak) qM.1 rfl) (bu (vc av ak)) rfl)) aj) aj) (af (Vw.bB (mN hu (ji hC tk jI (hr.mono (by omega)) rfl E.dG E.F__law_refused.kp E.B__law_refused rfl (vc (va ay) ak) qM.1 rfl) (bu ak) rfl) (af (aR vt) aj) aj) (af (vg nodupN (xN hC tk iQ (hr.mono (by omega)) rfl E.d4 E.F_read_deed.kp E.B_read_deed rfl (vc (va ay) ak) uC.1 rfl)) (af (aR (Vw.rM (MF hC hV (hr.mono (by omega)) rfl E.bj E.F__law_alike.kp E.B__law_alike pass0 rfl (vc (va aA) (vc (va eK) ak)) tU.1 rfl) (Vw.sf (rH hu (x_call hC pX (hr.mono (by omega)) rfl E.kg E.F_show_deed.kp E.B_show_deed pass0 rfl (vc (va aA) ak) Ek.1 rfl) (va ay) rfl)))) aj)))))))
end
end K34
namespace K34
open PySem L2 PyProof.Rows Vw
theorem facts{P:Program}{w:World}{K:PySem.W.Frag}{h:Heap}{mg:Str→Option Value}{f:Addr}(X:K.In h)(G:h.Ns mainGlobals mg)(hfa:mg ("law":Str)=some (.ref f))(c:He.SaysD Kt A3 K)(ex:HJ K=true):
  ∃ fd:FuncData,(∀ (s:Shared) (v:Value),BindsTo s fd ⟨[v],[]⟩ [("_law_script",v)])∧∀ base:Heap,K.In base→base.Ns mainGlobals mg→FnOk P w K mg base Li 16 f fd ["_law_script"] (bP (kb K) 1 xK):=by
 obtain⟨d__law_draws,F__law_draws⟩:=c.def_ 0 (d:=t9) rfl
 obtain⟨d__law_pop,F__law_pop⟩:=c.def_ 1 (d:=wA) rfl
 obtain⟨d__law_odd,F__law_odd⟩:=c.def_ 2 (d:=wz) rfl
 obtain⟨d__law_bent,F__law_bent⟩:=c.def_ 3 (d:=uI) rfl
 obtain⟨d__law_line,F__law_line⟩:=c.def_ 4 (d:=uE) rfl
 obtain⟨d__law_names,F__law_names⟩:=c.def_ 5 (d:=t8) rfl
 obtain⟨d__law_text,F__law_text⟩:=c.def_ 6 (d:=uq) rfl
 obtain⟨d__law_document,F__law_document⟩:=c.def_ 7 (d:=pO) rfl
 obtain⟨d__law_number,F__law_number⟩:=c.def_ 8 (d:=rX) rfl
 obtain⟨d__law_deed,F__law_deed⟩:=c.def_ 9 (d:=uV) rfl
 obtain⟨d__law_text_in,F__law_text_in⟩:=c.def_ 10 (d:=qB) rfl
 obtain⟨d__law_document_in,F__law_document_in⟩:=c.def_ 11 (d:=l0) rfl
 obtain⟨d__law_number_in,F__law_number_in⟩:=c.def_ 12 (d:=oh) rfl
 obtain⟨d__law_deed_in,F__law_deed_in⟩:=c.def_ 13 (d:=qW) rfl
 obtain⟨dO,F_FieldReader____init__⟩:=c.def_ 14 (d:=jW) rfl
 obtain⟨d_FieldReader__next_name,F_FieldReader__next_name⟩:=c.def_ 15 (d:=jA) rfl
 obtain⟨d_sure,F_sure⟩:=c.def_ 16 (d:=E4) rfl
 obtain⟨d_FieldReader__ahead,F_FieldReader__ahead⟩:=c.def_ 17 (d:=kK) rfl
 obtain⟨d_FieldReader__eat,F_FieldReader__eat⟩:=c.def_ 18 (d:=lX) rfl
 obtain⟨d_FieldReader__next_text,F_FieldReader__next_text⟩:=c.def_ 19 (d:=jH) rfl
 obtain⟨d_FieldReader__next_field,F_FieldReader__next_field⟩:=c.def_ 20 (d:=jd) rfl
 obtain⟨d_is_name,F_is_name⟩:=c.def_ 21 (d:=yu) rfl
 obtain⟨d_look_at_document,F_look_at_document⟩:=c.def_ 22 (d:=lP) rfl
 obtain⟨d_read_document,F_read_document⟩:=c.def_ 23 (d:=o9) rfl
 obtain⟨d_number_of,F_number_of⟩:=c.def_ 24 (d:=um) rfl
 obtain⟨d_read_deed,F_read_deed⟩:=c.def_ 25 (d:=u5) rfl
 obtain⟨d__law_kind,F__law_kind⟩:=c.def_ 26 (d:=vk) rfl
 obtain⟨d__law_refused,F__law_refused⟩:=c.def_ 27 (d:=qH) rfl
 obtain⟨d__law_alike,F__law_alike⟩:=c.def_ 28 (d:=t7) rfl
 obtain⟨d_show_field,F_show_field⟩:=c.def_ 29 (d:=tZ) rfl
 obtain⟨d_show_document,F_show_document⟩:=c.def_ 30 (d:=pZ) rfl
 obtain⟨d_show_deed,F_show_deed⟩:=c.def_ 31 (d:=vj) rfl
 obtain⟨d_law,F_law⟩:=c.def_ 32 (d:=Iy) rfl
 obtain⟨d_NoField_i,F_NoField_i⟩:=c.def_ 33 (d:=uO) rfl
 have e:=hfa.symm.trans (He.glo_ok X G (c.fact 31 (f:=.glo "law") rfl))
 cases e
 have b:=FunD.bindsA (ps:=["_law_script"]) F_law fun _ _ _ _ _ _ us hl=>match us,hl with | [_],_=>rfl
 obtain⟨t_FIGURES,c_FIGURES⟩:=He.str_ok X G (c.fact 44 (f:=.str "FIGURES" "0123456789") rfl)
 obtain⟨t_LETTERS,c_LETTERS⟩:=He.str_ok X G (c.fact 45 (f:=.str "LETTERS" "abcdefghijklmnopqrstuvwxyz") rfl)
 have o_NoField:=px ex 12 (b:=RI K "NoField") rfl
 obtain⟨o_NoField1,o_NoField⟩:=Bool.and_eq_true_iff.mp o_NoField
 obtain⟨o_NoField2,o_NoField⟩:=Bool.and_eq_true_iff.mp o_NoField
 obtain⟨o_NoField3,o_NoField4⟩:=Bool.and_eq_true_iff.mp o_NoField
 have sc_NoField_i:FnScope ["self","place"] ["self","place"] (defScope (gi 2 0)):=⟨rfl,rfl,rfl,by decide+kernel,rfl,by decide+kernel,by decide+kernel⟩
 have B_NoField_i:Binds K d_NoField_i ["self","place"] []:=F_NoField_i.bindsN fun _ _ _ _ _ _ us hl=>match us,hl with | [_,_],_=>rfl
 refine⟨d_law,fun s v=>b s [v] rfl,fun base _ _=>OS (OV (cA:=kb K) (E:=⟨
  _,d__law_draws,F__law_draws,F__law_draws.bindsN fun _ _ _ _ _ _ us hl=>match us,hl with | [_,_,_],_=>rfl,He.glo_ok X G (c.fact 0 (f:=.glo "_law_draws") rfl),
  _,d__law_pop,F__law_pop,F__law_pop.bindsN fun _ _ _ _ _ _ us hl=>match us,hl with | [_],_=>rfl,He.glo_ok X G (c.fact 1 (f:=.glo "_law_pop") rfl),
  _,d__law_odd,F__law_odd,F__law_odd.bindsN fun _ _ _ _ _ _ us hl=>match us,hl with | [_],_=>rfl,He.glo_ok X G (c.fact 2 (f:=.glo "_law_odd") rfl),
  _,d__law_bent,F__law_bent,F__law_bent.bindsN fun _ _ _ _ _ _ us hl=>match us,hl with | [_,_],_=>rfl,He.glo_ok X G (c.fact 3 (f:=.glo "_law_bent") rfl),
  _,d__law_line,F__law_line,F__law_line.bindsN fun _ _ _ _ _ _ us hl=>match us,hl with | [_],_=>rfl,He.glo_ok X G (c.fact 4 (f:=.glo "_law_line") rfl),
  _,d__law_names,F__law_names,F__law_names.bindsN fun _ _ _ _ _ _ us hl=>match us,hl with | [_],_=>rfl,He.glo_ok X G (c.fact 5 (f:=.glo "_law_names") rfl),
  _,d__law_text,F__law_text,F__law_text.bindsN fun _ _ _ _ _ _ us hl=>match us,hl with | [_],_=>rfl,He.glo_ok X G (c.fact 6 (f:=.glo "_law_text") rfl),
  _,d__law_document,F__law_document,F__law_document.bindsN fun _ _ _ _ _ _ us hl=>match us,hl with | [_],_=>rfl,He.glo_ok X G (c.fact 7 (f:=.glo "_law_document") rfl),
  _,d__law_number,F__law_number,F__law_number.bindsN fun _ _ _ _ _ _ us hl=>match us,hl with | [_,_],_=>rfl,He.glo_ok X G (c.fact 8 (f:=.glo "_law_number") rfl),
  _,d__law_deed,F__law_deed,F__law_deed.bindsN fun _ _ _ _ _ _ us hl=>match us,hl with | [_,_],_=>rfl,He.glo_ok X G (c.fact 9 (f:=.glo "_law_deed") rfl),
  _,d__law_text_in,F__law_text_in,F__law_text_in.bindsN fun _ _ _ _ _ _ us hl=>match us,hl with | [_,_],_=>rfl,He.glo_ok X G (c.fact 10 (f:=.glo "_law_text_in") rfl),
  _,d__law_document_in,F__law_document_in,F__law_document_in.bindsN fun _ _ _ _ _ _ us hl=>match us,hl with | [_],_=>rfl,He.glo_ok X G (c.fact 11 (f:=.glo "_law_document_in") rfl),
  _,d__law_number_in,F__law_number_in,F__law_number_in.bindsN fun _ _ _ _ _ _ us hl=>match us,hl with | [_],_=>rfl,He.glo_ok X G (c.fact 12 (f:=.glo "_law_number_in") rfl),
  _,d__law_deed_in,F__law_deed_in,F__law_deed_in.bindsN fun _ _ _ _ _ _ us hl=>match us,hl with | [_],_=>rfl,He.glo_ok X G (c.fact 13 (f:=.glo "_law_deed_in") rfl),
  _,dO,F_FieldReader____init__,F_FieldReader____init__.bindsN fun _ _ _ _ _ _ us hl=>match us,hl with | [_,_],_=>rfl,
  _,d_FieldReader__next_name,F_FieldReader__next_name,F_FieldReader__next_name.bindsN fun _ _ _ _ _ _ us hl=>match us,hl with | [_],_=>rfl,He.meth_ok (c.fact 14 (f:=.meth "FieldReader" "next_name") rfl),
  _,d_sure,F_sure,F_sure.bindsN fun _ _ _ _ _ _ us hl=>match us,hl with | [_],_=>rfl,He.glo_ok X G (c.fact 15 (f:=.glo "sure") rfl),
  _,d_FieldReader__ahead,F_FieldReader__ahead,F_FieldReader__ahead.bindsN fun _ _ _ _ _ _ us hl=>match us,hl with | [_,_],_=>rfl,He.meth_ok (c.fact 16 (f:=.meth "FieldReader" "ahead") rfl),
  _,d_FieldReader__eat,F_FieldReader__eat,F_FieldReader__eat.bindsN fun _ _ _ _ _ _ us hl=>match us,hl with | [_,_],_=>rfl,He.meth_ok (c.fact 17 (f:=.meth "FieldReader" "eat") rfl),
  _,d_FieldReader__next_text,F_FieldReader__next_text,F_FieldReader__next_text.bindsN fun _ _ _ _ _ _ us hl=>match us,hl with | [_],_=>rfl,He.meth_ok (c.fact 18 (f:=.meth "FieldReader" "next_text") rfl),
  _,d_FieldReader__next_field,F_FieldReader__next_field,F_FieldReader__next_field.bindsN fun _ _ _ _ _ _ us hl=>match us,hl with | [_],_=>rfl,He.meth_ok (c.fact 19 (f:=.meth "FieldReader" "next_field") rfl),
  _,d_is_name,F_is_name,F_is_name.bindsN fun _ _ _ _ _ _ us hl=>match us,hl with | [_],_=>rfl,He.glo_ok X G (c.fact 20 (f:=.glo "is_name") rfl),
  _,d_look_at_document,F_look_at_document,F_look_at_document.bindsN fun _ _ _ _ _ _ us hl=>match us,hl with | [_],_=>rfl,He.glo_ok X G (c.fact 21 (f:=.glo "look_at_document") rfl),
  _,d_read_document,F_read_document,F_read_document.bindsN fun _ _ _ _ _ _ us hl=>match us,hl with | [_],_=>rfl,He.glo_ok X G (c.fact 22 (f:=.glo "read_document") rfl),
  _,d_number_of,F_number_of,F_number_of.bindsN fun _ _ _ _ _ _ us hl=>match us,hl with | [_],_=>rfl,He.glo_ok X G (c.fact 23 (f:=.glo "number_of") rfl),
  _,d_read_deed,F_read_deed,F_read_deed.bindsN fun _ _ _ _ _ _ us hl=>match us,hl with | [_],_=>rfl,He.glo_ok X G (c.fact 24 (f:=.glo "read_deed") rfl),
  _,d__law_kind,F__law_kind,F__law_kind.bindsN fun _ _ _ _ _ _ us hl=>match us,hl with | [_],_=>rfl,He.glo_ok X G (c.fact 25 (f:=.glo "_law_kind") rfl),
  _,d__law_refused,F__law_refused,F__law_refused.bindsN fun _ _ _ _ _ _ us hl=>match us,hl with | [_],_=>rfl,He.glo_ok X G (c.fact 26 (f:=.glo "_law_refused") rfl),
  _,d__law_alike,F__law_alike,F__law_alike.bindsN fun _ _ _ _ _ _ us hl=>match us,hl with | [_,_],_=>rfl,He.glo_ok X G (c.fact 27 (f:=.glo "_law_alike") rfl),
  _,d_show_field,F_show_field,F_show_field.bindsN fun _ _ _ _ _ _ us hl=>match us,hl with | [_,_],_=>rfl,He.glo_ok X G (c.fact 28 (f:=.glo "show_field") rfl),
  _,d_show_document,F_show_document,F_show_document.bindsN fun _ _ _ _ _ _ us hl=>match us,hl with | [_],_=>rfl,He.glo_ok X G (c.fact 29 (f:=.glo "show_document") rfl),
  _,d_show_deed,F_show_deed,F_show_deed.bindsN fun _ _ _ _ _ _ us hl=>match us,hl with | [_],_=>rfl,He.glo_ok X G (c.fact 30 (f:=.glo "show_deed") rfl),
  _,d_law,F_law,F_law.bindsN fun _ _ _ _ _ _ us hl=>match us,hl with | [_],_=>rfl,He.glo_ok X G (c.fact 31 (f:=.glo "law") rfl),
  He.free_ok X G (c.fact 32 (f:=.free "ValueError") rfl),
  He.free_ok X G (c.fact 33 (f:=.free "all") rfl),
  He.free_ok X G (c.fact 34 (f:=.free "bool") rfl),
  He.free_ok X G (c.fact 35 (f:=.free "enumerate") rfl),
  He.free_ok X G (c.fact 36 (f:=.free "int") rfl),
  He.free_ok X G (c.fact 37 (f:=.free "isinstance") rfl),
  He.free_ok X G (c.fact 38 (f:=.free "len") rfl),
  He.free_ok X G (c.fact 39 (f:=.free "list") rfl),
  He.free_ok X G (c.fact 40 (f:=.free "range") rfl),
  He.free_ok X G (c.fact 41 (f:=.free "sorted") rfl),
  He.free_ok X G (c.fact 42 (f:=.free "str") rfl),
  He.free_ok X G (c.fact 43 (f:=.free "tuple") rfl),
  t_FIGURES,c_FIGURES,
  t_LETTERS,c_LETTERS,
  He.glo_ok X G (c.fact 46 (f:=.glo "FieldReader") rfl),
  He.glo_ok X G (c.fact 47 (f:=.glo "FindError") rfl),
  He.glo_ok X G (c.fact 48 (f:=.glo "NoBytes") rfl),
  He.glo_ok X G (c.fact 49 (f:=.glo "NoDocument") rfl),
  He.glo_ok X G (c.fact 50 (f:=.glo "NoField") rfl),
  He.glo_ok X G (c.fact 51 (f:=.glo "NoLine") rfl),
  He.glo_ok X G (c.fact 52 (f:=.glo "NoMake") rfl),
  He.glo_ok X G (c.fact 53 (f:=.glo "NoPattern") rfl),
  He.glo_ok X G (c.fact 54 (f:=.glo "NoPiece") rfl),
  He.glo_ok X G (c.fact 55 (f:=.glo "NoStamp") rfl),
  He.glo_ok X G (c.fact 56 (f:=.glo "NoText") rfl),
  Ml (c.fact 57 (f:=.exc "NoLine") rfl),
  Ho (px ex 0 (b:=Hf K cM "FindError") rfl),
  Ho (px ex 1 (b:=Hf K cM "NoField") rfl),
  kl (px ex 2 (b:=kn K cM "NoBytes") rfl),
  kl (px ex 3 (b:=kn K cM "NoDocument") rfl),
  kl (px ex 4 (b:=kn K cM "NoField") rfl),
  kl (px ex 5 (b:=kn K cM "NoLine") rfl),
  kl (px ex 6 (b:=kn K cM "NoMake") rfl),
  kl (px ex 7 (b:=kn K cM "NoPattern") rfl),
  kl (px ex 8 (b:=kn K cM "NoPiece") rfl),
  kl (px ex 9 (b:=kn K cM "NoStamp") rfl),
  kl (px ex 10 (b:=kn K cM "NoText") rfl),
  kl (px ex 11 (b:=kn K cM "ValueError") rfl),
  He.ma K (kb K "NoField") "__init__",d_NoField_i,⟨LP o_NoField1,of_decide_eq_true o_NoField2,of_decide_eq_true o_NoField3,of_decide_eq_true o_NoField4,LL F_NoField_i sc_NoField_i rfl rfl,B_NoField_i⟩,
  He.cls_ok (c.fact 58 (f:=.cls "FieldReader") rfl),
  He.mkr_ok (c.fact 59 (f:=.mkr "FieldReader") rfl),
  Oq (px ex 13 (b:=N9 K Ii) rfl),
  Mi (px ex 14 (b:=Ju K fT) rfl)⟩))⟩
end K34
open PySem PySem.W PySem.Calls PyProof.Rows
theorem PySem.Challenge.cw_findcourt_k34_lines_of_deeds_looked_at_holds : PySem.Challenge.rw_findcourt_k34_lines_of_deeds_looked_at.Holds := by
 refine K34.early ?hc
 case hc=>
  refine L2.walk_ofE (l:=PySem.Challenge.rw_findcourt_k34_lines_of_deeds_looked_at) (n:=63) (k:=16) (x:="_law_script") (CX:=Vw.Li) rfl (by decide) (by kernel_rfl) ⟨rfl,by decide,by decide⟩ ?F Vw.NJ
  intro w mg fa h Y G hmg0
  obtain⟨K,KX,c,nl,ex⟩:=Y
  have hmg:mg ("law":PySem.Str)=some (.ref fa):=by
   have e:(HandSHeadRun.topDef (OpenLaw.row PySem.Challenge.rw_findcourt_k34_lines_of_deeds_looked_at).prog 43).name=("law":PySem.Str):=by kernel_rfl
   rw[←e]
   exact hmg0
  obtain⟨fd,hb,hF⟩:=K34.facts (P:=(PySem.Challenge.rw_findcourt_k34_lines_of_deeds_looked_at).prog) (w:=w) KX G hmg c ex
  exact⟨K,fd,_,KX,hb,fun H a ns hl _ hS=>Vw.IG nl hS (K34.Pn ns hl),hF⟩
