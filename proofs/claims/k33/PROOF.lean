import PyProof.Rows.All
import Wide.All
import OpenK.AllK
import Wide.FinOn
import HandS.ForMost
import HandS.ForExc
import HandS.Walk
import HandS.Wide
import KE.SortData
import HandS.ExcIs
import HandS.ExcField
import HandS.ExcInit
import HandS.TryOnly
import KE.DataEq
import HandS.Zip
import PyProof.Draws
import HandS.Rev
import HandS.Defaults
import HandS.WordsExc
import HandS.Comp
import HandS.Small
import HandS.Text
import HandS.IsInst
import HandS.SortInts
import HandS.Head0
import HandS.Head1
import HandS.Head2
import HandS.HeadEnd
import HandS.HeadHook1
import HandS.HeadHook2
import HandS.Replace
import KE.KExcIs
import HandS.Style
import HandS.More
import HandS.Deep
import PyProof.Rows.StrMeet
import KE.KEqDict
import HandS.Set
import HandS.SetFor
import HandS.DeepEq
import HandS.TupSets
import KE.KSortTupAny
import HandS.TupAny
import HandS.ReplaceList
import PySem.Challenge.RW_findcourt_k33_deeds_written
set_option Elab.async false
set_option linter.all false
set_option maxRecDepth 100000
set_option maxHeartbeats 4100000
namespace Vw
open PySem L2
inductive K0 where
 | i (n:Int)
 | s (t:List Nat)
 deriving DecidableEq
inductive D where
 | non
 | bl (b:Bool)
 | int (i:Int)
 | str (s:List Nat)
 | tup (l:List D)
 | lst (l:List D)
 | dic (l:List (K0×D))
 | dit (l:List (List K0×D))
 | ins (c:String) (fs:List (String×D))
 | exc (c:String) (p:List D)
inductive Val where
 | d (x:D)
 | r (n:Nat)
 | tp (l:List Val)
inductive Ob where
 | lst (l:List Val)
 | dic (k:Bool) (l:List (K0×Val))
 | dit (k:Bool) (l:List (List K0×Val))
 | ins (c:String) (fs:List (String×Val))
 | gone
inductive Sl where
 | v (x:Val)
 | own (o:Ob)
abbrev Slots:=List (Option Sl)
structure State where
 sg:Slots
 st:List Ob
inductive RV where
 | val (x:Val)
 | new (o:Ob)
 | own (i:Nat)
structure Exn where
 c:String
 p:Option D
inductive Res (α:Type) where
 | ok (a:α) (s:State)
 | exc (x:Exn) (s:State)
 | stuck
def Res.bind{α β:Type}:Res α→(α→State→Res β)→Res β
 | .ok a s,k=>k a s
 | .exc x s,_=>.exc x s
 | .stuck,_=>.stuck
@[simp] theorem Res.aa{α β:Type}(a:α)(s:State)(k:α→State→Res β):(Res.ok a s).bind k=k a s:=id rfl
@[simp] theorem Res.Dh{α β:Type}(x:Exn)(s:State)(k:α→State→Res β):(Res.exc x s).bind k=.exc x s:=id rfl
@[simp] theorem Res.Je{α β:Type}(k:α→State→Res β):(Res.stuck:Res α).bind k=.stuck:=id rfl
def kz:K0→Key
 | .i n=>.inl n
 | .s t=>.inr ⟨t.toArray⟩
theorem uc{a b:K0}(h:kz a=kz b):a=b:=by
 cases a<;> cases b<;> simp[kz]at h<;> first | (subst h;rfl) | skip
 all_goals (rw[h])
def Mf(cls:Value)(a:Addr)(d:Option Addr):HO:=.ext fun h=>∃ oe:Obj,h.get? a=some oe∧Zc cls d oe∧∃ vs,oe.data=.fields vs
def D9(Z:Hp)(d:Option Addr)(ws:List V):Prop:=(d=none∧ws=[])∨∃ dd w,d=some dd∧ws=[w]∧Z dd=some (.xd [(Str.ofString "place",w)])
theorem D9.mono{Z Z':Hp}(h:Same Z Z'){d:Option Addr}{ws:List V}(x:D9 Z d ws):D9 Z' d ws:=x.elim .inl fun⟨dd,w,e1,e2,z⟩=>.inr ⟨dd,w,e1,e2,h _ _ z⟩
section
variable(cA:String→Addr)(Z:Hp)
mutual
def aL:D→V→Prop
 | .non,v=>v=.non
 | .bl b,v=>v=.bl b
 | .int i,v=>v=.int i
 | .str s,v=>v=.str ⟨s.toArray⟩
 | .tup ds,v=>∃ a vs,v=.ref a∧Z a=some (.tup vs)∧br ds vs
 | .lst ds,v=>∃ a vs,v=.ref a∧(Z a=some (.lst vs)∨∃ o,Z a=some (.frz o (.lst vs)))∧br ds vs
 | .dic l,v=>∃ a ws,v=.ref a∧Z a=some (.dK ws)∧hE l ws
 | .dit l,v=>∃ a ws,v=.ref a∧Z a=some (.dT ws)∧kX l ws
 | .ins c fs,v=>∃ a dx ws,v=.ref a∧Z a=some (.ins (cA c) dx ws)∧hM fs ws
 | .exc c ps,v=>∃ a d ws,v=.ref a∧Z a=some (Mf (.ref (cA c)) a d)∧D9 Z d ws∧br ps ws
def br:List D→List V→Prop
 | [],vs=>vs=[]
 | d::ds,vs=>∃ v r,vs=v::r∧aL d v∧br ds r
def hE:List (K0×D)→List (Key×V)→Prop
 | [],ws=>ws=[]
 | (k,d)::ds,ws=>∃ v r,ws=(kz k,v)::r∧aL d v∧hE ds r
def kX:List (List K0×D)→List (List Key×V)→Prop
 | [],ws=>ws=[]
 | (k,d)::ds,ws=>∃ v r,ws=(k.map kz,v)::r∧aL d v∧kX ds r
def hM:List (String×D)→List (Str×V)→Prop
 | [],ws=>ws=[]
 | (f,d)::ds,ws=>∃ v r,ws=(Str.ofString f,v)::r∧aL d v∧hM ds r
end
end
section
variable{cA:String→Addr}{Z Z':Hp}
mutual
theorem aL.mono(h:Same Z Z'):∀ (d:D) {v:V},aL cA Z d v→aL cA Z' d v
 | .non,v,q=>q
 | .bl _,v,q=>q
 | .int _,v,q=>q
 | .str _,v,q=>q
 | .tup ds,v,⟨a,vs,e,z,q⟩=>⟨a,vs,e,h _ _ z,br.mono h ds q⟩
 | .lst ds,v,⟨a,vs,e,z,q⟩=>⟨a,vs,e,z.elim (fun z=>.inl (h _ _ z)) (fun⟨o,z⟩=>.inr ⟨o,h _ _ z⟩),br.mono h ds q⟩
 | .dic l,v,⟨a,vs,e,z,q⟩=>⟨a,vs,e,h _ _ z,hE.mono h l q⟩
 | .dit l,v,⟨a,vs,e,z,q⟩=>⟨a,vs,e,h _ _ z,kX.mono h l q⟩
 | .ins c fs,v,⟨a,dx,ws,e,z,q⟩=>⟨a,dx,ws,e,h _ _ z,hM.mono h fs q⟩
 | .exc c ps,v,⟨a,d,ws,e,z,x,q⟩=>⟨a,d,ws,e,h _ _ z,x.mono h,br.mono h ps q⟩
theorem br.mono(h:Same Z Z'):∀ (ds:List D) {vs:List V},br cA Z ds vs→br cA Z' ds vs
 | [],vs,q=>q
 | d::ds,vs,⟨v,r,e,q,t⟩=>⟨v,r,e,aL.mono h d q,br.mono h ds t⟩
theorem hE.mono(h:Same Z Z'):∀ (ds:List (K0×D)) {vs:List (Key×V)},hE cA Z ds vs→hE cA Z' ds vs
 | [],vs,q=>q
 | (k,d)::ds,vs,⟨v,r,e,q,t⟩=>⟨v,r,e,aL.mono h d q,hE.mono h ds t⟩
theorem kX.mono(h:Same Z Z'):∀ (ds:List (List K0×D)) {vs:List (List Key×V)},kX cA Z ds vs→kX cA Z' ds vs
 | [],vs,q=>q
 | (k,d)::ds,vs,⟨v,r,e,q,t⟩=>⟨v,r,e,aL.mono h d q,kX.mono h ds t⟩
theorem hM.mono(h:Same Z Z'):∀ (ds:List (String×D)) {vs:List (Str×V)},hM cA Z ds vs→hM cA Z' ds vs
 | [],vs,q=>q
 | (k,d)::ds,vs,⟨v,r,e,q,t⟩=>⟨v,r,e,aL.mono h d q,hM.mono h ds t⟩
end
end
end Vw
namespace Vw
open PySem L2
section
variable(cA:String→Addr)(Z:Hp)(loc:List Addr)
mutual
def bh:Val→V→Prop
 | .d x,v=>aL cA Z x v
 | .r n,v=>∃ a,loc[n]? =some a∧v=.ref a
 | .tp l,v=>∃ a vs,v=.ref a∧Z a=some (.tup vs)∧aB l vs
def aB:List Val→List V→Prop
 | [],vs=>vs=[]
 | x::l,vs=>∃ v r,vs=v::r∧bh x v∧aB l r
end
def cj:List (K0×Val)→List (Key×V)→Prop
 | [],ws=>ws=[]
 | (k,x)::l,ws=>∃ v r,ws=(kz k,v)::r∧bh cA Z loc x v∧cj l r
def cz:List (List K0×Val)→List (List Key×V)→Prop
 | [],ws=>ws=[]
 | (k,x)::l,ws=>∃ v r,ws=(k.map kz,v)::r∧bh cA Z loc x v∧cz l r
def dE:List (String×Val)→List (Str×V)→Prop
 | [],ws=>ws=[]
 | (f,x)::l,ws=>∃ v r,ws=(Str.ofString f,v)::r∧bh cA Z loc x v∧dE l r
def wb(H:Hp)(a:Addr)(u:HO):Bool→Prop
 | false=>H a=some u
 | true=>∃ o,H a=some (.frz o u)
def Cell(H:Hp)(a:Addr):Ob→Prop
 | .lst l=>∃ xs,H a=some (.lst xs)∧aB cA Z loc l xs
 | .dic k l=>∃ ws,wb H a (.dK ws) k∧cj cA Z loc l ws
 | .dit k l=>∃ ws,wb H a (.dT ws) k∧cz cA Z loc l ws
 | .ins c fs=>∃ dx ws,H a=some (.ins (cA c) dx ws)∧dE cA Z loc fs ws
 | .gone=>True
end
def Ext(Z:Hp)(loc:List Addr)(Z':Hp)(loc':List Addr):Prop:=Same Z Z'∧∃ m,loc'=loc++m
theorem Ext.refl(Z:Hp)(loc:List Addr):Ext Z loc Z loc:=⟨Same.refl _,[],by simp⟩
theorem Ext.trans{Z Z1 Z2:Hp}{l l1 l2:List Addr}(a:Ext Z l Z1 l1)(b:Ext Z1 l1 Z2 l2):Ext Z l Z2 l2:=by
 obtain⟨a1,m,rfl⟩:=a
 obtain⟨b1,n,rfl⟩:=b
 exact⟨a1.trans b1,m++n,by simp⟩
theorem Ext.z{Z Z':Hp}{l:List Addr}(h:Same Z Z'):Ext Z l Z' l:=⟨h,[],by simp⟩
section
variable{cA:String→Addr}{Z Z':Hp}{loc loc':List Addr}
mutual
theorem bh.mono(h:Ext Z loc Z' loc'):∀ (x:Val) {v:V},bh cA Z loc x v→bh cA Z' loc' x v
 | .d x,v,q=>aL.mono h.1 x q
 | .r n,v,⟨a,e,q⟩=>⟨a,by
  obtain⟨_,m,rfl⟩:=h
  rw[List.getElem?_append_left (List.getElem?_eq_some_iff.mp e).1]
  exact e,q⟩
 | .tp l,v,⟨a,vs,e,z,q⟩=>⟨a,vs,e,h.1 _ _ z,aB.mono h l q⟩
theorem aB.mono(h:Ext Z loc Z' loc'):∀ (l:List Val) {vs:List V},aB cA Z loc l vs→aB cA Z' loc' l vs
 | [],vs,q=>q
 | x::l,vs,⟨v,r,e,q,t⟩=>⟨v,r,e,bh.mono h x q,aB.mono h l t⟩
end
theorem cj.mono(h:Ext Z loc Z' loc'):∀ (l:List (K0×Val)) {vs:List (Key×V)},cj cA Z loc l vs→cj cA Z' loc' l vs
 | [],vs,q=>q
 | (k,x)::l,vs,⟨v,r,e,q,t⟩=>⟨v,r,e,bh.mono h x q,cj.mono h l t⟩
theorem cz.mono(h:Ext Z loc Z' loc'):∀ (l:List (List K0×Val)) {vs:List (List Key×V)},cz cA Z loc l vs→cz cA Z' loc' l vs
 | [],vs,q=>q
 | (k,x)::l,vs,⟨v,r,e,q,t⟩=>⟨v,r,e,bh.mono h x q,cz.mono h l t⟩
theorem dE.mono(h:Ext Z loc Z' loc'):∀ (l:List (String×Val)) {vs:List (Str×V)},dE cA Z loc l vs→dE cA Z' loc' l vs
 | [],vs,q=>q
 | (k,x)::l,vs,⟨v,r,e,q,t⟩=>⟨v,r,e,bh.mono h x q,dE.mono h l t⟩
theorem wb.grow{H H':Hp}(h:Same H H'){a:Addr}{u:HO}:∀ {k:Bool},wb H a u k→wb H' a u k
 | false,q=>h _ _ q
 | true,⟨o,q⟩=>⟨o,h _ _ q⟩
theorem BD{H:Hp}{a:Addr}{u:HO}:∀ {k:Bool},wb H a u k→H a≠none
 | false,q=>by rw[show H a=_ from q];simp
 | true,⟨o,q⟩=>by rw[q];simp
theorem Cell.mono{H H':Hp}{a:Addr}(h:Ext Z loc Z' loc')(g:Same H H'):∀ {o:Ob},Cell cA Z loc H a o→Cell cA Z' loc' H' a o
 | .lst l,⟨xs,e,q⟩=>⟨xs,g _ _ e,aB.mono h l q⟩
 | .dic k l,⟨xs,e,q⟩=>⟨xs,e.grow g,cj.mono h l q⟩
 | .dit k l,⟨xs,e,q⟩=>⟨xs,e.grow g,cz.mono h l q⟩
 | .ins c l,⟨dx,xs,e,q⟩=>⟨dx,xs,g _ _ e,dE.mono h l q⟩
 | .gone,_=>trivial
theorem Cell.at{H H':Hp}{a:Addr}(g:H' a=H a):∀ {o:Ob},Cell cA Z loc H a o→Cell cA Z loc H' a o
 | .lst l,⟨xs,e,q⟩=>⟨xs,g.trans e,q⟩
 | .dic false l,⟨xs,e,q⟩=>⟨xs,g.trans e,q⟩
 | .dic true l,⟨xs,⟨o,e⟩,q⟩=>⟨xs,⟨o,g.trans e⟩,q⟩
 | .dit false l,⟨xs,e,q⟩=>⟨xs,g.trans e,q⟩
 | .dit true l,⟨xs,⟨o,e⟩,q⟩=>⟨xs,⟨o,g.trans e⟩,q⟩
 | .ins c l,⟨dx,xs,e,q⟩=>⟨dx,xs,g.trans e,q⟩
 | .gone,_=>trivial
theorem gb{H:Hp}{a:Addr}{o:Ob}(ne:o≠ .gone)(h:Cell cA Z loc H a o):H a≠none:=by
 cases o with
 | lst l=>obtain⟨xs,e,q⟩:=h;rw[e];simp
 | dic k l=>obtain⟨xs,e,q⟩:=h;exact BD e
 | dit k l=>obtain⟨xs,e,q⟩:=h;exact BD e
 | ins c l=>obtain⟨dx,xs,e,q⟩:=h;rw[e];simp
 | gone=>exact absurd rfl ne
end
def nh:HO→Bool
 | .dK _=>true
 | .dT _=>true
 | _=>false
def Rz(H:Hp)(a:Addr)(u:HO):Prop:=H a=some u∨(nh u=true∧∃ o,H a=some (.frz o u))
theorem qE{H:Hp}{a:Addr}{u:HO}(h:Rz H a u):H a≠none:=by
 rcases h with h | ⟨_,o,h⟩<;> rw[h]<;> simp
theorem E1{H H':Hp}(g:Same H H'){a:Addr}{u:HO}(h:Rz H a u):Rz H' a u:=h.elim (fun h=>.inl (g _ _ h)) fun⟨d,o,h⟩=>.inr ⟨d,o,g _ _ h⟩
theorem Rz.rd{H:Hp}{a:Addr}{u:HO}(h:Rz H a u):Rd H a u:=h.elim .inl fun⟨_,o,h⟩=>.inr ⟨o,h⟩
theorem Rz.at{H:Hp}{a:Addr}{u:HO}(h:Rz H a u)(d:nh u=false):H a=some u:=h.elim id fun⟨e,_⟩=>by rw[d]at e;cases e
structure Cst where
 cA:String→Addr
 Fr:Hp
 H0:Hp
 W:WX
structure SR (C:Cst) (Z:Hp) (loc:List Addr) (s:State) (sv:L2.St) (H:Hp):Prop where
 fr:Same C.Fr H
 zh:∀ (a:Addr) (o:HO),Z a=some o→Rz H a o
 zf:∀ (a:Addr) (o:HO),Z a=some o→C.Fr a=none
 lk:∀ (a:Addr) (o:Obj) (u:HO),C.H0 a=some (.frz o u)→H a=some (.frz o u)
 ln:loc.length=s.st.length
 nd:loc.Nodup
 lh:∀ a∈loc,H a≠none∧C.Fr a=none
 cl:∀ (n:Nat) (a:Addr) (o:Ob),loc[n]? =some a→s.st[n]? =some o→o≠ .gone→Cell C.cA Z loc H a o∧Z a=none
 vl:∀ (i:Nat) (x:Val),s.sg[i]? =some (some (.v x))→∃ v,sv[i]? =some (some v)∧bh C.cA Z loc x v
 ow:∀ (i:Nat) (o:Ob),s.sg[i]? =some (some (.own o))→∃ a,sv[i]? =some (some (.ref a))∧o≠ .gone∧Cell C.cA Z loc H a o∧Z a=none∧C.Fr a=none∧a∉loc
 oi:∀ (i j:Nat) (o o':Ob) (a:Addr),s.sg[i]? =some (some (.own o))→s.sg[j]? =some (some (.own o'))→sv[i]? =some (some (.ref a))→sv[j]? =some (some (.ref a))→i=j
 ls:s.sg.length=sv.length
structure Free (C:Cst) (Z:Hp) (loc:List Addr) (s:State) (sv:L2.St) (a:Addr):Prop where
 z:Z a=none
 f:C.Fr a=none
 l:a∉loc
 o:∀ (i:Nat) (o:Ob),s.sg[i]? =some (some (.own o))→sv[i]? ≠some (some (.ref a))
def aY(C:Cst)(Z:Hp)(loc:List Addr)(s:State)(sv:L2.St)(H:Hp):RV→V→Prop
 | .val x,v=>bh C.cA Z loc x v
 | .new o,v=>∃ a,v=.ref a∧o≠ .gone∧Cell C.cA Z loc H a o∧Free C Z loc s sv a
 | .own i,v=>sv[i]? =some (some v)
section
variable{C:Cst}{Z Z':Hp}{loc loc':List Addr}{s s':State}{sv:L2.St}{H H':Hp}
theorem SR.grow(r:SR C Z loc s sv H)(g:Same H H'):SR C Z loc s sv H' where
 fr:=r.fr.trans g
 zh a o h:=E1 g (r.zh a o h)
 zf:=r.zf
 lk a o u h:=g _ _ (r.lk a o u h)
 ln:=r.ln
 nd:=r.nd
 lh a h:=⟨fun e=>(r.lh a h).1 (g.free e),(r.lh a h).2⟩
 cl n a o h1 h2 h3:=⟨(r.cl n a o h1 h2 h3).1.mono (Ext.refl _ _) g,(r.cl n a o h1 h2 h3).2⟩
 vl:=r.vl
 ow i o h:=let ⟨a,h1,h2,h3,h4⟩:=r.ow i o h;⟨a,h1,h2,h3.mono (Ext.refl _ _) g,h4⟩
 oi:=r.oi
 ls:=r.ls
theorem bp{p:Addr}{o:HO}(h:H p=none):Same H (upd H p o):=fun b x e=>by rw[upd_ne (ne_of_none e h)];exact e
theorem SR.free(r:SR C Z loc s sv H){p:Addr}(h:H p=none):Free C Z loc s sv p where
 z:=by
  cases e:Z p with
  | none=>rfl
  | some o=>exact absurd h (qE (r.zh p o e))
 f:=r.fr.free h
 l hm:=(r.lh p hm).1 h
 o i ob e q:=by
  obtain⟨a,h1,h2,h3,_⟩:=r.ow i ob e
  rw[h1]at q
  cases q
  exact gb h2 h3 h
theorem SR.tM(r:SR C Z loc s sv H){a:Addr}{o:HO}(e:H a=some o)(f:Free C Z loc s sv a):SR C (upd Z a o) loc s sv H:=by
 have g:Ext Z loc (upd Z a o) loc:=Ext.z (bp f.z)
 refine⟨r.fr,fun b u h=>?_,fun b u h=>?_,r.lk,r.ln,r.nd,r.lh,fun n b ob h1 h2 h3=>?_,fun i x h=>?_,fun i ob h=>?_,r.oi,r.ls⟩
 ·by_cases hb:b=a
  ·subst hb
   rw[upd_same]at h
   cases h
   exact .inl e
  ·rw[upd_ne hb]at h
   exact r.zh b u h
 ·by_cases hb:b=a
  ·subst hb
   exact f.f
  ·rw[upd_ne hb]at h
   exact r.zf b u h
 ·obtain⟨q1,q2⟩:=r.cl n b ob h1 h2 h3
  have hb:b≠a:=fun z=>f.l (z▸List.mem_of_getElem? h1)
  exact⟨q1.mono g (Same.refl _),by rw[upd_ne hb];exact q2⟩
 ·obtain⟨v,h1,h2⟩:=r.vl i x h
  exact⟨v,h1,bh.mono g x h2⟩
 ·obtain⟨b,h1,h2,h3,h4,h5⟩:=r.ow i ob h
  have hb:b≠a:=fun z=>f.o i ob h (z▸h1)
  exact⟨b,h1,h2,h3.mono g (Same.refl _),by rw[upd_ne hb];exact h4,h5⟩
end
end Vw
namespace Vw
open PySem L2
def toDs:List Val→Option (List D)
 | []=>some []
 | .d x::r=>(toDs r).map (x:: ·)
 | _::_=>none
def toDK{κ:Type}:List (κ×Val)→Option (List (κ×D))
 | []=>some []
 | (k,.d x)::r=>(toDK r).map ((k,x):: ·)
 | _::_=>none
def Ob.toD:Ob→Option D
 | .lst l=>(toDs l).map .lst
 | .dic false l=>(toDK l).map .dic
 | .dit false l=>(toDK l).map .dit
 | .ins c fs=>(toDK fs).map (.ins c)
 | _=>none
@[simp] theorem toDs_map(xs:List D):toDs (xs.map .d)=some xs:=by
 induction xs with
 | nil=>rfl
 | cons x r ih=>simp[toDs,ih]
@[simp] theorem toDK_map{κ:Type}(xs:List (κ×D)):toDK (xs.map fun p=>(p.1,Val.d p.2))=some xs:=by
 induction xs with
 | nil=>rfl
 | cons x r ih=>obtain⟨k,x⟩:=x;simp[toDK,ih]
theorem toDs_inv:∀ {l:List Val} {ds:List D},toDs l=some ds→l=ds.map .d
 | [],ds,h=>by cases h;rfl
 | .d x::r,ds,h=>by
  obtain⟨t,e,rfl⟩:=Option.map_eq_some_iff.mp h
  rw[toDs_inv e];rfl
 | .r _::_,ds,h=>by cases h
 | .tp _::_,ds,h=>by cases h
theorem toDK_inv{κ:Type}:∀ {l:List (κ×Val)} {ds:List (κ×D)},toDK l=some ds→l=ds.map fun p=>(p.1,Val.d p.2)
 | [],ds,h=>by cases h;rfl
 | (k,.d x)::r,ds,h=>by
  obtain⟨t,e,rfl⟩:=Option.map_eq_some_iff.mp h
  rw[toDK_inv e];rfl
 | (_,.r _)::_,ds,h=>by cases h
 | (_,.tp _)::_,ds,h=>by cases h
section
variable{cA:String→Addr}{Z:Hp}{loc:List Addr}
theorem cZ:∀ {ds:List D} {vs:List V},aB cA Z loc (ds.map .d) vs↔br cA Z ds vs
 | [],vs=>Iff.rfl
 | d::ds,vs=>⟨fun⟨v,r,e,q,t⟩=>⟨v,r,e,q,cZ.mp t⟩,fun⟨v,r,e,q,t⟩=>⟨v,r,e,q,cZ.mpr t⟩⟩
theorem oJ:∀ {ds:List (K0×D)} {vs:List (Key×V)},cj cA Z loc (ds.map fun p=>(p.1,Val.d p.2)) vs↔hE cA Z ds vs
 | [],vs=>Iff.rfl
 | (k,d)::ds,vs=>⟨fun⟨v,r,e,q,t⟩=>⟨v,r,e,q,oJ.mp t⟩,fun⟨v,r,e,q,t⟩=>⟨v,r,e,q,oJ.mpr t⟩⟩
theorem og:∀ {ds:List (List K0×D)} {vs:List (List Key×V)},cz cA Z loc (ds.map fun p=>(p.1,Val.d p.2)) vs↔kX cA Z ds vs
 | [],vs=>Iff.rfl
 | (k,d)::ds,vs=>⟨fun⟨v,r,e,q,t⟩=>⟨v,r,e,q,og.mp t⟩,fun⟨v,r,e,q,t⟩=>⟨v,r,e,q,og.mpr t⟩⟩
theorem su:∀ {ds:List (String×D)} {vs:List (Str×V)},dE cA Z loc (ds.map fun p=>(p.1,Val.d p.2)) vs↔hM cA Z ds vs
 | [],vs=>Iff.rfl
 | (k,d)::ds,vs=>⟨fun⟨v,r,e,q,t⟩=>⟨v,r,e,q,su.mp t⟩,fun⟨v,r,e,q,t⟩=>⟨v,r,e,q,su.mpr t⟩⟩
theorem yr{H:Hp}{a:Addr}{o:Ob}{d:D}(h:Cell cA Z loc H a o)(e:o.toD=some d)(z:Z a=none):
  ∃ u,H a=some u∧aL cA (upd Z a u) d (.ref a):=by
 cases o with
 | lst l=>
  obtain⟨ds,e1,rfl⟩:=Option.map_eq_some_iff.mp e
  obtain⟨xs,h1,h2⟩:=h
  rw[toDs_inv e1]at h2
  exact⟨_,h1,a,xs,rfl,.inl upd_same,br.mono (bp z) ds (cZ.mp h2)⟩
 | dic k l=>
  cases k with
  | true=>cases e
  | false=>
   obtain⟨ds,e1,rfl⟩:=Option.map_eq_some_iff.mp e
   obtain⟨xs,h1,h2⟩:=h
   rw[toDK_inv e1]at h2
   exact⟨_,h1,a,xs,rfl,upd_same,hE.mono (bp z) ds (oJ.mp h2)⟩
 | dit k l=>
  cases k with
  | true=>cases e
  | false=>
   obtain⟨ds,e1,rfl⟩:=Option.map_eq_some_iff.mp e
   obtain⟨xs,h1,h2⟩:=h
   rw[toDK_inv e1]at h2
   exact⟨_,h1,a,xs,rfl,upd_same,kX.mono (bp z) ds (og.mp h2)⟩
 | ins c l=>
  obtain⟨ds,e1,rfl⟩:=Option.map_eq_some_iff.mp e
  obtain⟨dx,xs,h1,h2⟩:=h
  rw[toDK_inv e1]at h2
  exact⟨_,h1,a,dx,xs,rfl,upd_same,hM.mono (bp z) ds (su.mp h2)⟩
 | gone=>cases e
end
def settle:RV→State→Res RV
 | .new o,s=>match o.toD with
  | some d=>.ok (.val (.d d)) s
  | none=>.stuck
 | r,s=>.ok r s
def jb(i:Nat)(s:State):Res Val:=
 match s.sg[i]? with
 | some (some (.own o))=>match o.toD with
  | some d=>.ok (.d d) { s with sg:=s.sg.set i (some (.v (.d d))) }
  | none=>.stuck
 | some (some (.v x))=>.ok x s
 | _=>.stuck
def bG:RV→State→Res Val
 | .val x,s=>.ok x s
 | .new o,s=>match o.toD with
  | some d=>.ok (.d d) s
  | none=>.stuck
 | .own i,s=>jb i s
section
variable{C:Cst}{Z Z':Hp}{loc loc':List Addr}{s s':State}{sv:L2.St}{H H':Hp}
theorem SR.settled(r:SR C Z loc s sv H){o:Ob}{v:V}{d:D}(h:aY C Z loc s sv H (.new o) v)(e:o.toD=some d):∃ Z',Ext Z loc Z' loc∧SR C Z' loc s sv H∧bh C.cA Z' loc (.d d) v:=by
 obtain⟨a,rfl,ne,h1,h2⟩:=h
 obtain⟨u,h3,h4⟩:=yr h1 e h2.z
 exact⟨_,Ext.z (bp h2.z),r.tM h3 h2,h4⟩
theorem bW{α:Type}{l:List α}{i j:Nat}{x y:α}(h:(l.set i x)[j]? =some y):(i=j∧y=x)∨(i≠j∧l[j]? =some y):=by
 by_cases e:i=j
 ·subst e
  rw[List.getElem?_set]at h
  simp at h
  exact .inl ⟨rfl,h.2.symm⟩
 ·rw[List.getElem?_set_ne e]at h
  exact .inr ⟨e,h⟩
theorem SR.drop(r:SR C Z loc s sv H)(i:Nat):SR C Z loc { s with sg:=s.sg.set i none } sv H:=by
 refine⟨r.fr,r.zh,r.zf,r.lk,r.ln,r.nd,r.lh,r.cl,fun j x h=>?_,fun j o h=>?_,fun j k o o' a h1 h2=>?_,by simpa using r.ls⟩
 ·rcases bW h with⟨_,q⟩ | ⟨_,q⟩
  ·cases q
  ·exact r.vl j x q
 ·rcases bW h with⟨_,q⟩ | ⟨_,q⟩
  ·cases q
  ·exact r.ow j o q
 ·rcases bW h1 with⟨_,q⟩ | ⟨_,q⟩
  ·cases q
  ·rcases bW h2 with⟨_,q'⟩ | ⟨_,q'⟩
   ·cases q'
   ·exact r.oi j k o o' a q q'
theorem SR.C4(r:SR C Z loc s sv H){i:Nat}{o:Ob}{a:Addr}(h:s.sg[i]? =some (some (.own o)))(ha:sv[i]? =some (some (.ref a))):Free C Z loc { s with sg:=s.sg.set i none } sv a:=by
 obtain⟨b,h1,h2,h3,h4,h5,h6⟩:=r.ow i o h
 rw[ha]at h1
 cases h1
 refine⟨h4,h5,h6,fun j o' q e=>?_⟩
 rcases bW q with⟨_,q⟩ | ⟨ne,q⟩
 ·cases q
 ·exact ne (r.oi i j o o' a h q ha e)
theorem SR.Hz(r:SR C Z loc s sv H){i:Nat}{x:Val}{v:V}(h:sv[i]? =some (some v))(q:bh C.cA Z loc x v):SR C Z loc { s with sg:=s.sg.set i (some (.v x)) } sv H:=by
 refine⟨r.fr,r.zh,r.zf,r.lk,r.ln,r.nd,r.lh,r.cl,fun j y h1=>?_,fun j o h1=>?_,fun j k o o' a h1 h2=>?_,by simpa using r.ls⟩
 ·rcases bW h1 with⟨rfl,e⟩ | ⟨_,e⟩
  ·cases e
   exact⟨v,h,q⟩
  ·exact r.vl j y e
 ·rcases bW h1 with⟨rfl,e⟩ | ⟨_,e⟩
  ·cases e
  ·exact r.ow j o e
 ·rcases bW h1 with⟨_,q⟩ | ⟨_,q⟩
  ·cases q
  ·rcases bW h2 with⟨_,q'⟩ | ⟨_,q'⟩
   ·cases q'
   ·exact r.oi j k o o' a q q'
theorem SR.Lm(r:SR C Z loc s sv H){i:Nat}{o:Ob}{a:Addr}(h:sv[i]? =some (some (.ref a)))(ne:o≠ .gone)(q:Cell C.cA Z loc H a o)(f:Free C Z loc s sv a):SR C Z loc { s with sg:=s.sg.set i (some (.own o)) } sv H:=by
 refine⟨r.fr,r.zh,r.zf,r.lk,r.ln,r.nd,r.lh,r.cl,fun j y h1=>?_,fun j ob h1=>?_,fun j k ob ob' b h1 h2 h3 h4=>?_,by simpa using r.ls⟩
 ·rcases bW h1 with⟨rfl,e⟩ | ⟨_,e⟩
  ·cases e
  ·exact r.vl j y e
 ·rcases bW h1 with⟨rfl,e⟩ | ⟨_,e⟩
  ·cases e
   exact⟨a,h,ne,q,f.z,f.f,f.l⟩
  ·exact r.ow j ob e
 ·rcases bW h1 with⟨rfl,e⟩ | ⟨n1,e⟩
  ·rcases bW h2 with⟨rfl,e'⟩ | ⟨n2,e'⟩
   ·rfl
   ·rw[h]at h3
    cases h3
    exact absurd h4 (f.o k ob' e')
  ·rcases bW h2 with⟨rfl,e'⟩ | ⟨n2,e'⟩
   ·rw[h]at h4
    cases h4
    exact absurd h3 (f.o j ob e)
   ·exact r.oi j k ob ob' b e e' h3 h4
theorem rX{α:Type}(l:List α)(i:Nat)(x y:α):(l.set i x).set i y=l.set i y:=List.set_set ..
theorem SR.jb(r:SR C Z loc s sv H){i:Nat}{v:V}{x:Val}(h:sv[i]? =some (some v))(e:jb i s=.ok x s'):∃ Z',Ext Z loc Z' loc∧SR C Z' loc s' sv H∧bh C.cA Z' loc x v:=by
 unfold Vw.jb at e
 split at e
 ·rename_i o ho
  split at e
  ·rename_i d hd
   cases e
   obtain⟨a,h1,h2,h3,h4⟩:=r.ow i o ho
   rw[h]at h1
   cases h1
   obtain⟨Z',g,r',q⟩:=(r.drop i).settled (v:=.ref a) ⟨a,rfl,h2,h3,r.C4 ho h⟩ hd
   refine⟨Z',g,?_,q⟩
   have:=r'.Hz h q
   simpa [rX]using this
  ·cases e
 ·rename_i x' hx
  cases e
  obtain⟨v',h1,h2⟩:=r.vl i x hx
  rw[h]at h1
  cases h1
  exact⟨Z,Ext.refl _ _,r,h2⟩
 ·cases e
theorem SR.bG(r:SR C Z loc s sv H){rv:RV}{v:V}{x:Val}(h:aY C Z loc s sv H rv v)(e:bG rv s=.ok x s'):∃ Z',Ext Z loc Z' loc∧SR C Z' loc s' sv H∧bh C.cA Z' loc x v:=by
 cases rv with
 | val y=>cases e;exact⟨Z,Ext.refl _ _,r,h⟩
 | new o=>
  cases hd:o.toD with
  | none=>simp[Vw.bG,hd]at e
  | some d=>
   simp[Vw.bG,hd]at e
   obtain⟨rfl,rfl⟩:=e
   exact r.settled h hd
 | own i=>exact r.jb h e
theorem ym{rv:RV}{x:Exn}:bG rv s≠ .exc x s':=by
 unfold bG jb
 repeat' split
 all_goals simp
theorem vz{rv:RV}{x:Exn}:settle rv s≠ .exc x s':=by
 unfold settle
 repeat' split
 all_goals simp
def tF:RV→Prop
 | .new _=>False
 | _=>True
theorem aY.mono(h:Ext Z loc Z' loc'):∀ {rv:RV} {v:V},tF rv→aY C Z loc s sv H rv v→aY C Z' loc' s' sv H' rv v
 | .val x,v,_,q=>bh.mono h x q
 | .own i,v,_,q=>q
 | .new o,v,z,_=>z.elim
theorem SR.settle(r:SR C Z loc s sv H){rv rv':RV}{v:V}(h:aY C Z loc s sv H rv v)(e:settle rv s=.ok rv' s'):s'=s∧tF rv'∧∃ Z',Ext Z loc Z' loc∧SR C Z' loc s sv H∧aY C Z' loc s sv H rv' v:=by
 cases rv with
 | val y=>cases e;exact⟨rfl,trivial,Z,Ext.refl _ _,r,h⟩
 | own i=>cases e;exact⟨rfl,trivial,Z,Ext.refl _ _,r,h⟩
 | new o=>
  cases hd:o.toD with
  | none=>simp[Vw.settle,hd]at e
  | some d=>
   simp[Vw.settle,hd]at e
   obtain⟨rfl,rfl⟩:=e
   obtain⟨Z',g,r',q⟩:=r.settled h hd
   exact⟨rfl,trivial,Z',g,r',q⟩
end
def jJ(C:Cst)(Z:Hp)(H:Hp)(x:Exn)(c:Value)(d:Option Addr):Prop:=
 c=.ref (C.cA x.c)∧match x.p with
  | none=>d=none
  | some p=>∃ dd v,d=some dd∧Z dd=some (.xd [(Str.ofString "place",v)])∧aL C.cA Z p v
inductive Fl where
 | nx
 | ret (r:RV)
 | brk
 | cnt
def EPost(C:Cst)(Z:Hp)(loc:List Addr)(sv:L2.St)(r:Res RV)(Q:VK):Prop:=
 match r with
 | .ok rv s'=>∀ Z' loc' H' v,Ext Z loc Z' loc'→SR C Z' loc' s' sv H'→aY C Z' loc' s' sv H' rv v→Q v H'
 | .exc x s'=>∀ Z' loc' H' c d,Ext Z loc Z' loc'→SR C Z' loc' s' sv H'→jJ C Z' H' x c d→C.W c d sv H'
 | .stuck=>False
def fN(C:Cst)(Z:Hp)(loc:List Addr)(s:State)(sv:L2.St)(H:Hp):List RV→List V→Prop
 | [],vs=>vs=[]
 | x::l,vs=>∃ v r,vs=v::r∧tF x∧aY C Z loc s sv H x v∧fN C Z loc s sv H l r
def oG(C:Cst)(Z:Hp)(loc:List Addr)(sv:L2.St)(r:Res (List RV))(Q:List V→Hp→Prop):Prop:=
 match r with
 | .ok rv s'=>∀ Z' loc' H' v,Ext Z loc Z' loc'→SR C Z' loc' s' sv H'→fN C Z' loc' s' sv H' rv v→Q v H'
 | .exc x s'=>∀ Z' loc' H' c d,Ext Z loc Z' loc'→SR C Z' loc' s' sv H'→jJ C Z' H' x c d→C.W c d sv H'
 | .stuck=>False
def eR(C:Cst)(Z:Hp)(loc:List Addr)(sv:L2.St)(r:Res Bool)(Q:Bool→Hp→Prop):Prop:=
 match r with
 | .ok b s'=>∀ Z' loc' H',Ext Z loc Z' loc'→SR C Z' loc' s' sv H'→Q b H'
 | .exc x s'=>∀ Z' loc' H' c d,Ext Z loc Z' loc'→SR C Z' loc' s' sv H'→jJ C Z' H' x c d→C.W c d sv H'
 | .stuck=>False
def bg(C:Cst)(Z:Hp)(loc:List Addr)(r:Res Fl)(D:Ends):Prop:=
 match r with
 | .ok .nx s'=>∀ Z' loc' sv' H',Ext Z loc Z' loc'→SR C Z' loc' s' sv' H'→D.nx sv' H'
 | .ok .brk s'=>∀ Z' loc' sv' H',Ext Z loc Z' loc'→SR C Z' loc' s' sv' H'→D.bk sv' H'
 | .ok .cnt s'=>∀ Z' loc' sv' H',Ext Z loc Z' loc'→SR C Z' loc' s' sv' H'→D.ct sv' H'
 | .ok (.ret rv) s'=>∀ Z' loc' sv' H' v,Ext Z loc Z' loc'→SR C Z' loc' s' sv' H'→aY C Z' loc' s' sv' H' rv v→D.rt v H'
 | .exc x s'=>∀ Z' loc' sv' H' c d,Ext Z loc Z' loc'→SR C Z' loc' s' sv' H'→jJ C Z' H' x c d→C.W c d sv' H'
 | .stuck=>False
def ai(C:Cst)(f:State→Res RV):TE:=fun sv H Q=>∃ Z loc s,SR C Z loc s sv H∧EPost C Z loc sv (f s) Q
def bS(C:Cst)(f:State→Res (List RV)):TA:=fun sv H Q=>∃ Z loc s,SR C Z loc s sv H∧oG C Z loc sv (f s) Q
def cQ(C:Cst)(f:State→Res Bool):TT:=fun sv H Q=>∃ Z loc s,SR C Z loc s sv H∧eR C Z loc sv (f s) Q
def cq(C:Cst)(f:State→Res Fl):TS:=fun D sv H=>∃ Z loc s,SR C Z loc s sv H∧bg C Z loc (f s) D
section
variable{C:Cst}{Z Z':Hp}{loc loc':List Addr}{s:State}{sv:L2.St}{H:Hp}
theorem EPost.ext{r:Res RV}{Q:VK}(h:EPost C Z loc sv r Q)(g:Ext Z loc Z' loc'):EPost C Z' loc' sv r Q:=by
 cases r with
 | ok rv s'=>exact fun Z2 l2 H2 v g2=>h Z2 l2 H2 v (g.trans g2)
 | exc x s'=>exact fun Z2 l2 H2 c d g2=>h Z2 l2 H2 c d (g.trans g2)
 | stuck=>exact h
theorem EPost.imp{r:Res RV}{Q Q':VK}(h:EPost C Z loc sv r Q)(q:∀ v H,Q v H→Q' v H):EPost C Z loc sv r Q':=by
 cases r with
 | ok rv s'=>exact fun Z2 l2 H2 v g2 a b=>q _ _ (h Z2 l2 H2 v g2 a b)
 | exc x s'=>exact h
 | stuck=>exact h
theorem oG.ext{r:Res (List RV)}{Q:List V→Hp→Prop}(h:oG C Z loc sv r Q)(g:Ext Z loc Z' loc'):oG C Z' loc' sv r Q:=by
 cases r with
 | ok rv s'=>exact fun Z2 l2 H2 v g2=>h Z2 l2 H2 v (g.trans g2)
 | exc x s'=>exact fun Z2 l2 H2 c d g2=>h Z2 l2 H2 c d (g.trans g2)
 | stuck=>exact h
theorem eR.ext{r:Res Bool}{Q:Bool→Hp→Prop}(h:eR C Z loc sv r Q)(g:Ext Z loc Z' loc'):eR C Z' loc' sv r Q:=by
 cases r with
 | ok rv s'=>exact fun Z2 l2 H2 g2=>h Z2 l2 H2 (g.trans g2)
 | exc x s'=>exact fun Z2 l2 H2 c d g2=>h Z2 l2 H2 c d (g.trans g2)
 | stuck=>exact h
theorem bg.ext{r:Res Fl}{D:Ends}(h:bg C Z loc r D)(g:Ext Z loc Z' loc'):bg C Z' loc' r D:=by
 cases r with
 | ok f s'=>
  cases f with
  | nx=>exact fun Z2 l2 v2 H2 g2=>h Z2 l2 v2 H2 (g.trans g2)
  | brk=>exact fun Z2 l2 v2 H2 g2=>h Z2 l2 v2 H2 (g.trans g2)
  | cnt=>exact fun Z2 l2 v2 H2 g2=>h Z2 l2 v2 H2 (g.trans g2)
  | ret rv=>exact fun Z2 l2 v2 H2 v g2=>h Z2 l2 v2 H2 v (g.trans g2)
 | exc x s'=>exact fun Z2 l2 v2 H2 c d g2=>h Z2 l2 v2 H2 c d (g.trans g2)
 | stuck=>exact h
theorem ai.qN{f:State→Res RV}{k:RV→State→Res RV}{Q:VK}(r:SR C Z loc s sv H)(h:EPost C Z loc sv ((f s).bind k) Q):
  ai C f sv H (fun v H'=>∃ Z' loc' s' rv,Ext Z loc Z' loc'∧SR C Z' loc' s' sv H'∧aY C Z' loc' s' sv H' rv v∧EPost C Z' loc' sv (k rv s') Q):=by
 refine⟨Z,loc,s,r,?_⟩
 cases e:f s with
 | ok rv s'=>rw[e]at h;exact fun Z' loc' H' v g r' q=>⟨Z',loc',s',rv,g,r',q,EPost.ext h g⟩
 | exc x s'=>rw[e]at h;exact h
 | stuck=>rw[e]at h;exact h
theorem ai.oy{f:State→Res RV}{k:RV→State→Res Fl}{D:Ends}(r:SR C Z loc s sv H)(h:bg C Z loc ((f s).bind k) D):
  ai C f sv H (fun v H'=>∃ Z' loc' s' rv,Ext Z loc Z' loc'∧SR C Z' loc' s' sv H'∧aY C Z' loc' s' sv H' rv v∧bg C Z' loc' (k rv s') D):=by
 refine⟨Z,loc,s,r,?_⟩
 cases e:f s with
 | ok rv s'=>rw[e]at h;exact fun Z' loc' H' v g r' q=>⟨Z',loc',s',rv,g,r',q,bg.ext h g⟩
 | exc x s'=>rw[e]at h;exact fun Z' loc' H' c d=>h Z' loc' sv H' c d
 | stuck=>rw[e]at h;exact h
theorem bS.qN{f:State→Res (List RV)}{k:List RV→State→Res RV}{Q:VK}(r:SR C Z loc s sv H)(h:EPost C Z loc sv ((f s).bind k) Q):
  bS C f sv H (fun v H'=>∃ Z' loc' s' rv,Ext Z loc Z' loc'∧SR C Z' loc' s' sv H'∧fN C Z' loc' s' sv H' rv v∧EPost C Z' loc' sv (k rv s') Q):=by
 refine⟨Z,loc,s,r,?_⟩
 cases e:f s with
 | ok rv s'=>rw[e]at h;exact fun Z' loc' H' v g r' q=>⟨Z',loc',s',rv,g,r',q,EPost.ext h g⟩
 | exc x s'=>rw[e]at h;exact h
 | stuck=>rw[e]at h;exact h
theorem cQ.qN{f:State→Res Bool}{k:Bool→State→Res RV}{Q:VK}(r:SR C Z loc s sv H)(h:EPost C Z loc sv ((f s).bind k) Q):
  cQ C f sv H (fun b H'=>∃ Z' loc' s',Ext Z loc Z' loc'∧SR C Z' loc' s' sv H'∧EPost C Z' loc' sv (k b s') Q):=by
 refine⟨Z,loc,s,r,?_⟩
 cases e:f s with
 | ok rv s'=>rw[e]at h;exact fun Z' loc' H' g r'=>⟨Z',loc',s',g,r',EPost.ext h g⟩
 | exc x s'=>rw[e]at h;exact h
 | stuck=>rw[e]at h;exact h
theorem cQ.oy{f:State→Res Bool}{k:Bool→State→Res Fl}{D:Ends}(r:SR C Z loc s sv H)(h:bg C Z loc ((f s).bind k) D):
  cQ C f sv H (fun b H'=>∃ Z' loc' s',Ext Z loc Z' loc'∧SR C Z' loc' s' sv H'∧bg C Z' loc' (k b s') D):=by
 refine⟨Z,loc,s,r,?_⟩
 cases e:f s with
 | ok rv s'=>rw[e]at h;exact fun Z' loc' H' g r'=>⟨Z',loc',s',g,r',bg.ext h g⟩
 | exc x s'=>rw[e]at h;exact fun Z' loc' H' c d=>h Z' loc' sv H' c d
 | stuck=>rw[e]at h;exact h
theorem ai.imp{f:State→Res RV}{Q Q':VK}(h:ai C f sv H Q)(q:∀ v H,Q v H→Q' v H):ai C f sv H Q':=by
 obtain⟨Z,loc,s,r,h⟩:=h
 exact⟨Z,loc,s,r,h.imp q⟩
theorem bS.imp{f:State→Res (List RV)}{Q Q':List V→Hp→Prop}(h:bS C f sv H Q)(q:∀ v H,Q v H→Q' v H):bS C f sv H Q':=by
 obtain⟨Z,loc,s,r,h⟩:=h
 refine⟨Z,loc,s,r,?_⟩
 cases e:f s with
 | ok rv s'=>rw[e]at h;exact fun Z2 l2 H2 v g2 a b=>q _ _ (h Z2 l2 H2 v g2 a b)
 | exc x s'=>rw[e]at h;exact h
 | stuck=>rw[e]at h;exact h
theorem cQ.imp{f:State→Res Bool}{Q Q':Bool→Hp→Prop}(h:cQ C f sv H Q)(q:∀ v H,Q v H→Q' v H):cQ C f sv H Q':=by
 obtain⟨Z,loc,s,r,h⟩:=h
 refine⟨Z,loc,s,r,?_⟩
 cases e:f s with
 | ok rv s'=>rw[e]at h;exact fun Z2 l2 H2 g2 a=>q _ _ (h Z2 l2 H2 g2 a)
 | exc x s'=>rw[e]at h;exact h
 | stuck=>rw[e]at h;exact h
end
theorem aQ{X:Cx}{e:Expr}{t t':TE}(h:PE X e t)(m:∀ sv H Q,t' sv H Q→t sv H Q):PE X e t':=⟨fun pins s sv H Q I q=>h.run pins s sv H Q I (m sv H Q q)⟩
theorem zH{X:Cx}{e:List Expr}{t t':TA}(h:PA X e t)(m:∀ sv H Q,t' sv H Q→t sv H Q):PA X e t':=⟨fun pos pins s sv H Q I q=>h.run pos pins s sv H Q I (m sv H Q q)⟩
theorem uO{X:Cx}{e:Expr}{t t':TT}(h:PT X e t)(m:∀ sv H Q,t' sv H Q→t sv H Q):PT X e t':=⟨fun pins s sv H Q I q=>h.run pins s sv H Q I (m sv H Q q)⟩
theorem fw{X:Cx}{e:Stmt}{t t':TS}(h:PS X e t)(m:∀ D sv H,t' D sv H→t D sv H):PS X e t':=⟨fun pins s sv H D I q=>h.run pins s sv H D I (m D sv H q)⟩
theorem yC{X:Cx}{e:List Stmt}{t t':TS}(h:PSs X e t)(m:∀ D sv H,t' D sv H→t D sv H):PSs X e t':=⟨fun pins s sv H D I q=>h.run pins s sv H D I (m D sv H q)⟩
end Vw
namespace Vw
open PySem L2 PyProof.Rows
section
variable{X:Cx}
theorem Jl:OpR X (binaryOp .Add) (fun x y H Q=>∃ l b xs zs,x=.ref l∧y=.ref b∧Rd H l (.lst xs)∧Rd H b (.lst zs)∧xs.length+zs.length≤sizeLine∧∀ p,H p=none→Q (.ref p) (upd H p (.lst (xs++zs)))):=by
 intro pins s σ H x y v u Q I rx ry h
 obtain⟨l,b,xs,zs,rfl,rfl,hH,hB,hz,q⟩:=h
 cases rx
 cases ry
 obtain⟨z,its,n,r,e⟩:=hH.ok I.hok
 obtain⟨z2,its2,n2,r2,e2⟩:=hB.ok I.hok
 have hl:=r.length
 have hl2:=r2.length
 refine PySem.P.add_list e e2 ?_ (by rw[List.size_toArray,List.size_toArray];omega)
 have ea:its.toArray++its2.toArray=(its++its2).toArray:=by simp
 rw[ea]
 exact⟨.ref _,_,I.lnew (t':=s.toks) (r.append r2) (by rw[List.length_append];omega),rfl,q _ I.fresh⟩
def Hb(K:PySem.W.Frag)(n:Bool):R2:=fun x y H Q=>∃ d e,Dp K H x d∧Dp K H y e∧d.plain=true∧e.plain=true∧min d.depth e.depth≤60∧Q (.bl (xor n (PyData.eqv d e))) H
theorem Lr(hu:X.A.units+64<cLine):OpR X (compareOp .Eq) (Hb X.K false):=by
 intro pins s σ H x y v u Q I rx ry h
 obtain⟨d,e,hd,he,sd,se,dp,q⟩:=h
 obtain⟨as,r1⟩:=Dp.reads I d x v hd rx
 obtain⟨bs,r2⟩:=Dp.reads I e y u he ry
 exact SeqAt.eq_plain r1 r2 sd se (by omega) ⟨.bl _,H,I,by simp[L2.RelV],q⟩
theorem KI(hu:X.A.units+64<cLine):OpR X (compareOp .NotEq) (Hb X.K true):=by
 intro pins s σ H x y v u Q I rx ry h
 obtain⟨d,e,hd,he,sd,se,dp,q⟩:=h
 obtain⟨as,r1⟩:=Dp.reads I d x v hd rx
 obtain⟨bs,r2⟩:=Dp.reads I e y u he ry
 exact SeqAt.ne_plain r1 r2 sd se (by omega) ⟨.bl _,H,I,by simp[L2.RelV],q⟩
def rIn(K:PySem.W.Frag)(n:Bool):R2:=fun x y H Q=>∃ d l,Dp K H x d∧(Dp K H y (.list l)∨Dp K H y (.tuple l))∧d.plain=true∧PyData.plainAll l=true∧min (PyData.depthAll l) d.depth≤60∧Q (.bl (xor n (l.any fun y=>PyData.eqv y d))) H
theorem Ld(hu:X.A.units+64<cLine):OpR X (compareOp .In) (rIn X.K false):=by
 intro pins s σ H x y v u Q I rx ry h
 obtain⟨d,l,hd,he,sd,se,dp,q⟩:=h
 obtain⟨as,r1⟩:=Dp.reads I d x v hd rx
 rcases he with he | he
 ·obtain⟨bs,r2⟩:=Dp.reads I _ y u he ry
  exact SeqAt.in_list_data r2 r1 se sd (by omega) ⟨.bl _,H,I,by simp[L2.RelV],q⟩
 ·obtain⟨bs,r2⟩:=Dp.reads I _ y u he ry
  exact SeqAt.in_tuple_data r2 r1 se sd (by omega) ⟨.bl _,H,I,by simp[L2.RelV],q⟩
theorem Jv(hu:X.A.units+64<cLine):OpR X (compareOp .NotIn) (rIn X.K true):=by
 intro pins s σ H x y v u Q I rx ry h
 obtain⟨d,l,hd,he,sd,se,dp,q⟩:=h
 obtain⟨as,r1⟩:=Dp.reads I d x v hd rx
 rcases he with he | he
 ·obtain⟨bs,r2⟩:=Dp.reads I _ y u he ry
  exact SeqAt.notIn_list_data r2 r1 se sd (by omega) ⟨.bl _,H,I,by simp[L2.RelV],q⟩
 ·obtain⟨bs,r2⟩:=Dp.reads I _ y u he ry
  exact SeqAt.notIn_tuple_data r2 r1 se sd (by omega) ⟨.bl _,H,I,by simp[L2.RelV],q⟩
def C6(n:Bool):R2:=fun y x H Q=>∃ a o,x=.ref a∧DGet H a y o∧Q (.bl (xor n o.isSome)) H
theorem IJ(hu:X.A.units+64<cLine):OpR X (compareOp .In) (C6 false):=by
 intro pins s σ H x y v u Q I rx ry h
 obtain⟨a,o,rfl,g,q⟩:=h
 cases ry
 exact d_in (by omega) I g rx fun s' I'=>⟨.bl _,H,I',by simp[L2.RelV],q⟩
theorem Ij(hu:X.A.units+64<cLine):OpR X (compareOp .NotIn) (C6 true):=by
 intro pins s σ H x y v u Q I rx ry h
 obtain⟨a,o,rfl,g,q⟩:=h
 cases ry
 exact d_notIn (by omega) I g rx fun s' I'=>⟨.bl _,H,I',by simp[L2.RelV],q⟩
def rIxD:R2:=fun x y H Q=>∃ a v,x=.ref a∧DGet H a y (some v)∧Q v H
theorem I7(hu:X.A.units+64<cLine):IxR X rIxD:=by
 intro value slice pins s σ H x y v u Q I rx ry h hs
 obtain⟨a,z,rfl,g,q⟩:=h
 cases rx
 have hT:=dict_typeIs I g
 unfold subscriptTail
 refine wpAny_bind ?_
 rw[getitemInPython_of_ne hT.not_modules]
 refine wpAny_bind (wpAny_specialOf hT PySem.F.slot_dict_getitem.lookup ?_)
 have fin:wpAny (model X.prog X.w) X.A (subscripted slice false (.ref a) u) (fun r s₃=>wpAny (model X.prog X.w) X.A (letTemporaryGo value (.ref a) r >>= fun _=>pure r) (EP X pins σ Q) X.xe s₃) X.xe s:=by
  rw[hs]
  exact wpAny_operating (d_getItem (by omega) I g ry fun w' s3 I3 rw'=>wpAny_bind (wpAny_letTemporaryGo (wpAny_pure ⟨z,H,I3,rw',q⟩)))
 first
  | exact wpAny_pure (wpAny_bind fin)
  | exact wpAny_bind (wpAny_pure (wpAny_bind fin))
  | exact wpAny_bind fin
end
def st(l:List Nat):Str:=⟨l.toArray⟩
mutual
def pd:D→PyData
 | .non=>.none
 | .bl b=>.bool b
 | .int i=>.int i
 | .str s=>.str (st s)
 | .tup l=>.tuple (cU l)
 | .lst l=>.list (cU l)
 | _=>.dict []
def cU:List D→List PyData
 | []=>[]
 | x::r=>pd x::cU r
end
mutual
theorem Ei{C:Cst}{K:PySem.W.Frag}{Z:Hp}{loc:List Addr}{s:State}{sv:L2.St}{H:Hp}(r:SR C Z loc s sv H):∀ (d:D) {v:V},aL C.cA Z d v→(pd d).plain=true→Dp K H v (pd d)
 | .non,v,q,_=>by rw[show v=_ from q];exact .non
 | .bl _,v,q,_=>by rw[show v=_ from q];exact .bl _
 | .int _,v,q,_=>by rw[show v=_ from q];exact .int _
 | .str _,v,q,_=>by rw[show v=_ from q];exact .str _
 | .tup l,v,⟨a,vs,e,z,q⟩,p=>by
  rw[e]
  exact .tup (.inl (r.zh a _ z).rd) (uk r l q p)
 | .lst l,v,⟨a,vs,e,z,q⟩,p=>by
  rw[e]
  refine .lst (.inl ?_) (uk r l q p)
  rcases z with z | ⟨o,z⟩
  ·exact(r.zh a _ z).rd
  ·exact .inr ⟨o,(r.zh a _ z).at rfl⟩
 | .dic _,v,_,p=>by cases p
 | .dit _,v,_,p=>by cases p
 | .ins _ _,v,_,p=>by cases p
 | .exc _ _,v,_,p=>by cases p
theorem uk{C:Cst}{K:PySem.W.Frag}{Z:Hp}{loc:List Addr}{s:State}{sv:L2.St}{H:Hp}(r:SR C Z loc s sv H):∀ (l:List D) {vs:List V},br C.cA Z l vs→PyData.plainAll (cU l)=true→DpAll K H vs (cU l)
 | [],vs,q,_=>by rw[show vs=_ from q];exact .nil
 | d::l,vs,⟨v,t,e,q1,q2⟩,p=>by
  rw[e]
  have p':(pd d).plain=true∧PyData.plainAll (cU l)=true:=by simpa [cU,PyData.plainAll]using p
  exact .cons (Ei r d q1 p'.1) (uk r l q2 p'.2)
end
def iS(x y:D):Bool:=PyData.eqv (pd x) (pd y)
def dj(x y:D):Bool:=(pd x).plain&&(pd y).plain&&decide (min (pd x).depth (pd y).depth≤60)
def ib(s:State):RV→RV
 | .own i=>match s.sg[i]? with
  | some (some (.v x))=>.val x
  | _=>.own i
 | r=>r
def dv(s:State)(r:RV):Option D:=
 match ib s r with
 | .val (.d x)=>some x
 | _=>none
def ob(s:State)(r:RV):Option Ob:=
 match ib s r with
 | .own i=>match s.sg[i]? with
  | some (some (.own o))=>some o
  | _=>none
 | .val (.r n)=>match s.st[n]? with
  | some .gone=>none
  | some o=>some o
  | none=>none
 | _=>none
def lv(s:State)(r:RV):Option (List Val):=
 match dv s r with
 | some (.lst l)=>some (l.map .d)
 | some _=>none
 | none=>match ob s r with
  | some (.lst l)=>some l
  | _=>none
def tv(s:State)(r:RV):Option (List Val):=
 match ib s r with
 | .val (.d (.tup l))=>some (l.map .d)
 | .val (.tp l)=>some l
 | _=>none
def jo(s:State)(r:RV):Option D:=
 match dv s r with
 | some d=>some d
 | none=>match ob s r with
  | some (.lst l)=>(toDs l).map .lst
  | _=>none
section
variable{C:Cst}{Z:Hp}{loc:List Addr}{s:State}{sv:L2.St}{H:Hp}
theorem SR.ib(r:SR C Z loc s sv H){rv:RV}{v:V}(h:aY C Z loc s sv H rv v):aY C Z loc s sv H (ib s rv) v:=by
 cases rv with
 | val x=>exact h
 | new o=>exact h
 | own i=>
  unfold Vw.ib
  dsimp only
  split
  ·rename_i x e
   obtain⟨v',h1,h2⟩:=r.vl i x e
   rw[show sv[i]? =some (some v)from h]at h1
   cases h1
   exact h2
  ·exact h
theorem SR.dv(r:SR C Z loc s sv H){rv:RV}{v:V}{x:D}(h:aY C Z loc s sv H rv v)(e:dv s rv=some x):aL C.cA Z x v:=by
 have q:=r.ib h
 unfold Vw.dv at e
 split at e
 ·rename_i y e1
  cases e
  rw[e1]at q
  exact q
 ·cases e
theorem SR.ob(r:SR C Z loc s sv H){rv:RV}{v:V}{o:Ob}(h:aY C Z loc s sv H rv v)(e:ob s rv=some o):∃ a,v=.ref a∧o≠ .gone∧Cell C.cA Z loc H a o:=by
 have q:=r.ib h
 unfold Vw.ob at e
 split at e
 ·rename_i i e1
  rw[e1]at q
  split at e
  ·rename_i o' e2
   cases e
   obtain⟨a,h1,h2,h3,_⟩:=r.ow i _ e2
   rw[show sv[i]? =some (some v)from q]at h1
   cases h1
   exact⟨a,rfl,h2,h3⟩
  ·cases e
 ·rename_i n e1
  rw[e1]at q
  obtain⟨a,h1,h2⟩:=q
  split at e
  ·cases e
  ·rename_i o' ne e2
   cases e
   exact⟨a,h2,ne,(r.cl n a _ h1 e2 ne).1⟩
  ·cases e
 ·cases e
theorem SR.lv(r:SR C Z loc s sv H){rv:RV}{v:V}{l:List Val}(h:aY C Z loc s sv H rv v)(e:lv s rv=some l):∃ a xs,v=.ref a∧Rd H a (.lst xs)∧aB C.cA Z loc l xs:=by
 unfold Vw.lv at e
 split at e
 ·rename_i l' e1
  cases e
  obtain⟨a,vs,h1,h2,h3⟩:=r.dv h e1
  refine⟨a,vs,h1,?_,cZ.mpr h3⟩
  rcases h2 with z | ⟨o,z⟩
  ·exact(r.zh a _ z).rd
  ·exact .inr ⟨o,(r.zh a _ z).at rfl⟩
 ·cases e
 ·split at e
  ·rename_i l' e1
   cases e
   obtain⟨a,h1,_,xs,h2,h3⟩:=r.ob h e1
   exact⟨a,xs,h1,.inl h2,h3⟩
  ·cases e
theorem SR.tv(r:SR C Z loc s sv H){rv:RV}{v:V}{l:List Val}(h:aY C Z loc s sv H rv v)(e:tv s rv=some l):∃ a xs,v=.ref a∧H a=some (.tup xs)∧aB C.cA Z loc l xs:=by
 have q:=r.ib h
 unfold Vw.tv at e
 split at e
 ·rename_i l' e1
  cases e
  rw[e1]at q
  obtain⟨a,vs,h1,h2,h3⟩:=q
  exact⟨a,vs,h1,(r.zh a _ h2).at rfl,cZ.mpr h3⟩
 ·rename_i l' e1
  cases e
  rw[e1]at q
  obtain⟨a,vs,h1,h2,h3⟩:=q
  exact⟨a,vs,h1,(r.zh a _ h2).at rfl,h3⟩
 ·cases e
theorem SR.jo(r:SR C Z loc s sv H){K:PySem.W.Frag}{rv:RV}{v:V}{d:D}(h:aY C Z loc s sv H rv v)(e:jo s rv=some d)(p:(pd d).plain=true):Dp K H v (pd d):=by
 unfold Vw.jo at e
 split at e
 ·rename_i d' e1
  cases e
  exact Ei r _ (r.dv h e1) p
 ·split at e
  ·rename_i l e1
   obtain⟨ds,e2,rfl⟩:=Option.map_eq_some_iff.mp e
   obtain⟨a,h1,_,xs,h2,h3⟩:=r.ob h e1
   rw[h1]
   rw[toDs_inv e2]at h3
   exact .lst (.inl (.inl h2)) (uk r ds (cZ.mp h3) p)
  ·cases e
end
end Vw
namespace Vw
open PySem L2 PyProof.Rows
def aH(x:D)(s:State):Res RV:=.ok (.val (.d x)) s
inductive Bop where
 | add | sub | mul | fdiv | mod | pow
 deriving DecidableEq
def Bop.py:Bop→Operator
 | .add=>.Add
 | .sub=>.Sub
 | .mul=>.Mult
 | .fdiv=>.FloorDiv
 | .mod=>.Mod
 | .pow=>.Pow
def oF(x y:RV)(s:State):Res RV:=
 match dv s x,dv s y with
 | some (.int i),some (.int j)=>aH (.int (i+j)) s
 | some (.str a),some (.str b)=>if a.length+b.length≤sizeLine then aH (.str (a++b)) s else .stuck
 | _,_=>match lv s x,lv s y with
  | some l,some m=>if l.length+m.length≤sizeLine then .ok (.new (.lst (l++m))) s else .stuck
  | _,_=>.stuck
def yt(x y:RV)(s:State):Res RV:=
 match dv s x,dv s y with
 | some (.int i),some (.int j)=>if i.natAbs.log2+j.natAbs.log2<1000000 then aH (.int (i*j)) s else .stuck
 | some (.str a),some (.int j)=>if 0≤j∧j<1000000∧a.length*j.toNat≤1000000 then aH (.str (List.replicate j.toNat a).flatten) s else .stuck
 | _,_=>.stuck
def binop:Bop→RV→RV→State→Res RV
 | .add,x,y,s=>oF x y s
 | .mul,x,y,s=>yt x y s
 | .sub,x,y,s=>match dv s x,dv s y with
  | some (.int i),some (.int j)=>aH (.int (i-j)) s
  | _,_=>.stuck
 | .fdiv,x,y,s=>match dv s x,dv s y with
  | some (.int i),some (.int j)=>if 0<j∧j.natAbs.log2<9000 then aH (.int (i/j)) s else .stuck
  | _,_=>.stuck
 | .mod,x,y,s=>match dv s x,dv s y with
  | some (.int i),some (.int j)=>if 0<j then aH (.int (i%j)) s else .stuck
  | _,_=>.stuck
 | .pow,x,y,s=>match dv s x,dv s y with
  | some (.int i),some (.int j)=>if 0≤j∧j≤1000000∧i.natAbs<2^64 then aH (.int (i^j.toNat)) s else .stuck
  | _,_=>.stuck
inductive Cop where
 | eq | ne | lt | le | gt | ge | is | isn | isin | notin
 deriving DecidableEq
def Cop.py:Cop→CmpOp
 | .eq=>.Eq
 | .ne=>.NotEq
 | .lt=>.Lt
 | .le=>.LtE
 | .gt=>.Gt
 | .ge=>.GtE
 | .is=>.Is
 | .isn=>.IsNot
 | .isin=>.In
 | .notin=>.NotIn
def subIn(a b:List Nat):Bool:= !(Builtin.Str.occurrences (st b) (st a) 0 b.length 1).isEmpty
def hX(a b:List Nat):Bool:=decide (a<b)
def uv(s:State)(x y:RV)(f:Int→Int→Bool)(g:List Nat→List Nat→Bool):Option Bool:=
 match dv s x,dv s y with
 | some (.int i),some (.int j)=>some (f i j)
 | some (.str a),some (.str b)=>some (g a b)
 | _,_=>none
def yO:D→Option K0
 | .int i=>some (.i i)
 | .str t=>some (.s t)
 | _=>none
def xN:List D→Option (List K0)
 | []=>some []
 | d::r=>match yO d,xN r with
  | some k,some t=>some (k::t)
  | _,_=>none
def rY{κ α:Type}[DecidableEq κ](l:List (κ×α))(k:κ):Option α:=(l.find? fun p=>decide (p.1=k)).map (·.2)
def iE{κ α:Type}[DecidableEq κ](l:List (κ×α))(k:κ)(v:α):List (κ×α):=
 if l.any fun p=>decide (p.1=k)then l.map (fun p=>if p.1=k then(p.1,v)else p)else l++[(k,v)]
def kN(s:State)(r:RV):Option (List (K0×Val)):=
 match dv s r with
 | some (.dic l)=>some (l.map fun p=>(p.1,.d p.2))
 | some _=>none
 | none=>match ob s r with
  | some (.dic _ l)=>some l
  | _=>none
def rN(s:State)(r:RV):Option (List (List K0×Val)):=
 match dv s r with
 | some (.dit l)=>some (l.map fun p=>(p.1,.d p.2))
 | some _=>none
 | none=>match ob s r with
  | some (.dit _ l)=>some l
  | _=>none
def jO(s:State)(x k:RV):Option (Option Val):=
 match kN s x,dv s k with
 | some l,some d=>(yO d).map (rY l)
 | _,_=>match rN s x,dv s k with
  | some l,some (.tup ks)=>(xN ks).map (rY l)
  | _,_=>none
def inD(s:State)(x y:RV):Option Bool:=
 match jO s y x with
 | some o=>some o.isSome
 | none=>match dv s x,dv s y with
  | some (.str a),some (.str b)=>some (subIn a b)
  | _,_=>match jo s x,jo s y with
   | some d,some (.lst l)=>if(pd d).plain&&PyData.plainAll (cU l)&&decide (min (PyData.depthAll (cU l)) (pd d).depth≤60)then some (l.any fun y=>iS y d)else none
   | some d,some (.tup l)=>if(pd d).plain&&PyData.plainAll (cU l)&&decide (min (PyData.depthAll (cU l)) (pd d).depth≤60)then some (l.any fun y=>iS y d)else none
   | _,_=>none
def EJ(s:State)(x y:RV):Option Bool:=
 match dv s y with
 | some .non=>match dv s x with
  | some .non=>some true
  | some _=>some false
  | none=>match ob s x with
   | some _=>some false
   | none=>(tv s x).map fun _=>false
 | _=>none
def sQ(s:State)(x y:RV):Option Bool:=
 match jo s x,jo s y with
 | some a,some b=>if dj a b then some (iS a b)else none
 | _,_=>none
def fL:Cop→State→RV→RV→Option Bool
 | .eq,s,x,y=>sQ s x y
 | .ne,s,x,y=>(sQ s x y).map not
 | .lt,s,x,y=>uv s x y (fun i j=>decide (i<j)) hX
 | .le,s,x,y=>uv s x y (fun i j=>decide (i≤j)) fun a b=> !hX b a
 | .gt,s,x,y=>uv s x y (fun i j=>decide (j<i)) fun a b=>hX b a
 | .ge,s,x,y=>uv s x y (fun i j=>decide (j≤i)) fun a b=> !hX a b
 | .is,s,x,y=>EJ s x y
 | .isn,s,x,y=>(EJ s x y).map not
 | .isin,s,x,y=>inD s x y
 | .notin,s,x,y=>(inD s x y).map not
def vA(C:Cst)(f:RV→RV→State→Res RV)(r:R2):Prop:=
 ∀ Z loc s sv H x y u v Q,SR C Z loc s sv H→aY C Z loc s sv H x u→aY C Z loc s sv H y v→EPost C Z loc sv (f x y s) Q→r u v H Q
def H8(C:Cst)(f:State→RV→RV→Option Bool)(r:R2):Prop:=
 ∀ Z loc s sv H x y u v b Q,SR C Z loc s sv H→aY C Z loc s sv H x u→aY C Z loc s sv H y v→f s x y=some b→Q (.bl b) H→r u v H Q
section
variable{C:Cst}{Z:Hp}{loc:List Addr}{s:State}{sv:L2.St}{H:Hp}{Q:VK}
theorem EPost.val{x:Val}{v:V}(h:EPost C Z loc sv (.ok (.val x) s) Q)(r:SR C Z loc s sv H)(q:bh C.cA Z loc x v):Q v H:=h Z loc H v (Ext.refl _ _) r q
theorem EPost.aH{x:D}{v:V}(h:EPost C Z loc sv (aH x s) Q)(r:SR C Z loc s sv H)(q:aL C.cA Z x v):Q v H:=EPost.val h r q
theorem EPost.new{o:Ob}{u:HO}{p:Addr}(h:EPost C Z loc sv (.ok (.new o) s) Q)(r:SR C Z loc s sv H)(np:H p=none)(ne:o≠ .gone)(q:Cell C.cA Z loc (upd H p u) p o):Q (.ref p) (upd H p u):=
 h Z loc _ _ (Ext.refl _ _) (r.grow (bp np)) ⟨p,rfl,ne,q,r.free np⟩
theorem bu:∀ {l:List Val} {xs:List V},aB C.cA Z loc l xs→l.length=xs.length
 | [],xs,h=>by rw[show xs=_ from h];rfl
 | x::l,xs,⟨v,r,e,q,t⟩=>by rw[e,List.length_cons,List.length_cons,bu t]
theorem ni:∀ {l m:List Val} {xs ys:List V},aB C.cA Z loc l xs→aB C.cA Z loc m ys→aB C.cA Z loc (l++m) (xs++ys)
 | [],m,xs,ys,h,g=>by rw[show xs=_ from h];exact g
 | x::l,m,xs,ys,⟨v,r,e,q,t⟩,g=>by rw[e];exact⟨v,r++ys,rfl,q,ni t g⟩
theorem FY:vA C oF (fun x y H Q=>rI0 (fun i j=>.int (i+j)) x y H Q∨((∃ i j,x=.str i∧y=.str j∧i.length+j.length≤sizeLine∧Q (.str (i++j)) H)∨
  ∃ l b xs zs,x=.ref l∧y=.ref b∧Rd H l (.lst xs)∧Rd H b (.lst zs)∧xs.length+zs.length≤sizeLine∧∀ p,H p=none→Q (.ref p) (upd H p (.lst (xs++zs))))):=by
 intro Z loc s sv H x y u v Q r hx hy h
 unfold oF at h
 split at h
 ·rename_i i j e1 e2
  exact .inl ⟨i,j,r.dv hx e1,r.dv hy e2,h.aH r rfl⟩
 ·rename_i a b e1 e2
  split at h
  ·rename_i hl
   refine .inr (.inl ⟨⟨a.toArray⟩,⟨b.toArray⟩,r.dv hx e1,r.dv hy e2,by simpa [Str.length]using hl,h.aH r ?_⟩)
   show V.str _=V.str _
   congr 1
   show Str.mk (a.toArray++b.toArray)=_
   simp
  ·exact h.elim
 ·split at h
  ·rename_i l m e1 e2
   split at h
   ·rename_i hl
    obtain⟨a,xs,h1,h2,h3⟩:=r.lv hx e1
    obtain⟨b,ys,h4,h5,h6⟩:=r.lv hy e2
    refine .inr (.inr ⟨a,b,xs,ys,h1,h4,h2,h5,by rw[←bu h3,←bu h6];exact hl,fun p np=>h.new r np (by simp) ⟨_,upd_same,ni h3 h6⟩⟩)
   ·exact h.elim
  ·exact h.elim
end
section
variable{X:Cx}
theorem JI:OpR X (binaryOp .Add) (fun x y H Q=>rI0 (fun i j=>.int (i+j)) x y H Q∨((∃ i j,x=.str i∧y=.str j∧i.length+j.length≤sizeLine∧Q (.str (i++j)) H)∨
  ∃ l b xs zs,x=.ref l∧y=.ref b∧Rd H l (.lst xs)∧Rd H b (.lst zs)∧xs.length+zs.length≤sizeLine∧∀ p,H p=none→Q (.ref p) (upd H p (.lst (xs++zs))))):=
 op_add.or (op_add_str.or Jl)
def MY:R2:=fun x y H Q=>∃ (a:Str) (j:Int),x=.str a∧y=.int j∧0≤j∧j<1000000∧a.length*j.toNat≤1000000∧Q (.str ⟨(List.replicate j.toNat a.cps.toList).flatten.toArray⟩) H
theorem vH(a:Array Nat):∀ (n:Nat) (b:Array Nat),(List.replicate n a).foldl (· ++ ·) b=(b.toList++(List.replicate n a.toList).flatten).toArray
 | 0,b=>by simp
 | n+1,b=>by
  rw[List.replicate_succ,List.foldl_cons,vH a n]
  simp[List.replicate_succ]
theorem Hq:OpR X (binaryOp .Mult) MY:=by
 intro pins s σ H x y v u Q I rx ry h
 obtain⟨a,j,rfl,rfl,h0,h1,h2,q⟩:=h
 obtain⟨t,rfl⟩:=rx
 obtain⟨t',rfl⟩:=ry
 have b63:(2:Int)^63=9223372036854775808:=by decide
 refine PySem.P.mul_str (by simp;omega) (fun g1 g2 g=>?_) (fun g1 g2=>?_) ?_
 ·have hj:(1:Int)≤j:=by omega
  have e1:(a.length:Int)*j≤1000000:=by
   have:((a.length*j.toNat:Nat):Int)≤1000000:=by omega
   rw[Int.natCast_mul,Int.toNat_of_nonneg h0]at this
   exact this
  have e2:(a.length:Int)≤1000000:=by
   have:a.length≤a.length*j.toNat:=Nat.le_mul_of_pos_right _ (by omega)
   omega
  have e3:(9223372036853:Int)≤(2^63- 1)/j:=by
   refine Int.le_ediv_of_mul_le (by omega) ?_
   rw[b63]
   omega
  omega
 ·have h3:a.length*j.toNat≤1000000:=h2
  unfold Builtin.Str.tooLong
  rw[sizeLine_eq]
  simp
  omega
 ·by_cases c1:j<1
  ·rw[if_pos c1]
   have e0:j=0:=by omega
   subst e0
   exact⟨by decide,.str _,H,I.tok _,⟨_,rfl⟩,q⟩
  ·rw[if_neg c1]
   by_cases c2:(j==1||a.length==0)=true
   ·rw[if_pos c2]
    refine⟨.str a,H,I,⟨_,rfl⟩,?_⟩
    have ea:(⟨(List.replicate j.toNat a.cps.toList).flatten.toArray⟩:Str)=a:=by
     refine Str.ext' (Array.toList_inj.mp ?_)
     simp at c2
     rcases c2 with c2 | c2
     ·subst c2;simp
     ·have:a.cps.toList=[]:=List.length_eq_zero_iff.mp (by simpa [Str.length]using c2)
      simp[this]
    rw[ea]at q
    exact q
   ·rw[if_neg c2]
    have ea:(List.replicate j.toNat a.cps).foldl (· ++ ·) #[]=(List.replicate j.toNat a.cps.toList).flatten.toArray:=by
     rw[vH];simp
    rw[ea]
    refine⟨?_,.str _,H,I.tok _,⟨_,rfl⟩,q⟩
    show(List.replicate j.toNat a.cps.toList).flatten.toArray.size≤_
    rw[List.size_toArray,List.length_flatten,List.map_replicate,List.sum_replicate_nat,sizeLine_eq]
    have h3:a.cps.toList.length=a.length:=rfl
    rw[h3,Nat.mul_comm]
    omega
end
end Vw
namespace Vw
open PySem L2 PyProof.Rows
section
variable{C:Cst}{X:Cx}
theorem qO{f:RV→RV→State→Res RV}{c:Int→Int→Prop}{g:Int→Int→Int}
  (h:∀ x y s,(∃ i j,dv s x=some (.int i)∧dv s y=some (.int j)∧c i j∧f x y s=aH (.int (g i j)) s)∨f x y s=.stuck):vA C f (rI c fun i j=>.int (g i j)):=by
 intro Z loc s sv H x y u v Q r hx hy q
 rcases h x y s with⟨i,j,e1,e2,hc,e⟩ | e
 ·rw[e]at q
  exact⟨i,j,r.dv hx e1,r.dv hy e2,hc,q.aH r rfl⟩
 ·rw[e]at q
  exact q.elim
theorem yZ(op:Bop):∃ r,OpR X (binaryOp op.py) r∧vA C (binop op) r:=by
 cases op with
 | add=>exact⟨_,JI,FY⟩
 | sub=>exact⟨_,opI (C:=fun _ _=>True) fun _ _ _ _ _ _ _ _ q=>sub_int q,qO fun x y s=>by
   show(_∨(match dv s x,dv s y with | some (.int i),some (.int j)=>_ | _,_=>_)=Res.stuck)
   split
   ·rename_i i j e1 e2;exact .inl ⟨i,j,e1,e2,trivial,by unfold binop;simp only[e1,e2]⟩
   ·exact .inr rfl⟩
 | mul=>
  refine⟨_,op_mulW.or Hq,?_⟩
  intro Z loc s sv H x y u v Q r hx hy q
  unfold binop yt at q
  dsimp only at q
  split at q
  ·rename_i i j e1 e2
   split at q
   ·rename_i hc
    exact .inl ⟨i,j,r.dv hx e1,r.dv hy e2,hc,q.aH r rfl⟩
   ·exact q.elim
  ·rename_i a j e1 e2
   split at q
   ·rename_i hc
    refine .inr ⟨⟨a.toArray⟩,j,r.dv hx e1,r.dv hy e2,hc.1,hc.2.1,by simpa [Str.length]using hc.2.2,q.aH r ?_⟩
    show V.str _=V.str _
    simp
   ·exact q.elim
  ·exact q.elim
 | fdiv=>exact⟨_,op_fdivW,qO fun x y s=>by
   show(_∨(match dv s x,dv s y with | some (.int i),some (.int j)=>_ | _,_=>_)=Res.stuck)
   split
   ·rename_i i j e1 e2
    by_cases hc:0<j∧j.natAbs.log2<9000
    ·exact .inl ⟨i,j,e1,e2,hc,by unfold binop;simp only[e1,e2,if_pos hc]⟩
    ·exact .inr (if_neg hc)
   ·exact .inr rfl⟩
 | mod=>exact⟨_,op_mod,qO fun x y s=>by
   show(_∨(match dv s x,dv s y with | some (.int i),some (.int j)=>_ | _,_=>_)=Res.stuck)
   split
   ·rename_i i j e1 e2
    by_cases hc:0<j
    ·exact .inl ⟨i,j,e1,e2,hc,by unfold binop;simp only[e1,e2,if_pos hc]⟩
    ·exact .inr (if_neg hc)
   ·exact .inr rfl⟩
 | pow=>exact⟨_,op_pow,qO fun x y s=>by
   show(_∨(match dv s x,dv s y with | some (.int i),some (.int j)=>_ | _,_=>_)=Res.stuck)
   split
   ·rename_i i j e1 e2
    by_cases hc:0≤j∧j≤1000000∧i.natAbs<2^64
    ·exact .inl ⟨i,j,e1,e2,hc,by unfold binop;simp only[e1,e2,if_pos hc]⟩
    ·exact .inr (if_neg hc)
   ·exact .inr rfl⟩
end
section
variable{C:Cst}{Z:Hp}{loc:List Addr}{s:State}{sv:L2.St}{H:Hp}
theorem Ap{d:D}{k:K0}{v:V}(e:yO d=some k)(h:aL C.cA Z d v):v=kV (kz k):=by
 cases d<;> simp[yO]at e
 ·subst e;exact h
 ·subst e;exact h
theorem yK:∀ {l:List D} {ks:List K0} {vs:List V},xN l=some ks→br C.cA Z l vs→vs=(ks.map kz).map kV
 | [],ks,vs,e,h=>by cases e;rw[show vs=_ from h];rfl
 | d::l,ks,vs,e,⟨v,r,e1,q,t⟩=>by
  unfold xN at e
  split at e
  ·rename_i k ks' e2 e3
   cases e
   rw[e1,Ap e2 q,yK e3 t]
   rfl
  ·cases e
def yN(C:Cst)(Z:Hp)(loc:List Addr):Option Val→Option V→Prop
 | some x,some v=>bh C.cA Z loc x v
 | none,none=>True
 | _,_=>False
theorem vC{κ α:Type}[DecidableEq κ](k':κ)(x:α)(l:List (κ×α))(k:κ):rY ((k',x)::l) k=if k'=k then some x else rY l k:=by
 unfold rY
 by_cases e:k'=k<;> simp[List.find?_cons,e]
theorem vX:∀ {l:List (K0×Val)} {ws:List (Key×V)} (k:K0),cj C.cA Z loc l ws→yN C Z loc (rY l k) (valV ws (kz k))
 | [],ws,k,h=>by rw[show ws=_ from h];exact trivial
 | (k',x)::l,ws,k,⟨v,r,e,q,t⟩=>by
  rw[e,vC]
  by_cases hk:k'=k
  ·rw[if_pos hk,valV_pos (by rw[hk])];exact q
  ·rw[if_neg hk,valV_neg (fun z=>hk (uc z))];exact vX k t
theorem kZ:∀ {a b:List K0},a.map kz=b.map kz→a=b
 | [],[],_=>rfl
 | [],_::_,h=>by simp at h
 | _::_,[],h=>by simp at h
 | x::a,y::b,h=>by
  simp only[List.map_cons,List.cons.injEq]at h
  rw[uc h.1,kZ h.2]
theorem vT:∀ {l:List (List K0×Val)} {ws:List (List Key×V)} (k:List K0),cz C.cA Z loc l ws→yN C Z loc (rY l k) (valV ws (k.map kz))
 | [],ws,k,h=>by rw[show ws=_ from h];exact trivial
 | (k',x)::l,ws,k,⟨v,r,e,q,t⟩=>by
  rw[e,vC]
  by_cases hk:k'=k
  ·rw[if_pos hk,valV_pos (by rw[hk])];exact q
  ·rw[if_neg hk,valV_neg (fun z=>hk (kZ z))];exact vT k t
theorem wb.rd{H:Hp}{a:Addr}{u:HO}:∀ {k:Bool},wb H a u k→Rd H a u
 | false,q=>.inl q
 | true,q=>.inr q
theorem SR.kN(r:SR C Z loc s sv H){rv:RV}{v:V}{l:List (K0×Val)}(h:aY C Z loc s sv H rv v)(e:kN s rv=some l):∃ a ws,v=.ref a∧Rd H a (.dK ws)∧cj C.cA Z loc l ws:=by
 unfold Vw.kN at e
 split at e
 ·rename_i l' e1
  cases e
  obtain⟨a,ws,h1,h2,h3⟩:=r.dv h e1
  exact⟨a,ws,h1,(r.zh a _ h2).rd,oJ.mpr h3⟩
 ·cases e
 ·split at e
  ·rename_i k l' e1
   cases e
   obtain⟨a,h1,_,ws,h2,h3⟩:=r.ob h e1
   exact⟨a,ws,h1,h2.rd,h3⟩
  ·cases e
theorem SR.rN(r:SR C Z loc s sv H){rv:RV}{v:V}{l:List (List K0×Val)}(h:aY C Z loc s sv H rv v)(e:rN s rv=some l):∃ a ws,v=.ref a∧Rd H a (.dT ws)∧cz C.cA Z loc l ws:=by
 unfold Vw.rN at e
 split at e
 ·rename_i l' e1
  cases e
  obtain⟨a,ws,h1,h2,h3⟩:=r.dv h e1
  exact⟨a,ws,h1,(r.zh a _ h2).rd,og.mpr h3⟩
 ·cases e
 ·split at e
  ·rename_i k l' e1
   cases e
   obtain⟨a,h1,_,ws,h2,h3⟩:=r.ob h e1
   exact⟨a,ws,h1,h2.rd,h3⟩
  ·cases e
theorem SR.jO(r:SR C Z loc s sv H){x k:RV}{u v:V}{o:Option Val}(hx:aY C Z loc s sv H x u)(hk:aY C Z loc s sv H k v)(e:jO s x k=some o):
  ∃ a w,u=.ref a∧DGet H a v w∧yN C Z loc o w:=by
 unfold Vw.jO at e
 split at e
 ·rename_i l d e1 e2
  obtain⟨k0,e3,rfl⟩:=Option.map_eq_some_iff.mp e
  obtain⟨a,ws,h1,h2,h3⟩:=r.kN hx e1
  exact⟨a,_,h1,.inl ⟨ws,kz k0,h2,Ap e3 (r.dv hk e2),rfl⟩,vX k0 h3⟩
 ·split at e
  ·rename_i l ks e1 e2
   obtain⟨k0,e3,rfl⟩:=Option.map_eq_some_iff.mp e
   obtain⟨a,ws,h1,h2,h3⟩:=r.rN hx e1
   obtain⟨b,vs,h4,h5,h6⟩:=r.dv hk e2
   refine⟨a,_,h1,.inr ⟨ws,k0.map kz,b,h2,h4,?_,rfl⟩,vT k0 h3⟩
   rw[←yK e3 h6]
   exact(r.zh b _ h5).at rfl
  ·cases e
theorem yN.isSome{o:Option Val}{w:Option V}(h:yN C Z loc o w):o.isSome=w.isSome:=by
 cases o<;> cases w<;> first | rfl | exact h.elim
end
section
variable{C:Cst}{X:Cx}
theorem AJ{op:CmpOp}{f:Int→Int→Bool}{g:List Nat→List Nat→Bool}
  (h1:OpR X (compareOp op) (rI0 fun i j=>.bl (f i j))) (h2:OpR X (compareOp op) (fun x y H Q=>∃ i j:Str,x=.str i∧y=.str j∧Q (.bl (g i.cps.toList j.cps.toList)) H)):
  ∃ r,OpR X (compareOp op) r∧H8 C (fun s x y=>uv s x y f g) r:=by
 refine⟨_,h1.or h2,?_⟩
 intro Z loc s sv H x y u v b Q r hx hy e q
 unfold uv at e
 dsimp only at e
 split at e
 ·rename_i i j e1 e2
  cases e
  exact .inl ⟨i,j,r.dv hx e1,r.dv hy e2,q⟩
 ·rename_i i j e1 e2
  cases e
  exact .inr ⟨⟨i.toArray⟩,⟨j.toArray⟩,r.dv hx e1,r.dv hy e2,by simpa using q⟩
 ·cases e
theorem Kn(n:Bool){Z:Hp}{loc:List Addr}{s:State}{sv:L2.St}{H:Hp}{x y:RV}{u v:V}{b:Bool}{Q:VK}(r:SR C Z loc s sv H)(hx:aY C Z loc s sv H x u)(hy:aY C Z loc s sv H y v)(e:sQ s x y=some b)
  (q:Q (.bl (xor n b)) H):Hb X.K n u v H Q:=by
 unfold sQ at e
 split at e
 ·rename_i d d' e1 e2
  split at e
  ·rename_i hc
   cases e
   simp only[dj,Bool.and_eq_true,decide_eq_true_eq]at hc
   exact⟨pd d,pd d',r.jo hx e1 hc.1.1,r.jo hy e2 hc.1.2,hc.1.1,hc.1.2,hc.2,q⟩
  ·cases e
 ·cases e
theorem uQ(d:D):∀ l:List D,(cU l).any (fun y=>PyData.eqv y (pd d))=l.any fun y=>iS y d
 | []=>rfl
 | x::l=>by
  show(_||_)=(_||_)
  rw[uQ d l]
  rfl
theorem Kh(n:Bool){Z:Hp}{loc:List Addr}{s:State}{sv:L2.St}{H:Hp}{x y:RV}{u v:V}{b:Bool}(r:SR C Z loc s sv H)(hx:aY C Z loc s sv H x u)(hy:aY C Z loc s sv H y v)(e:EJ s x y=some b):
  v=.non∧decide (u=.non)=b:=by
 unfold EJ at e
 split at e
 ·rename_i e1
  refine⟨r.dv hy e1,?_⟩
  split at e
  ·rename_i e2
   cases e
   exact decide_eq_true (r.dv hx e2)
  ·rename_i d ne e2
   cases e
   refine decide_eq_false fun z=>?_
   have q:=r.dv hx e2
   subst z
   cases d with
   | non=>exact ne rfl
   | bl _=>cases q
   | int _=>cases q
   | str _=>cases q
   | tup l=>obtain⟨_,_,h,_⟩:=q;cases h
   | lst l=>obtain⟨_,_,h,_⟩:=q;cases h
   | dic l=>obtain⟨_,_,h,_⟩:=q;cases h
   | dit l=>obtain⟨_,_,h,_⟩:=q;cases h
   | ins c l=>obtain⟨_,_,_,h,_⟩:=q;cases h
   | exc c l=>obtain⟨_,_,_,h,_⟩:=q;cases h
  ·split at e
   ·rename_i o e2
    cases e
    obtain⟨a,h,_⟩:=r.ob hx e2
    rw[h];rfl
   ·obtain⟨l,e2,e3⟩:=Option.map_eq_some_iff.mp e
    obtain⟨a,xs,h,_⟩:=r.tv hx e2
    rw[h,←e3];rfl
 ·cases e
theorem Ke(n:Bool){Z:Hp}{loc:List Addr}{s:State}{sv:L2.St}{H:Hp}{x y:RV}{u v:V}{b:Bool}{Q:VK}(r:SR C Z loc s sv H)(hx:aY C Z loc s sv H x u)(hy:aY C Z loc s sv H y v)(e:inD s x y=some b)
  (q:Q (.bl (xor n b)) H):C6 n u v H Q∨((∃ i j,u=.str i∧v=.str j∧Q (.bl (xor n (!(Builtin.Str.occurrences j i 0 j.length 1).isEmpty))) H)∨rIn X.K n u v H Q):=by
 unfold inD at e
 split at e
 ·rename_i o e1
  cases e
  obtain⟨a,w,h1,h2,h3⟩:=r.jO hy hx e1
  exact .inl ⟨a,w,h1,h2,by rw[←h3.isSome];exact q⟩
 ·split at e
  ·rename_i i j e1 e2
   cases e
   exact .inr (.inl ⟨⟨i.toArray⟩,⟨j.toArray⟩,r.dv hx e1,r.dv hy e2,by simpa [subIn,st,Str.length]using q⟩)
  ·split at e
   ·rename_i d l e1 e2
    split at e
    ·rename_i hc
     cases e
     simp only[Bool.and_eq_true,decide_eq_true_eq]at hc
     refine .inr (.inr ⟨pd d,cU l,r.jo hx e1 hc.1.1,.inl (r.jo hy e2 hc.1.2),hc.1.1,hc.1.2,hc.2,?_⟩)
     rw[uQ];exact q
    ·cases e
   ·rename_i d l e1 e2
    split at e
    ·rename_i hc
     cases e
     simp only[Bool.and_eq_true,decide_eq_true_eq]at hc
     refine .inr (.inr ⟨pd d,cU l,r.jo hx e1 hc.1.1,.inr (r.jo hy e2 hc.1.2),hc.1.1,hc.1.2,hc.2,?_⟩)
     rw[uQ];exact q
    ·cases e
   ·cases e
theorem t8(hu:X.A.units+64<cLine)(op:Cop):∃ r,OpR X (compareOp op.py) r∧H8 C (fL op) r:=by
 cases op with
 | eq=>exact⟨_,Lr hu,fun Z loc s sv H x y u v b Q r hx hy e q=>Kn false r hx hy e (by simpa using q)⟩
 | ne=>exact⟨_,KI hu,fun Z loc s sv H x y u v b Q r hx hy e q=>by
   obtain⟨b',e1,rfl⟩:=Option.map_eq_some_iff.mp e
   exact Kn true r hx hy e1 (by simpa using q)⟩
 | lt=>exact AJ op_lt op_lt_str
 | le=>exact AJ op_le op_le_str
 | gt=>exact AJ op_gt op_gt_str
 | ge=>exact AJ op_ge op_ge_str
 | is=>exact⟨_,op_isN,fun Z loc s sv H x y u v b Q r hx hy e q=>by
   obtain⟨h1,h2⟩:=Kh false r hx hy e
   exact⟨h1,by rw[h2];exact q⟩⟩
 | isn=>exact⟨_,op_notN,fun Z loc s sv H x y u v b Q r hx hy e q=>by
   obtain⟨b',e1,rfl⟩:=Option.map_eq_some_iff.mp e
   obtain⟨h1,h2⟩:=Kh false r hx hy e1
   exact⟨h1,by rw[h2];exact q⟩⟩
 | isin=>exact⟨_,(IJ hu).or (op_in_str.or (Ld hu)),fun Z loc s sv H x y u v b Q r hx hy e q=>by
   rcases Ke (X:=X) false r hx hy e (by simpa using q)with h | ⟨i,j,h1,h2,h3⟩ | h
   ·exact .inl h
   ·exact .inr (.inl ⟨i,j,h1,h2,by simpa using h3⟩)
   ·exact .inr (.inr h)⟩
 | notin=>exact⟨_,(Ij hu).or (L2.op_notin_str.or (Jv hu)),fun Z loc s sv H x y u v b Q r hx hy e q=>by
   obtain⟨b',e1,rfl⟩:=Option.map_eq_some_iff.mp e
   rcases Ke (X:=X) true r hx hy e1 (by simpa using q)with h | ⟨i,j,h1,h2,h3⟩ | h
   ·exact .inl h
   ·exact .inr (.inl ⟨i,j,h1,h2,by simpa using h3⟩)
   ·exact .inr (.inr h)⟩
end
end Vw
namespace Vw
open PySem L2 PyProof.Rows
def notStar:Expr→Bool
 | .Starred .. =>false
 | _=>true
def A9:Expr→Bool
 | .Call (.Name x _) [] [] _=>x != "super"
 | _=>true
theorem aX{e:Expr}{es:List Expr}{env:Env}(h:notStar e=true):starEach (e::es) env=(false,eval e env)::starEach es env:=by
 cases e<;> first | rfl | cases h
theorem c5{pos:Pos}{env:Env}:∀ {es:List Expr},es.all notStar=true→(backTo pos (starEach es env)).any (·.1)=false
 | [],_=>rfl
 | e::es,h=>by
  simp only[List.all_cons,Bool.and_eq_true]at h
  rw[aX h.1]
  show(false||_)=false
  rw[Bool.false_or]
  exact c5 h.2
theorem xQ{pos:Pos}{env:Env}:∀ {es:List Expr},es.all notStar=true→(backTo pos (starEach es env)).all (fun x=> !x.1)=true
 | [],_=>rfl
 | e::es,h=>by
  simp only[List.all_cons,Bool.and_eq_true]at h
  rw[aX h.1]
  show(true&&_)=true
  rw[Bool.true_and]
  exact xQ h.2
theorem HY{pos:Pos}{env:Env}{es:List Expr}(h:es.all notStar=true)(hl:es.length<20):
  ((backTo pos (starEach es env)).all (fun x=> !x.1)&&(backToKw pos (keywordEach [] env)).all (fun x=>x.1.isSome)
   &&decide (es.length+([]:List Keyword).length+(if([]:List Keyword).isEmpty then 0 else 1)<30))=true:=by
 rw[xQ h]
 show(true&&true&&decide (es.length+0+0<30))=true
 simp
 omega
theorem Ez{o:Expr}{a:Str}{env:Env}{w:Sem Value}(h:A9 o=true):attributeBase o a env w=w:=by
 unfold attributeBase
 split
 ·rename_i x p q
  have hx:(x != "super")=true:=by
   unfold A9 at h
   exact h
  simp[hx]
 ·rfl
def vK:Expr→Bool
 | .UnaryOp .Not _ _=>false
 | .BoolOp .. =>false
 | .IfExp .. =>false
 | .Compare .. =>false
 | _=>true
theorem GC{e:Expr}{env:Env}(h:vK e=true):∀ whole,isTrue e env whole=(do let v ←whole;standAt e.pos;holding [v] (truthy v)):=by
 intro w
 cases e<;> first | rfl | cases h | skip
 rename_i op x p
 cases op<;> first | rfl | cases h
def cg:Expr→Bool
 | .Set .. =>false
 | _=>true
theorem so{op:CmpOp}{e:Expr}(h:cg e=true):behindInMarks op e=false:=by
 cases e<;> first | rfl | cases h
theorem fold_ok{e:Expr}{env:Env}(h:cg e=true):∀ x,foldedSetIterable e env x=pure x:=by
 intro x
 cases e<;> first | rfl | cases h
def g8:Expr→Bool
 | .ListComp .. =>false
 | .SetComp .. =>false
 | .DictComp .. =>false
 | _=>true
theorem qT{e:Expr}{t:Option Expr}{n:Nat}{env:Env}(h:g8 e=true):swapsWith e t n env=pure false:=by
 cases e<;> first | rfl | cases h
def l9:Expr→Bool
 | .Slice .. =>false
 | _=>true
theorem A4{e:Expr}(h:l9 e=true):PlainIx e:=by
 intro o i
 cases e<;> first | rfl | cases h
def ae(i:Nat)(s:State):Res RV:=
 match s.sg[i]? with
 | some (some (.v x))=>.ok (.val x) s
 | some (some (.own _))=>.ok (.own i) s
 | _=>.stuck
def fD(d:D)(s:State):Res RV:=aH d s
def ev(f:State→Res RV)(s:State):Res RV:=(f s).bind settle
def ao(fa fb:State→Res RV)(k:RV→RV→State→Res RV)(s:State):Res RV:=(ev fa s).bind fun x s=>(ev fb s).bind fun y s=>k x y s
def aI(op:Cop)(x y:RV)(s:State):Res RV:=
 match fL op s x y with
 | some b=>aH (.bl b) s
 | none=>.stuck
def vO(r:RV)(s:State):Res Bool:=
 match dv s r with
 | some (.bl b)=>.ok b s
 | _=>.stuck
def aT(f:State→Res RV)(s:State):Res Bool:=(ev f s).bind vO
def aj:List (State→Res RV)→State→Res (List RV)
 | [],s=>.ok [] s
 | f::r,s=>(ev f s).bind fun x s=>(aj r s).bind fun xs s=>.ok (x::xs) s
def aD:List RV→State→Res (List Val)
 | [],s=>.ok [] s
 | r::rs,s=>(bG r s).bind fun x s=>(aD rs s).bind fun xs s=>.ok (x::xs) s
def fP(l:List Val):Val:=
 match toDs l with
 | some ds=>.d (.tup ds)
 | none=>.tp l
def y5(rs:List RV)(s:State):Res RV:=(aD rs s).bind fun l s=>if l.length≤sizeLine then .ok (.val (fP l)) s else .stuck
def xy(rs:List RV)(s:State):Res RV:=(aD rs s).bind fun l s=>if l.length≤sizeLine then .ok (.new (.lst l)) s else .stuck
def CN(x:RV)(s:State):Res RV:=
 match dv s x with
 | some (.int i)=>aH (.int (-i)) s
 | _=>.stuck
def kE:List (State→Res Bool)→State→Res Bool
 | [],s=>.ok true s
 | [f],s=>f s
 | f::r,s=>(f s).bind fun b s=>if b=true then kE r s else .ok false s
def lB:List (State→Res Bool)→State→Res Bool
 | [],s=>.ok false s
 | [f],s=>f s
 | f::r,s=>(f s).bind fun b s=>if b=true then .ok true s else lB r s
def fj(f:State→Res Bool)(s:State):Res Bool:=(f s).bind fun b s=>.ok (!b) s
def eg:List (State→Res RV)→State→Res RV
 | [],s=>.stuck
 | [f],s=>ev f s
 | f::r,s=>(aT f s).bind fun b s=>if b=true then eg r s else aH (.bl false) s
def jE:List (State→Res RV)→State→Res RV
 | [],s=>.stuck
 | [f],s=>ev f s
 | f::r,s=>(aT f s).bind fun b s=>if b=true then aH (.bl true) s else jE r s
theorem Res.bind_assoc{α β γ:Type}(r:Res α)(f:α→State→Res β)(g:β→State→Res γ):(r.bind f).bind g=r.bind fun a s=>(f a s).bind g:=by
 cases r<;> rfl
section
variable{C:Cst}{Z Z':Hp}{loc loc':List Addr}{s s':State}{sv:L2.St}{H:Hp}
theorem ai.zA{f:State→Res RV}{α:Type}{k:RV→State→Res α}{PO:Hp→List Addr→Res α→Prop}{Q:VK}
  (r:SR C Z loc s sv H) (h:PO Z loc ((ev f s).bind k)) (ext:∀ Z' loc' t,Ext Z loc Z' loc'→PO Z loc t→PO Z' loc' t)
  (hx:∀ x s',PO Z loc (.exc x s')→∀ Z' loc' H' c d,Ext Z loc Z' loc'→SR C Z' loc' s' sv H'→jJ C Z' H' x c d→C.W c d sv H') (hs:¬ PO Z loc .stuck)
  (hq:∀ v H',(∃ Z' loc' s' rv,Ext Z loc Z' loc'∧SR C Z' loc' s' sv H'∧tF rv∧aY C Z' loc' s' sv H' rv v∧PO Z' loc' (k rv s'))→Q v H'):ai C f sv H Q:=by
 refine⟨Z,loc,s,r,?_⟩
 unfold ev at h
 cases e:f s with
 | stuck=>rw[e]at h;exact(hs h).elim
 | exc x s'=>rw[e]at h;exact hx x s' h
 | ok rv s'=>
  rw[e]at h
  intro Z1 l1 H1 v g r1 q
  simp only[Res.aa]at h
  cases e2:settle rv s' with
  | stuck=>rw[e2]at h;exact(hs h).elim
  | exc x s2=>exact absurd e2 vz
  | ok rv' s2=>
   rw[e2]at h
   obtain⟨rfl,st,Z2,g2,r2,q2⟩:=r1.settle q e2
   exact hq v H1 ⟨Z2,l1,s2,rv',g.trans g2,r2,st,q2,ext _ _ _ (g.trans g2) h⟩
theorem ai.m8{f:State→Res RV}{k:RV→State→Res RV}{Q:VK}(r:SR C Z loc s sv H)(h:EPost C Z loc sv ((ev f s).bind k) Q):
  ai C f sv H (fun v H'=>∃ Z' loc' s' rv,Ext Z loc Z' loc'∧SR C Z' loc' s' sv H'∧tF rv∧aY C Z' loc' s' sv H' rv v∧EPost C Z' loc' sv (k rv s') Q):=
 ai.zA (PO:=fun Z loc t=>EPost C Z loc sv t Q) r h (fun _ _ _ g q=>q.ext g) (fun _ _ q=>q) (fun q=>q) fun _ _ q=>q
theorem ai.KG{f:State→Res RV}{k:RV→State→Res (List RV)}{Q:List V→Hp→Prop}(r:SR C Z loc s sv H)(h:oG C Z loc sv ((ev f s).bind k) Q):
  ai C f sv H (fun v H'=>∃ Z' loc' s' rv,Ext Z loc Z' loc'∧SR C Z' loc' s' sv H'∧tF rv∧aY C Z' loc' s' sv H' rv v∧oG C Z' loc' sv (k rv s') Q):=
 ai.zA (PO:=fun Z loc t=>oG C Z loc sv t Q) r h (fun _ _ _ g q=>q.ext g) (fun _ _ q=>q) (fun q=>q) fun _ _ q=>q
theorem ai.Lw{f:State→Res RV}{k:RV→State→Res Bool}{Q:Bool→Hp→Prop}(r:SR C Z loc s sv H)(h:eR C Z loc sv ((ev f s).bind k) Q):
  ai C f sv H (fun v H'=>∃ Z' loc' s' rv,Ext Z loc Z' loc'∧SR C Z' loc' s' sv H'∧tF rv∧aY C Z' loc' s' sv H' rv v∧eR C Z' loc' sv (k rv s') Q):=
 ai.zA (PO:=fun Z loc t=>eR C Z loc sv t Q) r h (fun _ _ _ g q=>q.ext g) (fun _ _ q=>q) (fun q=>q) fun _ _ q=>q
theorem ai.v3{f:State→Res RV}{k:RV→State→Res Fl}{D:Ends}(r:SR C Z loc s sv H)(h:bg C Z loc ((ev f s).bind k) D):
  ai C f sv H (fun v H'=>∃ Z' loc' s' rv,Ext Z loc Z' loc'∧SR C Z' loc' s' sv H'∧tF rv∧aY C Z' loc' s' sv H' rv v∧bg C Z' loc' (k rv s') D):=
 ai.zA (PO:=fun Z loc t=>bg C Z loc t D) r h (fun _ _ _ g q=>q.ext g) (fun _ _ q Z' loc' H' c d=>q Z' loc' sv H' c d) (fun q=>q) fun _ _ q=>q
variable{X:Cx}{e a b c:Expr}{es:List Expr}{pos:Pos}{f fa fb fc:State→Res RV}{ft:State→Res Bool}
theorem v_var{i:Nat}{x:Str}(hN:X.N[i]? =some x)(hv:Vis X.env.scope x)(hd:(x==("__debug__":Str))=false)(hcd:(x==("__classdict__":Str))=false):PE X (.Name x pos) (ai C (ae i)):=by
 refine aQ (pe_var hN hv hd hcd) fun sv H Q ⟨Z,loc,s,r,h⟩=>?_
 unfold ae at h
 split at h
 ·rename_i y e
  obtain⟨v,h1,h2⟩:=r.vl i y e
  exact⟨v,h1,h.val r h2⟩
 ·rename_i o e
  obtain⟨a,h1,_⟩:=r.ow i o e
  exact⟨_,h1,h Z loc H _ (Ext.refl _ _) r h1⟩
 ·exact h.elim
theorem qB{d:D}{v:V}(he:PE X e (tC v))(hd:∀ Z,aL C.cA Z d v):PE X e (ai C (fD d)):=
 aQ he fun sv H Q ⟨Z,loc,s,r,h⟩=>EPost.aH h r (hd Z)
theorem qV{r:R2}{g:RV→RV→State→Res RV}(hs:vA C g r){Q:VK}(h:ai C (ao fa fb g) sv H Q):tOp r (ai C fa) (ai C fb) sv H Q:=by
 obtain⟨Z,loc,s,r0,h⟩:=h
 refine(ai.m8 r0 h).imp fun u H1 ⟨Z1,l1,s1,x,g1,r1,st1,q1,h1⟩=>?_
 refine(ai.m8 r1 h1).imp fun v H2 ⟨Z2,l2,s2,y,g2,r2,st2,q2,h2⟩=>?_
 exact hs Z2 l2 s2 sv H2 x y u v Q r2 (q1.mono g2 st1) q2 h2
theorem tf(op:Bop)(ha:PE X a (ai C fa))(hb:PE X b (ai C fb)):PE X (.BinOp a op.py b pos) (ai C (ao fa fb (binop op))):=by
 obtain⟨r,ho,hs⟩:=yZ (C:=C) (X:=X) op
 exact aQ (pe_op ho ha hb) fun sv H Q h=>qV hs h
theorem Ay{op:Cop}{r:R2}(hs:H8 C (fL op) r):vA C (aI op) r:=by
 intro Z loc s sv H x y u v Q r0 hx hy h
 unfold aI at h
 split at h
 ·rename_i b e
  exact hs Z loc s sv H x y u v b Q r0 hx hy e (h.aH r0 rfl)
 ·exact h.elim
theorem Ar(hu:X.A.units+64<cLine)(op:Cop)(ha:PE X a (ai C fa))(hb:PE X b (ai C fb))(hm:cg b=true):PE X (.Compare a [op.py] [b] pos) (ai C (ao fa fb (aI op))):=by
 obtain⟨r,ho,hs⟩:=t8 (C:=C) hu op
 exact aQ (pe_cmpR ho ha hb (so hm)) fun sv H Q h=>qV (Ay hs) h
theorem toB{f:State→Res RV}{Q:Bool→Hp→Prop}(h:cQ C (aT f) sv H Q):ai C f sv H (fun x H'=>∃ k,x=.bl k∧Q k H'):=by
 obtain⟨Z,loc,s,r0,h⟩:=h
 refine(ai.Lw r0 h).imp fun u H1 ⟨Z1,l1,s1,x,g1,r1,st1,q1,h1⟩=>?_
 unfold vO at h1
 split at h1
 ·rename_i b e
  exact⟨b,r1.dv q1 e,h1 Z1 l1 H1 (Ext.refl _ _) r1⟩
 ·exact h1.elim
theorem gN(h:PE X e (ai C f))(he:vK e=true):PT X e (cQ C (aT f)):=
 uO (pt_val h (GC he)) fun sv H Q q=>toB q
theorem nV(hu:X.A.units+64<cLine)(op:Cop)(ha:PE X a (ai C fa))(hb:PE X b (ai C fb))(hm:cg b=true):PT X (.Compare a [op.py] [b] pos) (cQ C (aT (ao fa fb (aI op)))):=by
 obtain⟨r,ho,hs⟩:=t8 (C:=C) hu op
 exact uO (pt_cmpR ho ha hb (so hm)) fun sv H Q q=>qV (Ay hs) (toB q)
def zq(fa fb fc:State→Res RV)(g g':RV→RV→State→Res RV)(s:State):Res RV:=
 (ev fa s).bind fun x s=>(ev fb s).bind fun y s=>(g x y s).bind fun z s=>(vO z s).bind fun k s=>if k=true then(ev fc s).bind fun w s=>g' y w s else aH (.bl false) s
def EI(C:Cst)(f:RV→RV→State→Res RV):Prop:=∀ x y s,(∃ b,f x y s=aH (.bl b) s)∨f x y s=.stuck
theorem K4{op:Cop}:EI C (aI op):=by
 intro x y s
 unfold aI
 split
 ·exact .inl ⟨_,rfl⟩
 ·exact .inr rfl
theorem Jn{r r':R2}{g g':RV→RV→State→Res RV}(hs:vA C g r)(hs':vA C g' r')(hb:EI C g){Q:VK}(h:ai C (zq fa fb fc g g') sv H Q):tChain r r' (ai C fa) (ai C fb) (ai C fc) sv H Q:=by
 obtain⟨Z,loc,s,r0,h⟩:=h
 refine(ai.m8 r0 h).imp fun u H1 ⟨Z1,l1,s1,x,g1,r1,st1,q1,h1⟩=>?_
 refine(ai.m8 r1 h1).imp fun v H2 ⟨Z2,l2,s2,y,g2,r2,st2,q2,h2⟩=>?_
 have q1':=q1.mono (s':=s2) (H':=H2) g2 st1
 rcases hb x y s2 with⟨k,e⟩ | e
 ·rw[e]at h2
  refine hs Z2 l2 s2 sv H2 x y u v _ r2 q1' q2 ?_
  rw[e]
  intro Z3 l3 H3 z g3 r3 q3
  refine⟨k,q3,?_⟩
  simp only[aH,Res.aa,vO,dv,ib]at h2
  cases k with
  | true=>
   rw[if_pos rfl]at h2 ⊢
   refine(ai.m8 r3 (h2.ext g3)).imp fun w H4 ⟨Z4,l4,s4,z',g4,r4,st4,q4,h4⟩=>?_
   exact hs' Z4 l4 s4 sv H4 y z' v w Q r4 (q2.mono (g3.trans g4) st2) q4 h4
  | false=>
   rw[if_neg Bool.false_ne_true]at h2 ⊢
   exact EPost.aH (h2.ext g3) r3 rfl
 ·rw[e]at h2
  exact h2.elim
theorem FA{op op':Cop}(hm:cg c=true):lastMarks [op.py,op'.py] [b,c]=false:=so hm
theorem Fm(hu:X.A.units+64<cLine)(op op':Cop)(ha:PE X a (ai C fa))(hb:PE X b (ai C fb))(hc:PE X c (ai C fc))(hm:cg c=true):PE X (.Compare a [op.py,op'.py] [b,c] pos) (ai C (zq fa fb fc (aI op) (aI op'))):=by
 obtain⟨r,ho,hs⟩:=t8 (C:=C) hu op
 obtain⟨r',ho',hs'⟩:=t8 (C:=C) hu op'
 exact aQ (pe_chain ho ho' ha hb hc (FA hm)) fun sv H Q h=>Jn (Ay hs) (Ay hs') (K4 (C:=C)) h
theorem G4(h:PT X e (cQ C ft)):PW X (.BoolOp .And [e] pos) (cQ C (kE [ft])):=pw_and1 h
theorem AX(h:PT X e (cQ C ft)):PW X (.BoolOp .Or [e] pos) (cQ C (lB [ft])):=pw_or1 h
theorem v_and{ft2:State→Res Bool}{fr:List (State→Res Bool)}(h:PT X e (cQ C ft))(h2:PW X (.BoolOp .And (a::es) pos) (cQ C (kE (ft2::fr)))):PW X (.BoolOp .And (e::a::es) pos) (cQ C (kE (ft::ft2::fr))):=by
 refine⟨fun wh pins t sv H Q I q=>(pw_and h h2).run wh pins t sv H Q I ?_⟩
 obtain⟨Z,loc,s,r0,q⟩:=q
 refine⟨Z,loc,s,r0,?_⟩
 show eR C Z loc sv (ft s) _
 have q:eR C Z loc sv ((ft s).bind fun b s=>if b=true then kE (ft2::fr) s else .ok false s) Q:=q
 cases e:ft s with
 | stuck=>rw[e]at q;exact q
 | exc x s'=>rw[e]at q;exact q
 | ok b s'=>
  rw[e]at q
  intro Z1 l1 H1 g1 r1
  cases b with
  | true=>exact⟨Z1,l1,s',r1,eR.ext q g1⟩
  | false=>exact eR.ext (show eR C Z loc sv (.ok false s') Q from q) g1 Z1 l1 H1 (Ext.refl _ _) r1
theorem v_or{ft2:State→Res Bool}{fr:List (State→Res Bool)}(h:PT X e (cQ C ft))(h2:PW X (.BoolOp .Or (a::es) pos) (cQ C (lB (ft2::fr)))):PW X (.BoolOp .Or (e::a::es) pos) (cQ C (lB (ft::ft2::fr))):=by
 refine⟨fun wh pins t sv H Q I q=>(pw_or h h2).run wh pins t sv H Q I ?_⟩
 obtain⟨Z,loc,s,r0,q⟩:=q
 refine⟨Z,loc,s,r0,?_⟩
 show eR C Z loc sv (ft s) _
 have q:eR C Z loc sv ((ft s).bind fun b s=>if b=true then .ok true s else lB (ft2::fr) s) Q:=q
 cases e:ft s with
 | stuck=>rw[e]at q;exact q
 | exc x s'=>rw[e]at q;exact q
 | ok b s'=>
  rw[e]at q
  intro Z1 l1 H1 g1 r1
  cases b with
  | false=>exact⟨Z1,l1,s',r1,eR.ext q g1⟩
  | true=>exact eR.ext (show eR C Z loc sv (.ok true s') Q from q) g1 Z1 l1 H1 (Ext.refl _ _) r1
theorem v_not(h:PT X e (cQ C ft)):PT X (.UnaryOp .Not e pos) (cQ C (fj ft)):=by
 refine uO (pt_not h) fun sv H Q q=>?_
 obtain⟨Z,loc,s,r0,q⟩:=q
 unfold fj at q
 refine⟨Z,loc,s,r0,?_⟩
 cases e:ft s with
 | stuck=>rw[e]at q;exact q
 | exc x s'=>rw[e]at q;exact q
 | ok b s'=>rw[e]at q;exact q
end
end Vw
namespace Vw
open PySem L2 PyProof.Rows
def xn(f:State→Res RV)(s:State):Res RV:=(aT f s).bind fun b s=>aH (.bl (!b)) s
def G2(t:State→Res Bool)(a b:State→Res RV)(s:State):Res RV:=(t s).bind fun k s=>if k=true then a s else b s
def bZ(x y:RV)(s:State):Res RV:=
 match jO s x y with
 | some (some v)=>.ok (.val v) s
 | some none=>.stuck
 | none=>match dv s x,dv s y with
  | some (.str t),some (.int i)=>if t.length≤sizeLine then match atI t i with
   | some c=>aH (.str [c]) s
   | none=>.stuck else .stuck
  | _,some (.int i)=>match lv s x,tv s x with
   | some l,_=>match atI l i with
    | some v=>.ok (.val v) s
    | none=>.stuck
   | none,some l=>match atI l i with
    | some v=>.ok (.val v) s
    | none=>.stuck
   | none,none=>.stuck
  | _,_=>.stuck
inductive Par where
 | no
 | ex (f:State→Res RV)
def Ai(r:RV)(s:State):Res (Option Int):=
 match dv s r with
 | some (.int i)=>.ok (some i) s
 | _=>.stuck
def lM:Par→State→Res (Option Int)
 | .no,s=>.ok none s
 | .ex f,s=>(ev f s).bind Ai
def cy{α:Type}(l:List α)(lo hi:Option Int):List α:=(l.drop (HT.sIx l.length 0 lo)).take (HT.sIx l.length l.length hi-HT.sIx l.length 0 lo)
def vM(x:RV)(lo hi:Option Int)(s:State):Res RV:=
 match dv s x with
 | some (.str t)=>if t.length≤sizeLine then aH (.str (cy t lo hi)) s else .stuck
 | _=>match lv s x with
  | some l=>.ok (.new (.lst (cy l lo hi))) s
  | none=>match tv s x with
   | some l=>if(cy l lo hi).length=l.length then .stuck else .ok (.val (fP (cy l lo hi))) s
   | none=>.stuck
def rJ(f:State→Res RV)(lo hi:Par)(s:State):Res RV:=
 (ev f s).bind fun x s=>(lM lo s).bind fun l s=>(lM hi s).bind fun h s=>vM x l h s
section
variable{C:Cst}{Z Z':Hp}{loc loc':List Addr}{s s':State}{sv:L2.St}{H:Hp}
variable{X:Cx}{e a b c:Expr}{es:List Expr}{pos:Pos}{f fa fb fc:State→Res RV}{ft:State→Res Bool}
theorem q8(h:PE X e (ai C f)):PE X (.BoolOp .And [e] pos) (ai C (eg [f])):=aQ (pe_one h) fun sv H Q ⟨Z,loc,s,r,q⟩=>by
 have q:EPost C Z loc sv ((ev f s).bind fun x s=>.ok x s) Q:=by
  have e1:((ev f s).bind fun x s=>.ok x s)=eg [f] s:=by
   show _=ev f s
   cases ev f s<;> rfl
  rw[e1];exact q
 exact(ai.m8 r q).imp fun v H1 ⟨Z1,l1,s1,x,g1,r1,st1,q1,h1⟩=>h1 Z1 l1 H1 v (Ext.refl _ _) r1 q1
theorem GY(h:PE X e (ai C f)):PE X (.BoolOp .Or [e] pos) (ai C (jE [f])):=aQ (pe_one h) fun sv H Q ⟨Z,loc,s,r,q⟩=>by
 have q:EPost C Z loc sv ((ev f s).bind fun x s=>.ok x s) Q:=by
  have e1:((ev f s).bind fun x s=>.ok x s)=jE [f] s:=by
   show _=ev f s
   cases ev f s<;> rfl
  rw[e1];exact q
 exact(ai.m8 r q).imp fun v H1 ⟨Z1,l1,s1,x,g1,r1,st1,q1,h1⟩=>h1 Z1 l1 H1 v (Ext.refl _ _) r1 q1
theorem ai.CD{f:State→Res RV}{k:Bool→State→Res RV}{Q:VK}(r:SR C Z loc s sv H)(h:EPost C Z loc sv ((aT f s).bind k) Q):
  ai C f sv H (fun x H'=>∃ c,x=.bl c∧∃ Z' loc' s',Ext Z loc Z' loc'∧SR C Z' loc' s' sv H'∧EPost C Z' loc' sv (k c s') Q):=by
 unfold aT at h
 rw[Res.bind_assoc]at h
 refine(ai.m8 r h).imp fun v H1 ⟨Z1,l1,s1,x,g1,r1,st1,q1,h1⟩=>?_
 unfold vO at h1
 split at h1
 ·rename_i b e
  exact⟨b,r1.dv q1 e,Z1,l1,s1,g1,r1,h1⟩
 ·exact h1.elim
theorem pz{f2:State→Res RV}{fr:List (State→Res RV)}(h:PE X e (ai C f))(h2:PE X (.BoolOp .And (a::es) pos) (ai C (eg (f2::fr)))):PE X (.BoolOp .And (e::a::es) pos) (ai C (eg (f::f2::fr))):=by
 refine aQ (pe_and h h2) fun sv H Q ⟨Z,loc,s,r,q⟩=>?_
 have q:EPost C Z loc sv ((aT f s).bind fun b s=>if b=true then eg (f2::fr) s else aH (.bl false) s) Q:=q
 refine(ai.CD r q).imp fun v H1 ⟨c,e1,Z1,l1,s1,g1,r1,h1⟩=>⟨c,e1,?_⟩
 cases c with
 | true=>exact⟨Z1,l1,s1,r1,h1⟩
 | false=>exact EPost.aH h1 r1 rfl
theorem Jb{f2:State→Res RV}{fr:List (State→Res RV)}(h:PE X e (ai C f))(h2:PE X (.BoolOp .Or (a::es) pos) (ai C (jE (f2::fr)))):PE X (.BoolOp .Or (e::a::es) pos) (ai C (jE (f::f2::fr))):=by
 refine aQ (pe_or h h2) fun sv H Q ⟨Z,loc,s,r,q⟩=>?_
 have q:EPost C Z loc sv ((aT f s).bind fun b s=>if b=true then aH (.bl true) s else jE (f2::fr) s) Q:=q
 refine(ai.CD r q).imp fun v H1 ⟨c,e1,Z1,l1,s1,g1,r1,h1⟩=>⟨c,e1,?_⟩
 cases c with
 | false=>exact⟨Z1,l1,s1,r1,h1⟩
 | true=>exact EPost.aH h1 r1 rfl
theorem Hf(h:PE X e (ai C f)):PE X (.UnaryOp .Not e pos) (ai C (xn f)):=by
 refine aQ (pe_not h) fun sv H Q ⟨Z,loc,s,r,q⟩=>?_
 exact(ai.CD r q).imp fun v H1 ⟨c,e1,Z1,l1,s1,g1,r1,h1⟩=>⟨c,e1,EPost.aH h1 r1 rfl⟩
theorem IM(ht:PT X c (cQ C ft))(ha:PE X a (ai C fa))(hb:PE X b (ai C fb)):PE X (.IfExp c a b pos) (ai C (G2 ft fa fb)):=by
 refine aQ (pe_ifExp ht ha hb) fun sv H Q ⟨Z,loc,s,r,q⟩=>?_
 refine(cQ.qN r q).imp fun k H1 ⟨Z1,l1,s1,g1,r1,h1⟩=>?_
 cases k with
 | true=>exact⟨Z1,l1,s1,r1,h1⟩
 | false=>exact⟨Z1,l1,s1,r1,h1⟩
theorem fN.mono(h:Ext Z loc Z' loc'){H':Hp}:∀ {rs:List RV} {vs:List V},fN C Z loc s sv H rs vs→fN C Z' loc' s' sv H' rs vs
 | [],vs,q=>q
 | x::rs,vs,⟨v,r,e,st,q,t⟩=>⟨v,r,e,st,q.mono h st,fN.mono h t⟩
theorem ak:PA X [] (bS C (aj [])):=zH pa_nil fun sv H Q ⟨Z,loc,s,r,q⟩=>q Z loc H [] (Ext.refl _ _) r rfl
theorem HQ{fr:List (State→Res RV)}(h:PE X e (ai C f))(hr:PA X es (bS C (aj fr)))(hs:notStar e=true):PA X (e::es) (bS C (aj (f::fr))):=by
 refine zH (pa_cons h hr (aX hs)) fun sv H Q ⟨Z,loc,s,r,q⟩=>?_
 refine(ai.KG r q).imp fun v H1 ⟨Z1,l1,s1,x,g1,r1,st1,q1,h1⟩=>?_
 refine⟨Z1,l1,s1,r1,?_⟩
 cases e1:aj fr s1 with
 | stuck=>rw[e1]at h1;exact h1
 | exc y s2=>rw[e1]at h1;exact h1
 | ok xs s2=>
  rw[e1]at h1
  intro Z2 l2 H2 vs g2 r2 q2
  exact h1 Z2 l2 H2 (v::vs) g2 r2 ⟨v,vs,rfl,st1,q1.mono g2 st1,q2⟩
theorem SR.aD(r:SR C Z loc s sv H):∀ {rs:List RV} {vs:List V} {l:List Val},fN C Z loc s sv H rs vs→aD rs s=.ok l s'→∃ Z',Ext Z loc Z' loc∧SR C Z' loc s' sv H∧aB C.cA Z' loc l vs:=by
 intro rs
 induction rs generalizing Z s with
 | nil=>intro vs l h e;cases e;exact⟨Z,Ext.refl _ _,r,h⟩
 | cons x rs ih=>
  intro vs l h e
  obtain⟨v,t,rfl,st,q,h⟩:=h
  unfold Vw.aD at e
  cases e1:Vw.bG x s with
  | stuck=>rw[e1]at e;cases e
  | exc y s2=>exact absurd e1 ym
  | ok y s1=>
   rw[e1]at e
   simp only[Res.aa]at e
   obtain⟨Z1,g1,r1,q1⟩:=r.bG q e1
   cases e2:Vw.aD rs s1 with
   | stuck=>rw[e2]at e;cases e
   | exc y s2=>rw[e2]at e;cases e
   | ok ys s2=>
    rw[e2]at e
    cases e
    obtain⟨Z2,g2,r2,q2⟩:=ih r1 (h.mono g1) e2
    exact⟨Z2,g1.trans g2,r2,v,t,rfl,q1.mono g2,q2⟩
theorem dJ:∀ {rs:List RV} {s s1:State} {x:Exn},aD rs s≠ .exc x s1
 | [],s,s1,x=>by simp[aD]
 | r::rs,s,s1,x=>by
  unfold aD
  cases e:bG r s with
  | stuck=>simp
  | exc y s2=>exact absurd e ym
  | ok y s1=>
   simp only[Res.aa]
   cases e2:aD rs s1 with
   | stuck=>simp
   | exc y s2=>exact absurd e2 dJ
   | ok ys s2=>simp
theorem Bq{l:List Val}{vs:List V}{p:Addr}(h:aB C.cA Z loc l vs)(hp:Z p=some (.tup vs)):bh C.cA Z loc (fP l) (.ref p):=by
 unfold fP
 split
 ·rename_i ds e
  rw[toDs_inv e]at h
  exact⟨p,vs,rfl,hp,cZ.mp h⟩
 ·exact⟨p,vs,rfl,hp,h⟩
theorem EPost.tup{l:List Val}{vs:List V}{p:Addr}{Q:VK}(h:EPost C Z loc sv (.ok (.val (fP l)) s) Q)(r:SR C Z loc s sv H)(q:aB C.cA Z loc l vs)(np:H p=none):Q (.ref p) (upd H p (.tup vs)):=by
 have r1:=(r.grow (bp np)).tM (o:=.tup vs) upd_same (r.free np)
 have g:Ext Z loc (upd Z p (.tup vs)) loc:=Ext.z (bp (r.free np).z)
 exact h _ loc _ _ g r1 (Bq (aB.mono g l q) upd_same)
theorem Jt{k:Nat}{fs:List (State→Res RV)}(h:PA X es (bS C (aj fs))):PE X (.Tuple es k pos) (ai C (fun s=>(aj fs s).bind y5)):=by
 refine aQ (pe_tup h) fun sv H Q ⟨Z,loc,s,r,q⟩=>?_
 refine(bS.qN r q).imp fun vs H1 ⟨Z1,l1,s1,rs,g1,r1,q1,h1⟩=>?_
 unfold y5 at h1
 cases e:aD rs s1 with
 | stuck=>rw[e]at h1;exact h1.elim
 | exc y s2=>exact absurd e dJ
 | ok l s2=>
  rw[e]at h1
  simp only[Res.aa]at h1
  obtain⟨Z2,g2,r2,q2⟩:=r1.aD q1 e
  split at h1
  ·rename_i hl
   exact⟨by rw[←bu q2];exact hl,fun p np=>(h1.ext g2).tup r2 q2 np⟩
  ·exact h1.elim
theorem JW{fs:List (State→Res RV)}(h:PA X es (bS C (aj fs))):PE X (.List es pos) (ai C (fun s=>(aj fs s).bind xy)):=by
 refine aQ (pe_lst h) fun sv H Q ⟨Z,loc,s,r,q⟩=>?_
 refine(bS.qN r q).imp fun vs H1 ⟨Z1,l1,s1,rs,g1,r1,q1,h1⟩=>?_
 unfold xy at h1
 cases e:aD rs s1 with
 | stuck=>rw[e]at h1;exact h1.elim
 | exc y s2=>exact absurd e dJ
 | ok l s2=>
  rw[e]at h1
  simp only[Res.aa]at h1
  obtain⟨Z2,g2,r2,q2⟩:=r1.aD q1 e
  split at h1
  ·rename_i hl
   exact⟨by rw[←bu q2];exact hl,fun p np=>(h1.ext g2).new r2 np (by simp) ⟨_,upd_same,q2⟩⟩
  ·exact h1.elim
theorem fF:∀ {l:List Val} {xs:List V} {i:Nat} {x:Val},aB C.cA Z loc l xs→l[i]? =some x→∃ v,xs[i]? =some v∧bh C.cA Z loc x v
 | [],xs,i,x,h,e=>by simp at e
 | y::l,xs,0,x,⟨v,r,e1,q,t⟩,e=>by
  rw[e1]
  simp at e
  exact⟨v,rfl,e▸q⟩
 | y::l,xs,i+1,x,⟨v,r,e1,q,t⟩,e=>by
  rw[e1]
  exact fF (i:=i) t (by simpa using e)
theorem yB{l:List Val}{xs:List V}{i:Int}{x:Val}(h:aB C.cA Z loc l xs)(e:atI l i=some x):∃ v,atI xs i=some v∧bh C.cA Z loc x v:=by
 unfold atI at e ⊢
 rw[←bu h]
 cases e1:ixN l.length i with
 | none=>rw[e1]at e;cases e
 | some j=>
  rw[e1]at e
  exact fF h e
def KY(K:PySem.W.Frag):R2:=fun x y H Q=>rIxD x y H Q∨rIx K x y H Q
theorem GS:vA C bZ (KY X.K):=by
 intro Z loc s sv H x y u v Q r hx hy h
 unfold bZ at h
 split at h
 ·rename_i w e
  obtain⟨a,o,h1,h2,h3⟩:=r.jO hx hy e
  cases o with
  | none=>exact h3.elim
  | some z=>exact .inl ⟨a,z,h1,h2,h.val r h3⟩
 ·exact h.elim
 ·split at h
  ·rename_i t i e1 e2
   split at h
   ·rename_i hl
    split at h
    ·rename_i c e3
     exact .inr (.inr (.inr ⟨⟨t.toArray⟩,i,c,r.dv hx e1,r.dv hy e2,by simpa [Str.length]using hl,by simpa using e3,h.aH r rfl⟩))
    ·exact h.elim
   ·exact h.elim
  ·rename_i i e2 _
   split at h
   ·rename_i l e3
    split at h
    ·rename_i w e4
     obtain⟨a,xs,h1,h2,h3⟩:=r.lv hx e3
     obtain⟨z,h4,h5⟩:=yB h3 e4
     exact .inr (.inl ⟨a,xs,i,z,h1,r.dv hy e2,.inl h2,h4,h.val r h5⟩)
    ·exact h.elim
   ·rename_i l e3
    split at h
    ·rename_i w e4
     obtain⟨a,xs,h1,h2,h3⟩:=r.tv hx e3
     obtain⟨z,h4,h5⟩:=yB h3 e4
     exact .inr (.inr (.inl ⟨a,xs,i,z,h1,r.dv hy e2,.inl (.inl h2),h4,h.val r h5⟩))
    ·exact h.elim
   ·exact h.elim
  ·exact h.elim
theorem Lg(hu:X.A.units+64<cLine)(ha:PE X a (ai C fa))(hb:PE X b (ai C fb))(hs:l9 b=true):PE X (.Subscript a b pos) (ai C (ao fa fb bZ)):=
 aQ (pe_ix ((I7 hu).or ix_seq) ha hb (A4 hs)) fun sv H Q h=>qV GS h
def yo(C:Cst)(p:Par):TO:=fun sv H Q=>∃ Z loc s,SR C Z loc s sv H∧match lM p s with
 | .ok o s'=>∀ Z' loc' H',Ext Z loc Z' loc'→SR C Z' loc' s' sv H'→Q o H'
 | .exc x s'=>∀ Z' loc' H' c d,Ext Z loc Z' loc'→SR C Z' loc' s' sv H'→jJ C Z' H' x c d→C.W c d sv H'
 | .stuck=>False
theorem xk:PO X none (yo C .no):=⟨fun pins t sv H Q I ⟨Z,loc,s,r,h⟩=>po_none.run pins t sv H Q I (h Z loc H (Ext.refl _ _) r)⟩
theorem m7(h:PE X e (ai C f)):PO X (some e) (yo C (.ex f)):=by
 refine⟨fun pins t sv H Q I ⟨Z,loc,s,r,q⟩=>(po_some h).run pins t sv H Q I ?_⟩
 unfold lM at q
 dsimp only at q
 refine ai.zA (f:=f) (PO:=fun Z loc (t:Res (Option Int))=>match t with
  | .ok o s'=>∀ Z' loc' H',Ext Z loc Z' loc'→SR C Z' loc' s' sv H'→Q o H'
  | .exc x s'=>∀ Z' loc' H' c d,Ext Z loc Z' loc'→SR C Z' loc' s' sv H'→jJ C Z' H' x c d→C.W c d sv H'
  | .stuck=>False) r q (fun Z1 l1 t g q=>?_) (fun _ _ q=>q) (fun q=>q) fun v H1 ⟨Z1,l1,s1,x,g1,r1,st1,q1,h1⟩=>?_
 ·cases t with
  | ok o s'=>exact fun Z2 l2 H2 g2=>q Z2 l2 H2 (g.trans g2)
  | exc x s'=>exact fun Z2 l2 H2 c d g2=>q Z2 l2 H2 c d (g.trans g2)
  | stuck=>exact q
 ·have key:(∃ i,dv s1 x=some (.int i)∧Ai x s1=.ok (some i) s1)∨Ai x s1=.stuck:=by
   unfold Ai
   split
   ·rename_i i e
    exact .inl ⟨i,e,rfl⟩
   ·exact .inr rfl
  rcases key with⟨i,e1,e2⟩ | e2
  ·rw[e2]at h1
   exact⟨i,r1.dv q1 e1,h1 Z1 l1 H1 (Ext.refl _ _) r1⟩
  ·rw[e2]at h1
   exact h1.elim
theorem sZ:∀ {l:List Val} {xs:List V} (n:Nat),aB C.cA Z loc l xs→aB C.cA Z loc (l.drop n) (xs.drop n)
 | l,xs,0,h=>h
 | [],xs,n+1,h=>by rw[show xs=_ from h];exact rfl
 | x::l,xs,n+1,⟨v,r,e,q,t⟩=>by rw[e];exact sZ n t
theorem t9:∀ {l:List Val} {xs:List V} (n:Nat),aB C.cA Z loc l xs→aB C.cA Z loc (l.take n) (xs.take n)
 | l,xs,0,h=>rfl
 | [],xs,n+1,h=>by rw[show xs=_ from h];exact rfl
 | x::l,xs,n+1,⟨v,r,e,q,t⟩=>by rw[e];exact⟨v,r.take n,rfl,q,t9 n t⟩
theorem vW{l:List Val}{xs:List V}{lo hi:Option Int}(h:aB C.cA Z loc l xs):aB C.cA Z loc (cy l lo hi) (cutV xs lo hi):=by
 unfold cy cutV
 rw[←bu h]
 exact t9 _ (sZ _ h)
theorem uB{lo hi:Option Expr}{pl ph:Par}{p2:Pos}(he:PE X e (ai C f))(hl:PO X lo (yo C pl))(hh:PO X hi (yo C ph)):PE X (.Subscript e (.Slice lo hi none p2) pos) (ai C (rJ f pl ph)):=by
 refine aQ (pe_slice (sl_str.or (sl_list.or sl_tup)) he hl hh) fun sv H Q ⟨Z,loc,s,r,q⟩=>?_
 refine(ai.m8 r q).imp fun v H1 ⟨Z1,l1,s1,x,g1,r1,st1,q1,h1⟩=>?_
 have part:∀ {p:Par} {k:Option Int→State→Res RV} {Z1:Hp} {l1:List Addr} {s1:State} {H1:Hp},SR C Z1 l1 s1 sv H1→EPost C Z1 l1 sv ((lM p s1).bind k) Q→
   yo C p sv H1 fun o H2=>∃ Z2 l2 s2,Ext Z1 l1 Z2 l2∧SR C Z2 l2 s2 sv H2∧EPost C Z2 l2 sv (k o s2) Q:=by
  intro p k Z1 l1 s1 H1 r1 h
  refine⟨Z1,l1,s1,r1,?_⟩
  cases e:lM p s1 with
  | stuck=>rw[e]at h;exact h
  | exc y s2=>rw[e]at h;exact h
  | ok o s2=>rw[e]at h;exact fun Z2 l2 H2 g2 r2=>⟨Z2,l2,s2,g2,r2,EPost.ext h g2⟩
 have imp:∀ {p:Par} {H1:Hp} {Q1 Q2:Option Int→Hp→Prop},yo C p sv H1 Q1→(∀ o H,Q1 o H→Q2 o H)→yo C p sv H1 Q2:=by
  rintro p H1 Q1 Q2 ⟨Z,loc,s,r,h⟩ m
  refine⟨Z,loc,s,r,?_⟩
  cases e:lM p s with
  | stuck=>rw[e]at h;exact h
  | exc y s2=>rw[e]at h;exact h
  | ok o s2=>rw[e]at h;exact fun Z2 l2 H2 g2 r2=>m _ _ (h Z2 l2 H2 g2 r2)
 refine imp (part r1 h1) fun o1 H2 ⟨Z2,l2,s2,g2,r2,h2⟩=>?_
 refine imp (part r2 h2) fun o2 H3 ⟨Z3,l3,s3,g3,r3,h3⟩=>?_
 have q3:=q1.mono (s':=s3) (H':=H3) (g2.trans g3) st1
 unfold vM at h3
 split at h3
 ·rename_i t e1
  split at h3
  ·rename_i hz
   refine .inl ⟨⟨t.toArray⟩,r3.dv q3 e1,by simpa [Str.length]using hz,h3.aH r3 ?_⟩
   show V.str _=V.str _
   simp[cutS,cy,Str.length]
  ·exact h3.elim
 ·split at h3
  ·rename_i l e1
   obtain⟨a,xs,h4,h5,h6⟩:=r3.lv q3 e1
   exact .inr (.inl ⟨a,xs,h4,.inl h5,fun p np=>h3.new r3 np (by simp) ⟨_,upd_same,vW h6⟩⟩)
  ·split at h3
   ·rename_i l e1
    obtain⟨a,xs,h4,h5,h6⟩:=r3.tv q3 e1
    split at h3
    ·exact h3.elim
    ·rename_i hne
     refine .inr (.inr ⟨a,xs,h4,.inl (.inl h5),fun z=>hne ?_,fun p np=>h3.tup r3 (vW h6) np⟩)
     rw[←bu h6]at z
     unfold cy
     rw[z.1,z.2]
     simp
   ·exact h3.elim
end
end Vw
namespace Vw
open PySem L2 PyProof.Rows
def nk(i:Nat):RV→State→Option State
 | .val x,s=>some { s with sg:=s.sg.set i (some (.v x)) }
 | .new o,s=>some { s with sg:=s.sg.set i (some (.own o)) }
 | .own j,s=>match jb j s with
  | .ok x s=>some { s with sg:=s.sg.set i (some (.v x)) }
  | _=>none
def wr(r:RV)(o:Ob)(s:State):State:=
 match ib s r with
 | .own i=> { s with sg:=s.sg.set i (some (.own o)) }
 | .val (.r n)=> { s with st:=s.st.set n o }
 | _=>s
inductive Tg where
 | nm (i:Nat)
 | tp (l:List Tg)
mutual
def e9:Tg→Val→State→Option State
 | .nm i,x,s=>some { s with sg:=s.sg.set i (some (.v x)) }
 | .tp ts,x,s=>match tv s (.val x)with
  | some l=>if l.length=ts.length then kT ts l s else none
  | none=>none
def kT:List Tg→List Val→State→Option State
 | [],[],s=>some s
 | t::ts,x::xs,s=>match e9 t x s with
  | some s=>kT ts xs s
  | none=>none
 | _,_,_=>none
end
def pY(o:Option State):Res Fl:=
 match o with
 | some s=>.ok .nx s
 | none=>.stuck
def aR(i:Nat)(f:State→Res RV)(s:State):Res Fl:=(f s).bind fun r s=>pY (nk i r s)
def xp(t:Tg)(f:State→Res RV)(s:State):Res Fl:=(ev f s).bind fun r s=>match bG r s with
 | .ok x s=>pY (e9 t x s)
 | _=>.stuck
def cN(f:State→Res RV)(s:State):Res Fl:=(f s).bind fun _ s=>.ok .nx s
def aP(f:State→Res RV)(s:State):Res Fl:=(f s).bind fun r s=>.ok (.ret r) s
def b7(t:State→Res Bool)(a b:State→Res Fl)(s:State):Res Fl:=(t s).bind fun k s=>if k=true then a s else b s
def ah:List (State→Res Fl)→State→Res Fl
 | [],s=>.ok .nx s
 | f::r,s=>match f s with
  | .ok .nx s=>ah r s
  | t=>t
def oX:Nat→(State→Res Bool)→(State→Res Fl)→State→Res Fl
 | 0,_,_,_=>.stuck
 | n+1,t,b,s=>(t s).bind fun k s=>if k=true then(match b s with
   | .ok .nx s=>oX n t b s
   | .ok .cnt s=>oX n t b s
   | .ok .brk s=>.ok .nx s
   | r=>r)else .ok .nx s
def g9(t:Tg)(b:State→Res Fl):List Val→State→Res Fl
 | [],s=>.ok .nx s
 | x::r,s=>match e9 t x s with
  | none=>.stuck
  | some s=>match b s with
   | .ok .nx s=>g9 t b r s
   | .ok .cnt s=>g9 t b r s
   | .ok .brk s=>.ok .nx s
   | r=>r
def qj(o i:RV)(x:Val)(s:State):Option State:=
 match ob s o,dv s i with
 | some (.lst l),some (.int k)=>match ixN l.length k with
  | some j=>some (wr o (.lst (l.set j x)) s)
  | none=>none
 | some (.dic false l),some d=>match yO d with
  | some k=>if l.length<sizeLine then some (wr o (.dic false (iE l k x)) s)else none
  | none=>none
 | some (.dit false l),some (.tup d)=>match xN d with
  | some k=>if l.length<sizeLine then some (wr o (.dit false (iE l k x)) s)else none
  | none=>none
 | _,_=>none
def uz(fo fi fv:State→Res RV)(s:State):Res Fl:=
 (ev fv s).bind fun v s=>(ev fo s).bind fun o s=>(ev fi s).bind fun i s=>match bG v s with
  | .ok x s=>pY (qj o i x s)
  | _=>.stuck
def Az:Bop→Option (Int→Int→Int)
 | .add=>some fun a b=>a+b
 | .sub=>some fun a b=>a-b
 | _=>none
def sl(s:State)(i:Nat):Option D:=
 match s.sg[i]? with
 | some (some (.v (.d x)))=>some x
 | _=>none
section
variable{C:Cst}{Z Z':Hp}{loc loc':List Addr}{s s':State}{sv sv':L2.St}{H H':Hp}
theorem SR.unset(r:SR C Z loc s sv H)(i:Nat)(v:Option V):SR C Z loc { s with sg:=s.sg.set i none } (sv.set i v) H:=by
 have r1:=r.drop i
 have key:∀ {j:Nat} {x:Sl},(s.sg.set i none)[j]? =some (some x)→(sv.set i v)[j]? =sv[j]? :=fun {j x} h=>by
  rcases bW h with⟨_,q⟩ | ⟨ne,q⟩
  ·cases q
  ·rw[List.getElem?_set_ne ne]
 refine⟨r1.fr,r1.zh,r1.zf,r1.lk,r1.ln,r1.nd,r1.lh,r1.cl,fun j x h=>?_,fun j o h=>?_,fun j k o o' a h1 h2 h3 h4=>?_,by simpa using r1.ls⟩
 ·rw[key h];exact r1.vl j x h
 ·rw[key h];exact r1.ow j o h
 ·rw[key h1]at h3;rw[key h2]at h4;exact r1.oi j k o o' a h1 h2 h3 h4
theorem SR.store(r:SR C Z loc s sv H){i:Nat}(hi:i<sv.length){x:Val}{v:V}(q:bh C.cA Z loc x v):SR C Z loc { s with sg:=s.sg.set i (some (.v x)) } (sv.set i (some v)) H:=by
 have:=(r.unset i (some v)).Hz (i:=i) (v:=v) (x:=x) (by simp[hi]) q
 simpa [rX]using this
theorem SR.nk(r:SR C Z loc s sv H){i:Nat}(hi:i<sv.length){rv:RV}{v:V}(q:aY C Z loc s sv H rv v)(e:nk i rv s=some s'):∃ Z',Ext Z loc Z' loc∧SR C Z' loc s' (sv.set i (some v)) H:=by
 cases rv with
 | val x=>cases e;exact⟨Z,Ext.refl _ _,r.store hi q⟩
 | own j=>
  unfold Vw.nk at e
  dsimp only at e
  split at e
  ·rename_i x s1 e1
   cases e
   obtain⟨Z1,g,r1,q1⟩:=r.jb q e1
   exact⟨Z1,g,r1.store hi q1⟩
  ·cases e
 | new o=>
  cases e
  obtain⟨a,rfl,ne,h1,h2⟩:=q
  have r1:=r.unset i (some (.ref a))
  have f:Free C Z loc { s with sg:=s.sg.set i none } (sv.set i (some (.ref a))) a:=by
   refine⟨h2.z,h2.f,h2.l,fun j ob h=>?_⟩
   rcases bW h with⟨_,q⟩ | ⟨ne',q⟩
   ·cases q
   ·rw[List.getElem?_set_ne ne'];exact h2.o j ob q
  have:=r1.Lm (i:=i) (o:=o) (a:=a) (by simp[hi]) ne h1 f
  exact⟨Z,Ext.refl _ _,by simpa [rX]using this⟩
theorem SR.write(r:SR C Z loc s sv H){rv:RV}{v:V}{o o':Ob}{a:Addr}{u:HO}(h:aY C Z loc s sv H rv v)(e:Vw.ob s rv=some o)(ea:v=.ref a)(ne:o'≠ .gone)(nf:∀ x w,H a≠some (.frz x w))
  (q:Cell C.cA Z loc (upd H a u) a o'):SR C Z loc (wr rv o' s) sv (upd H a u):=by
 have q0:=r.ib h
 have zz:Z a=none∧C.Fr a=none:=by
  unfold Vw.ob at e
  split at e
  ·rename_i i e1
   rw[e1]at q0
   split at e
   ·rename_i o1 e2
    obtain⟨b,h1,_,_,h4,h5,_⟩:=r.ow i _ e2
    rw[show sv[i]? =some (some v)from q0,ea]at h1
    cases h1
    exact⟨h4,h5⟩
   ·cases e
  ·rename_i n e1
   rw[e1]at q0
   obtain⟨b,h1,h2⟩:=q0
   rw[ea]at h2
   cases h2
   split at e
   ·cases e
   ·rename_i o1 ng e2
    exact⟨(r.cl n a _ h1 e2 ng).2,(r.lh a (List.mem_of_getElem? h1)).2⟩
   ·cases e
  ·cases e
 have cellAt:∀ {b:Addr} {ob:Ob},b≠a→Cell C.cA Z loc H b ob→Cell C.cA Z loc (upd H a u) b ob:=fun {b ob} hb x=>x.at (upd_ne hb)
 have fr:Same C.Fr (upd H a u):=fun b x hx=>by
  have hb:b≠a:=fun z=>by rw[z,zz.2]at hx;cases hx
  rw[upd_ne hb];exact r.fr b x hx
 have zh:∀ (b:Addr) (x:HO),Z b=some x→Rz (upd H a u) b x:=fun b x hx=>by
  have hb:b≠a:=fun z=>by rw[z,zz.1]at hx;cases hx
  unfold Rz
  rw[upd_ne hb];exact r.zh b x hx
 have lk:∀ (b:Addr) (x:Obj) (w:HO),C.H0 b=some (.frz x w)→upd H a u b=some (.frz x w):=fun b x w hx=>by
  have hb:b≠a:=fun z=>nf x w (z▸r.lk b x w hx)
  rw[upd_ne hb];exact r.lk b x w hx
 have lh:∀ b∈loc,upd H a u b≠none∧C.Fr b=none:=fun b hb=>by
  refine⟨?_,(r.lh b hb).2⟩
  by_cases hba:b=a
  ·rw[hba,upd_same];simp
  ·rw[upd_ne hba];exact(r.lh b hb).1
 unfold Vw.ob at e
 unfold wr
 split at e
 ·rename_i i e1
  rw[e1]at q0
  split at e
  ·rename_i o1 e2
   cases e
   have hi:sv[i]? =some (some (.ref a)):=by rw[←ea];exact q0
   obtain⟨b,h1,h2,h3,h4,h5,h6⟩:=r.ow i _ e2
   rw[hi]at h1
   cases h1
   try rw[e1]
   try dsimp only
   refine⟨fr,zh,r.zf,lk,r.ln,r.nd,lh,fun n b ob g1 g2 g3=>?_,fun j x g=>?_,fun j ob g=>?_,fun j k o1 o2 b g1 g2 g3 g4=>?_,by simpa using r.ls⟩
   ·have hb:b≠a:=fun z=>h6 (z▸List.mem_of_getElem? g1)
    exact⟨cellAt hb (r.cl n b ob g1 g2 g3).1,(r.cl n b ob g1 g2 g3).2⟩
   ·change (s.sg.set i _)[j]? =_ at g
    rcases bW g with⟨_,k⟩ | ⟨_,k⟩
    ·cases k
    ·exact r.vl j x k
   ·change (s.sg.set i _)[j]? =_ at g
    rcases bW g with⟨rfl,k⟩ | ⟨nj,k⟩
    ·cases k
     exact⟨a,hi,ne,q,h4,h5,h6⟩
    ·obtain⟨b,f1,f2,f3,f4⟩:=r.ow j ob k
     have hb:b≠a:=fun z=>nj (r.oi i j _ ob a e2 k hi (z▸f1))
     exact⟨b,f1,f2,cellAt hb f3,f4⟩
   ·have pick:∀ {j:Nat} {ob:Ob},(s.sg.set i (some (.own o')))[j]? =some (some (.own ob))→∃ ob',s.sg[j]? =some (some (.own ob')):=fun {j ob} g=>by
     rcases bW g with⟨rfl,_⟩ | ⟨_,k⟩
     ·exact⟨_,e2⟩
     ·exact⟨_,k⟩
    obtain⟨p1,k1⟩:=pick g1
    obtain⟨p2,k2⟩:=pick g2
    exact r.oi j k p1 p2 b k1 k2 g3 g4
  ·cases e
 ·rename_i n e1
  rw[e1]at q0
  obtain⟨b,h1,h2⟩:=q0
  rw[ea]at h2
  cases h2
  try rw[e1]
  try dsimp only
  have hn:n<s.st.length:=by rw[←r.ln];exact(List.getElem?_eq_some_iff.mp h1).1
  refine⟨fr,zh,r.zf,lk,by simpa using r.ln,r.nd,lh,fun m b ob g1 g2 g3=>?_,r.vl,fun j ob g=>?_,r.oi,r.ls⟩
  ·rcases bW g2 with⟨rfl,g⟩ | ⟨nm,g⟩
   ·cases g
    rw[h1]at g1
    cases g1
    exact⟨q,zz.1⟩
   ·have hb:b≠a:=fun z=>by
     subst z
     obtain⟨l1,e3⟩:=List.getElem?_eq_some_iff.mp h1
     obtain⟨l2,e4⟩:=List.getElem?_eq_some_iff.mp g1
     exact nm ((List.getElem_inj r.nd).mp (e3.trans e4.symm))
    exact⟨cellAt hb (r.cl m b ob g1 g g3).1,(r.cl m b ob g1 g g3).2⟩
  ·obtain⟨b,f1,f2,f3,f4,f5,f6⟩:=r.ow j ob g
   have hb:b≠a:=fun z=>f6 (z▸List.mem_of_getElem? h1)
   exact⟨b,f1,f2,cellAt hb f3,f4,f5,f6⟩
 ·cases e
mutual
def vZ:Tg→List Nat
 | .nm i=>[i]
 | .tp l=>xW l
def xW:List Tg→List Nat
 | []=>[]
 | t::l=>vZ t++xW l
end
def Off(l:List Nat)(a b:L2.St):Prop:=b.length=a.length∧∀ j,j∉l→b[j]? =a[j]?
def n3(C:Cst)(t:Tg):TG:=fun v sv H Q=>∃ Z loc s x,SR C Z loc s sv H∧bh C.cA Z loc x v∧match e9 t x s with
 | some s'=>∀ sv',Off (vZ t) sv sv'→SR C Z loc s' sv' H→Q sv' H
 | none=>False
def Aj(C:Cst)(ts:List Tg):TGs:=fun vs sv H Q=>∃ Z loc s xs,SR C Z loc s sv H∧aB C.cA Z loc xs vs∧match kT ts xs s with
 | some s'=>∀ sv',Off (xW ts) sv sv'→SR C Z loc s' sv' H→Q sv' H
 | none=>False
variable{X:Cx}{e a b c:Expr}{es:List Expr}{pos:Pos}{f fa fb fc fo fi fv:State→Res RV}{ft:State→Res Bool}
theorem zQ{t t':TG}{e:Expr}(h:PG X e t)(m:∀ v sv H Q,sv.length=X.N.length→t' v sv H Q→t v sv H Q):PG X e t':=⟨fun pins s sv H v u Q I r q=>h.run pins s sv H v u Q I r (m v sv H Q I.len q)⟩
theorem yG{t t':TGs}{e:List Expr}(h:PGs X e t)(m:∀ v sv H Q,sv.length=X.N.length→t' v sv H Q→t v sv H Q):PGs X e t':=⟨fun pins s sv H v u Q I r q=>h.run pins s sv H v u Q I r (m v sv H Q I.len q)⟩
theorem sN{st:Stmt}{t t':TS}(h:PS X st t)(m:∀ D sv H,sv.length=X.N.length→t' D sv H→t D sv H):PS X st t':=⟨fun pins s sv H D I q=>h.run pins s sv H D I (m D sv H I.len q)⟩
theorem Jx{i:Nat}{x:Str}(hN:X.N.Nodup)(hi:X.N[i]? =some x)(hx:Loc X.env.scope x)(hf:X.fn x=true∨X.env.scope.names.lookup x=some .local):PG X (.Name x pos) (n3 C (.nm i)):=by
 refine zQ (pg_name hN hi hx hf) fun v sv H Q hl ⟨Z,loc,s,y,r,q,h⟩=>?_
 have hi':i<sv.length:=by rw[hl];exact(List.getElem?_eq_some_iff.mp hi).1
 exact h _ ⟨List.length_set,fun j hj=>List.getElem?_set_ne (fun e=>hj (by simp[vZ,e]))⟩ (r.store hi' q)
theorem k6:PGs X [] (Aj C []):=yG pgs_nil fun vs sv H Q hl ⟨Z,loc,s,xs,r,q,h⟩=>by
 cases xs with
 | nil=>exact⟨q,h sv ⟨rfl,fun _ _=>rfl⟩ r⟩
 | cons x xs=>exact h.elim
theorem sH{e:Expr}{es:List Expr}{env:Env}(h:notStar e=true):assignEach (e::es) env=(false,assign e env)::assignEach es env:=by
 cases e<;> first | rfl | cases h
theorem cR{t:Tg}{ts:List Tg}(h1:PG X e (n3 C t))(h2:PGs X es (Aj C ts))(hs:notStar e=true):PGs X (e::es) (Aj C (t::ts)):=by
 refine yG (pgs_cons h1 h2 (by rw[sH hs];rfl)) fun vs sv H Q hl ⟨Z,loc,s,xs,r,q,h⟩=>?_
 cases xs with
 | nil=>exact h.elim
 | cons x xs=>
  obtain⟨v,t',rfl,q1,q2⟩:=q
  refine⟨v,t',rfl,Z,loc,s,x,r,q1,?_⟩
  unfold kT at h
  cases e1:e9 t x s with
  | none=>rw[e1]at h;exact h
  | some s1=>
   rw[e1]at h
   refine fun sv' o' r'=>⟨Z,loc,s1,xs,r',q2,?_⟩
   dsimp only at h
   split at h
   ·rename_i s2 e2
    exact fun sv2 o2 r2=>h sv2 ⟨o2.1.trans o'.1,fun j hj=>(o2.2 j fun z=>hj (by simp[xW,z])).trans (o'.2 j fun z=>hj (by simp[xW,z]))⟩ r2
   ·exact h.elim
theorem zX:∀ {es:List Expr} {env:Env},(assignEach es env).length=es.length
 | [],_=>rfl
 | e::es,env=>by cases e<;> exact congrArg Nat.succ zX
theorem zr:∀ {es:List Expr} {env:Env},es.all notStar=true→(assignEach es env).findIdx? (·.1)=none
 | [],_,_=>rfl
 | e::es,env,h=>by
  simp only[List.all_cons,Bool.and_eq_true]at h
  rw[sH h.1,List.findIdx?_cons]
  simp[zr h.2]
theorem lj{k:Nat}{ts:List Tg}(hc:X.calm=true)(h:PGs X es (Aj C ts))(hs:es.all notStar=true)(hl:es.length=ts.length):PG X (.Tuple es k pos) (n3 C (.tp ts)):=by
 refine zQ (pg_tup hc h (n:=ts.length) (zX.trans hl) (zr hs)) fun v sv H Q hl ⟨Z,loc,s,y,r,q,h⟩=>?_
 unfold e9 at h
 cases e1:tv s (.val y)with
 | none=>rw[e1]at h;exact h.elim
 | some l=>
  rw[e1]at h
  dsimp only at h
  obtain⟨a,xs,h1,h2,h3⟩:=r.tv (rv:=.val y) q e1
  by_cases hlen:l.length=ts.length
  ·rw[if_pos hlen]at h
   exact⟨a,xs,h1,.inl (.inl h2),by rw[←bu h3];exact hlen,Z,loc,s,l,r,h3,h⟩
  ·rw[if_neg hlen]at h;exact h.elim
theorem bg.nx{D:Ends}(h:bg C Z loc (.ok .nx s) D)(r:SR C Z loc s sv H):D.nx sv H:=h Z loc sv H (Ext.refl _ _) r
theorem cY(h:PE X e (ai C f))(hc:g8 e=true):PS X (.Expr e pos) (cq C (cN f)):=by
 refine fw (ps_expr h (qT hc)) fun D sv H ⟨Z,loc,s,r,q⟩=>?_
 exact(ai.oy r q).imp fun v H1 ⟨Z1,l1,s1,x,g1,r1,q1,h1⟩=>h1.nx r1
theorem bb(h:PE X e (ai C f)):PS X (.Return (some e) pos) (cq C (aP f)):=by
 refine fw (ps_ret h) fun D sv H ⟨Z,loc,s,r,q⟩=>?_
 exact(ai.oy r q).imp fun v H1 ⟨Z1,l1,s1,x,g1,r1,q1,h1⟩=>h1 Z1 l1 sv H1 v (Ext.refl _ _) r1 q1
theorem du{a b:List Stmt}{sa sb:State→Res Fl}(ht:PT X c (cQ C ft))(ha:PSs X a (cq C sa))(hb:PSs X b (cq C sb)):PS X (.If c a b pos) (cq C (b7 ft sa sb)):=by
 refine fw (ps_if ht ha hb) fun D sv H ⟨Z,loc,s,r,q⟩=>?_
 refine(cQ.oy r q).imp fun k H1 ⟨Z1,l1,s1,g1,r1,h1⟩=>?_
 cases k with
 | true=>exact⟨Z1,l1,s1,r1,h1⟩
 | false=>exact⟨Z1,l1,s1,r1,h1⟩
theorem ar:PSs X [] (cq C (ah [])):=yC pss_nil fun D sv H ⟨Z,loc,s,r,h⟩=>h.nx r
theorem af{st:Stmt}{sts:List Stmt}{g:State→Res Fl}{gs:List (State→Res Fl)}(h1:PS X st (cq C g))(h2:PSs X sts (cq C (ah gs))):PSs X (st::sts) (cq C (ah (g::gs))):=by
 refine yC (pss_cons h1 h2) fun D sv H ⟨Z,loc,s,r,h⟩=>?_
 refine⟨Z,loc,s,r,?_⟩
 unfold ah at h
 cases e:g s with
 | stuck=>rw[e]at h;exact h
 | exc x s1=>rw[e]at h;exact h
 | ok k s1=>
  rw[e]at h
  cases k with
  | nx=>exact fun Z1 l1 sv1 H1 g1 r1=>⟨Z1,l1,s1,r1,bg.ext h g1⟩
  | ret rv=>exact h
  | brk=>exact h
  | cnt=>exact h
theorem A0{i:Nat}{x:Str}{p:Pos}(hN:X.N.Nodup)(hi:X.N[i]? =some x)(hx:Loc X.env.scope x)(hf:X.fn x=true∨X.env.scope.names.lookup x=some .local)(h:PE X e (ai C f))(hc:g8 e=true):
  PS X (.Assign [.Name x p] e pos) (cq C (aR i f)):=by
 refine sN (ps_set hN hi hx h (qT hc) hf) fun D sv H hl ⟨Z,loc,s,r,q⟩=>?_
 have hi':i<sv.length:=by rw[hl];exact(List.getElem?_eq_some_iff.mp hi).1
 refine(ai.oy r q).imp fun v H1 ⟨Z1,l1,s1,y,g1,r1,q1,h1⟩=>?_
 show D.nx (sv.set i (some v)) H1
 unfold pY at h1
 split at h1
 ·rename_i s2 e2
  obtain⟨Z2,g2,r2⟩:=r1.nk hi' q1 e2
  exact(h1.ext g2).nx r2
 ·exact h1.elim
def Bt:Expr→Bool
 | .Tuple .. =>false
 | _=>true
theorem H7{tg e:Expr}{env:Env}(h:Bt e=true):swappedStores [tg] e env=pure none:=by
 cases e<;> first | rfl | (cases tg<;> rfl) | cases h
theorem Cz{t:Tg}{tg:Expr}(h:PE X e (ai C f))(ht:PG X tg (n3 C t))(hc:g8 e=true)(hn:Bt e=true)(hs:notStar tg=true):PS X (.Assign [tg] e pos) (cq C (xp t f)):=by
 refine sN (ps_asg h ht (qT hc) (H7 hn) (by rw[sH hs];rfl)) fun D sv H hl ⟨Z,loc,s,r,q⟩=>?_
 refine(ai.v3 r q).imp fun v H1 ⟨Z1,l1,s1,y,g1,r1,st1,q1,h1⟩=>?_
 cases e1:bG y s1 with
 | stuck=>rw[e1]at h1;exact h1.elim
 | exc x s2=>rw[e1]at h1;exact h1.elim
 | ok z s2=>
  rw[e1]at h1
  dsimp only at h1
  obtain⟨Z2,g2,r2,q2⟩:=r1.bG q1 e1
  refine⟨Z2,l1,s2,z,r2,q2,?_⟩
  cases e2:e9 t z s2 with
  | none=>rw[e2]at h1;exact h1
  | some s3=>rw[e2]at h1;exact fun sv' _ r'=>bg.nx (bg.ext h1 g2) r'
end
end Vw
namespace Vw
open PySem L2 PyProof.Rows
section
variable{C:Cst}{Z Z':Hp}{loc loc':List Addr}{s s':State}{sv sv':L2.St}{H H':Hp}
variable{X:Cx}{e a b c:Expr}{es:List Expr}{pos:Pos}{f fa fb fc fo fi fv:State→Res RV}{ft:State→Res Bool}
theorem HL(hu:X.A.units+64<cLine):PSet X (fun o i v H Q=>∃ a H',o=.ref a∧DPut H a i v H'∧Q H'):=by
 intro pins s sv H o i v ov iv u Q I ro ri rv ⟨a,H',e,g,q⟩
 subst e
 cases ro
 exact d_setItem (by omega) I g ri rv fun s' I'=>⟨H',I',q⟩
theorem E5{t t':TSet}(h:PSet X t)(h':PSet X t'):PSet X (fun o i v H Q=>t o i v H Q∨t' o i v H Q):=by
 intro pins s sv H o i v ov iv u Q I ro ri rv q
 rcases q with q | q
 ·exact h pins s sv H o i v ov iv u Q I ro ri rv q
 ·exact h' pins s sv H o i v ov iv u Q I ro ri rv q
theorem wg:∀ {l:List Val} {xs:List V} (j:Nat) {x:Val} {v:V},aB C.cA Z loc l xs→bh C.cA Z loc x v→aB C.cA Z loc (l.set j x) (xs.set j v)
 | [],xs,j,x,v,h,q=>by rw[show xs=_ from h];exact rfl
 | y::l,xs,0,x,v,⟨w,t,e,q1,q2⟩,q=>by rw[e];exact⟨v,t,rfl,q,q2⟩
 | y::l,xs,j+1,x,v,⟨w,t,e,q1,q2⟩,q=>by rw[e];exact⟨w,t.set j v,rfl,q1,wg j q2 q⟩
theorem Ih:∀ {l:List (K0×Val)} {ws:List (Key×V)} (k:K0),cj C.cA Z loc l ws→(l.any fun p=>decide (p.1=k))=ws.any fun p=>decide (p.1=kz k)
 | [],ws,k,h=>by rw[show ws=_ from h];rfl
 | (k',x)::l,ws,k,⟨v,t,e,q,r⟩=>by
  rw[e,List.any_cons,List.any_cons,Ih k r]
  congr 1
  by_cases h:k'=k
  ·simp[h]
  ·have h2:¬ kz k'=kz k:=fun z=>h (uc z)
   simp[h,h2]
theorem Ic:∀ {l:List (List K0×Val)} {ws:List (List Key×V)} (k:List K0),cz C.cA Z loc l ws→(l.any fun p=>decide (p.1=k))=ws.any fun p=>decide (p.1=k.map kz)
 | [],ws,k,h=>by rw[show ws=_ from h];rfl
 | (k',x)::l,ws,k,⟨v,t,e,q,r⟩=>by
  rw[e,List.any_cons,List.any_cons,Ic k r]
  congr 1
  by_cases h:k'=k
  ·simp[h]
  ·have h2:¬ k'.map kz=k.map kz:=fun z=>h (kZ z)
   simp[h,h2]
theorem Ds:∀ {l:List (K0×Val)} {ws:List (Key×V)} (k:K0) {x:Val} {v:V},cj C.cA Z loc l ws→bh C.cA Z loc x v→
  cj C.cA Z loc (l.map fun p=>if p.1=k then(p.1,x)else p) (ws.map fun p=>if p.1=kz k then(p.1,v)else p)
 | [],ws,k,x,v,h,q=>by rw[show ws=_ from h];exact rfl
 | (k',y)::l,ws,k,x,v,⟨w,t,e,q1,r⟩,q=>by
  rw[e,List.map_cons,List.map_cons]
  by_cases h:k'=k
  ·rw[if_pos h,if_pos (by rw[h])];exact⟨v,_,rfl,q,Ds k r q⟩
  ·rw[if_neg h,if_neg (fun z=>h (uc z))];exact⟨w,_,rfl,q1,Ds k r q⟩
theorem CC:∀ {l:List (List K0×Val)} {ws:List (List Key×V)} (k:List K0) {x:Val} {v:V},cz C.cA Z loc l ws→bh C.cA Z loc x v→
  cz C.cA Z loc (l.map fun p=>if p.1=k then(p.1,x)else p) (ws.map fun p=>if p.1=k.map kz then(p.1,v)else p)
 | [],ws,k,x,v,h,q=>by rw[show ws=_ from h];exact rfl
 | (k',y)::l,ws,k,x,v,⟨w,t,e,q1,r⟩,q=>by
  rw[e,List.map_cons,List.map_cons]
  by_cases h:k'=k
  ·rw[if_pos h,if_pos (by rw[h])];exact⟨v,_,rfl,q,CC k r q⟩
  ·rw[if_neg h,if_neg (fun z=>h (kZ z))];exact⟨w,_,rfl,q1,CC k r q⟩
theorem GN:∀ {l m:List (K0×Val)} {ws us:List (Key×V)},cj C.cA Z loc l ws→cj C.cA Z loc m us→cj C.cA Z loc (l++m) (ws++us)
 | [],m,ws,us,h,q=>by rw[show ws=_ from h];exact q
 | (k,y)::l,m,ws,us,⟨w,t,e,q1,r⟩,q=>by rw[e];exact⟨w,t++us,rfl,q1,GN r q⟩
theorem Gb:∀ {l m:List (List K0×Val)} {ws us:List (List Key×V)},cz C.cA Z loc l ws→cz C.cA Z loc m us→cz C.cA Z loc (l++m) (ws++us)
 | [],m,ws,us,h,q=>by rw[show ws=_ from h];exact q
 | (k,y)::l,m,ws,us,⟨w,t,e,q1,r⟩,q=>by rw[e];exact⟨w,t++us,rfl,q1,Gb r q⟩
theorem IU{l:List (K0×Val)}{ws:List (Key×V)}(k:K0){x:Val}{v:V}(h:cj C.cA Z loc l ws)(q:bh C.cA Z loc x v):cj C.cA Z loc (iE l k x) (putK ws (kz k) v):=by
 unfold iE putK
 rw[Ih k h]
 split
 ·exact Ds k h q
 ·exact GN h ⟨v,[],rfl,q,rfl⟩
theorem IW{l:List (List K0×Val)}{ws:List (List Key×V)}(k:List K0){x:Val}{v:V}(h:cz C.cA Z loc l ws)(q:bh C.cA Z loc x v):cz C.cA Z loc (iE l k x) (putK ws (k.map kz) v):=by
 unfold iE putK
 rw[Ic k h]
 split
 ·exact CC k h q
 ·exact Gb h ⟨v,[],rfl,q,rfl⟩
theorem Hl:∀ {l:List (K0×Val)} {ws:List (Key×V)},cj C.cA Z loc l ws→l.length=ws.length
 | [],ws,h=>by rw[show ws=_ from h];rfl
 | (k,y)::l,ws,⟨w,t,e,q1,r⟩=>by rw[e,List.length_cons,List.length_cons,Hl r]
theorem HX:∀ {l:List (List K0×Val)} {ws:List (List Key×V)},cz C.cA Z loc l ws→l.length=ws.length
 | [],ws,h=>by rw[show ws=_ from h];rfl
 | (k,y)::l,ws,⟨w,t,e,q1,r⟩=>by rw[e,List.length_cons,List.length_cons,HX r]
def Jp:TSet:=fun o i v H Q=>rSetL o i v H Q∨∃ a H',o=.ref a∧DPut H a i v H'∧Q H'
theorem FZ(r:SR C Z loc s sv H){o i:RV}{x:Val}{u k v:V}(ho:aY C Z loc s sv H o u)(hi:aY C Z loc s sv H i k)(hx:bh C.cA Z loc x v)(e:qj o i x s=some s'){Q:Hp→Prop}(q:∀ H',SR C Z loc s' sv H'→Q H'):Jp u k v H Q:=by
 unfold qj at e
 split at e
 ·rename_i l n e1 e2
  split at e
  ·rename_i j e3
   cases e
   obtain⟨a,h1,_,xs,h2,h3⟩:=r.ob ho e1
   refine .inl ⟨a,xs,n,j,h1,r.dv hi e2,h2,by rw[←bu h3];exact e3,q _ ?_⟩
   exact r.write ho e1 h1 (by simp) (fun _ _ z=>by rw[h2]at z;cases z) ⟨_,upd_same,wg j h3 hx⟩
  ·cases e
 ·rename_i l d e1 e2
  split at e
  ·rename_i k' e3
   split at e
   ·rename_i hl
    cases e
    obtain⟨a,h1,_,xs,h2,h3⟩:=r.ob ho e1
    have h2:H a=some (.dK xs):=h2
    refine .inr ⟨a,_,h1,.inl ⟨xs,kz k',h2,Ap e3 (r.dv hi e2),by rw[←Hl h3];exact hl,rfl⟩,q _ ?_⟩
    exact r.write ho e1 h1 (by simp) (fun _ _ z=>by rw[h2]at z;cases z) ⟨_,upd_same,IU k' h3 hx⟩
   ·cases e
  ·cases e
 ·rename_i l d e1 e2
  split at e
  ·rename_i k' e3
   split at e
   ·rename_i hl
    cases e
    obtain⟨a,h1,_,xs,h2,h3⟩:=r.ob ho e1
    have h2:H a=some (.dT xs):=h2
    obtain⟨b,vs,h4,h5,h6⟩:=r.dv hi e2
    have hb:H b=some (.tup ((k'.map kz).map kV)):=by
     rw[←yK e3 h6]
     exact(r.zh b _ h5).at rfl
    refine .inr ⟨a,_,h1,.inr ⟨xs,k'.map kz,b,h2,h4,hb,by rw[←HX h3];exact hl,rfl⟩,q _ ?_⟩
    exact r.write ho e1 h1 (by simp) (fun _ _ z=>by rw[h2]at z;cases z) ⟨_,upd_same,IW k' h3 hx⟩
   ·cases e
  ·cases e
 ·cases e
theorem FX{o i:Expr}{p:Pos}{env:Env}(h:l9 i=true):∀ v,assign (.Subscript o i p) env v=(do
   let ov ←holding [v] (eval o env)
   let iv ←holding [v,ov] (eval i env)
   standAt p
   holding [v,ov,iv] (setItem ov iv v)
   release [v,ov,iv] []):=by
 intro v
 cases i<;> first | rfl | cases h
theorem Fw{t e:Expr}{n:Nat}{env:Env}(h:g8 e=true):swapsWithSole [t] e n env=pure false:=by
 cases e<;> first | rfl | cases h
theorem D0{o i v:Expr}{p:Pos}(hu:X.A.units+64<cLine)(ho:PE X o (ai C fo))(hi:PE X i (ai C fi))(hv:PE X v (ai C fv))(hs:l9 i=true)(hc:g8 v=true):
  PS X (.Assign [.Subscript o i p] v pos) (cq C (uz fo fi fv)):=by
 refine fw (ps_asg hv (pg_sub ho hi (E5 set_list (HL hu)) (FX hs)) (Fw hc) (by cases v<;> rfl)) fun D sv H ⟨Z,loc,s,r,q⟩=>?_
 refine(ai.v3 r q).imp fun x H1 ⟨Z1,l1,s1,y,g1,r1,st1,q1,h1⟩=>?_
 show ai C fo sv H1 _
 refine(ai.v3 r1 h1).imp fun u H2 ⟨Z2,l2,s2,y2,g2,r2,st2,q2,h2⟩=>?_
 refine(ai.v3 r2 h2).imp fun k H3 ⟨Z3,l3,s3,y3,g3,r3,st3,q3,h3⟩=>?_
 have q1':=q1.mono (s':=s3) (H':=H3) (g2.trans g3) st1
 have q2':=q2.mono (s':=s3) (H':=H3) g3 st2
 cases e1:bG y s3 with
 | stuck=>rw[e1]at h3;exact h3.elim
 | exc x s4=>rw[e1]at h3;exact h3.elim
 | ok z s4=>
  rw[e1]at h3
  dsimp only at h3
  obtain⟨Z4,g4,r4,q4⟩:=r3.bG q1' e1
  unfold pY at h3
  split at h3
  ·rename_i s5 e5
   exact FZ r4 (q2'.mono (s':=s4) (H':=H3) g4 st2) (q3.mono (s':=s4) (H':=H3) g4 st3) q4 e5 fun H' r'=>bg.nx (bg.ext h3 g4) r'
  ·exact h3.elim
theorem C7{n:Nat}{b:List Stmt}{sb:State→Res Fl}(hp:PassesOwn (model X.prog X.w) X.A X.env X.xe)(ht:PT X c (cQ C ft))(hb:PSs X b (cq C sb)):PS X (.While c b [] pos) (cq C (oX n ft sb)):=by
 refine fw (ps_while hp ht hb) fun D sv H ⟨Z0,loc0,s0,r0,q0⟩=>?_
 refine⟨fun m sv H=>∃ Z loc s,SR C Z loc s sv H∧bg C Z loc (oX m ft sb s) D,⟨n,Z0,loc0,s0,r0,q0⟩,?_⟩
 rintro m sv H ⟨Z,loc,s,r,q⟩
 cases m with
 | zero=>exact q.elim
 | succ m=>
  unfold oX at q
  refine(cQ.oy r q).imp fun k H1 ⟨Z1,l1,s1,g1,r1,h1⟩=>?_
  cases k with
  | false=>
   rw[if_neg Bool.false_ne_true]at h1 ⊢
   exact h1.nx r1
  | true=>
   rw[if_pos rfl]at h1 ⊢
   refine⟨fun sv' H'=>∃ Z loc s,SR C Z loc s sv' H'∧bg C Z loc (oX m ft sb s) D,fun sv' H' h=>⟨m,Nat.lt_succ_self m,h⟩,⟨Z1,l1,s1,r1,?_⟩⟩
   cases e:sb s1 with
   | stuck=>rw[e]at h1;exact h1
   | exc x s2=>rw[e]at h1;exact h1
   | ok k s2=>
    rw[e]at h1
    cases k with
    | nx=>exact fun Z2 l2 sv2 H2 g2 r2=>⟨Z2,l2,s2,r2,bg.ext h1 g2⟩
    | cnt=>exact fun Z2 l2 sv2 H2 g2 r2=>⟨Z2,l2,s2,r2,bg.ext h1 g2⟩
    | brk=>exact fun Z2 l2 sv2 H2 g2 r2=>bg.nx (bg.ext h1 g2) r2
    | ret rv=>exact h1
structure CLe (C C':Cst):Prop where
 ca:C'.cA=C.cA
 fr:C'.Fr=C.Fr
 w:C'.W=C.W
 h0:∀ (a:Addr) (o:Obj) (u:HO),C.H0 a=some (.frz o u)→C'.H0 a=some (.frz o u)
theorem CLe.refl(C:Cst):CLe C C:=⟨rfl,rfl,rfl,fun _ _ _ h=>h⟩
theorem SR.le{C':Cst}(c:CLe C C')(r:SR C' Z loc s sv H):SR C Z loc s sv H:=by
 obtain⟨a,f,h,w⟩:=C
 obtain⟨a',f',h',w'⟩:=C'
 obtain⟨c1,c2,c3,c4⟩:=c
 dsimp only at c1 c2 c3 c4
 subst c1 c2 c3
 exact⟨r.fr,r.zh,r.zf,fun b o u e=>r.lk b o u (c4 b o u e),r.ln,r.nd,r.lh,r.cl,r.vl,r.ow,r.oi,r.ls⟩
def lV(H Z H' Z':Hp):Prop:=Same H H'∧∀ a,H a≠none→Z' a=Z a
theorem lV.refl(H Z:Hp):lV H Z H Z:=⟨Same.refl _,fun _ _=>rfl⟩
structure WalkS (C:Cst) (Z:Hp) (loc:List Addr) (l:List Val) (J:It) (G:Hp→Prop) (Y:Nat→Hp→V→Hp→Prop):Prop where
 w:Walk J l.length G Y
 g:∀ Z' loc' s sv H,Ext Z loc Z' loc'→SR C Z' loc' s sv H→G H
 y:∀ Z' loc' s sv H (i:Nat) x v H',Ext Z loc Z' loc'→SR C Z' loc' s sv H→l[i]? =some x→Y i H v H'→∃ Z'',Ext Z' loc' Z'' loc'∧lV H Z' H' Z''∧SR C Z'' loc' s sv H'∧bh C.cA Z'' loc' x v
def jC(C:Cst)(f:State→Res (List Val)):TI:=fun sv H R=>∃ Z loc s,SR C Z loc s sv H∧match f s with
 | .ok l s'=>∀ Z' loc' H' C' J G Y,CLe C C'→Ext Z loc Z' loc'→SR C' Z' loc' s' sv H'→WalkS C' Z' loc' l J G Y→R J H'
 | .exc x s'=>∀ Z' loc' H' c d,Ext Z loc Z' loc'→SR C Z' loc' s' sv H'→jJ C Z' H' x c d→C.W c d sv H'
 | .stuck=>False
def de(t:Tg)(src:State→Res (List Val))(b:State→Res Fl)(s:State):Res Fl:=(src s).bind fun l s=>g9 t b l s
theorem II{t:Tg}{tg it:Expr}{b:List Stmt}{sb:State→Res Fl}{src:State→Res (List Val)}(hp:PassesOwn (model X.prog X.w) X.A X.env X.xe)(hc:X.calm=true)(hi:PI X tg it (jC C src))
  (hg:∀ C',CLe C C'→PG X tg (n3 C' t)) (hb:∀ C',CLe C C'→PSs X b (cq C' sb)) (hs:cg it=true):PS X (.For tg it b [] pos) (cq C (de t src sb)):=by
 refine⟨fun pins t0 sv H D I ⟨Z,loc,s,r,q⟩=>?_⟩
 -- the ends by any of the body's constants
 refine(ps_for (g:=fun v sv H Q=>∃ C',CLe C C'∧n3 C' t v sv H Q) (tb:=fun D sv H=>∃ C',CLe C C'∧cq C' sb D sv H) hp hc hi
  ⟨fun pins s sv H v u Q I r ⟨C',c,q⟩=>(hg C' c).run pins s sv H v u Q I r q⟩ ⟨fun pins s sv H D I ⟨C',c,q⟩=>(hb C' c).run pins s sv H D I q⟩ (fold_ok hs)).run pins t0 sv H D I ?_
 refine⟨Z,loc,s,r,?_⟩
 unfold de at q
 cases e:src s with
 | stuck=>rw[e]at q;exact q
 | exc x s1=>rw[e]at q;exact fun Z' loc' H' c d=>q Z' loc' sv H' c d
 | ok l s1=>
  rw[e]at q
  intro Z1 l1 H1 C' J G Y cle g1 r1 wk
  have q:bg C Z loc (g9 t sb l s1) D:=q
  refine for_it (g:=fun v sv H Q=>∃ C',CLe C C'∧n3 C' t v sv H Q) (tb:=fun D sv H=>∃ C',CLe C C'∧cq C' sb D sv H) (D:=D) wk.w (fun i sv H=>∃ Z2 l2 s2,Ext Z1 l1 Z2 l2∧SR C' Z2 l2 s2 sv H∧bg C Z2 l2 (g9 t sb (l.drop i) s2) D)
   ⟨Z1,l1,s1,Ext.refl _ _,r1,q.ext g1⟩ (fun i sv H _ ⟨Z2,l2,s2,g2,r2,_⟩=>wk.g Z2 l2 s2 sv H g2 r2) ?_ ?_
  ·rintro i v sv2 H2 H3 hi ⟨Z2,l2,s2,g2,r2,q2⟩ hy
   rw[List.drop_eq_getElem_cons hi]at q2
   obtain⟨Z3,g3,_,r3,q3⟩:=wk.y Z2 l2 s2 sv2 H2 i l[i] v H3 g2 r2 (by simp[hi]) hy
   refine⟨C',cle,Z3,l2,s2,l[i],r3,q3,?_⟩
   unfold g9 at q2
   cases e1:e9 t l[i] s2 with
   | none=>rw[e1]at q2;exact q2
   | some s3=>
    rw[e1]at q2
    intro sv4 _ r4
    refine⟨C',cle,Z3,l2,s3,r4,?_⟩
    dsimp only at q2
    have q2':=bg.ext q2 g3
    cases e2:sb s3 with
    | stuck=>rw[e2]at q2';exact q2'
    | exc x s5=>
     rw[e2]at q2'
     have q2':bg C Z3 l2 (.exc x s5) D:=q2'
     intro Z5 l5 sv5 H5 c d g5 r5 x5
     have:=q2' Z5 l5 sv5 H5 c d g5 (SR.le cle r5)
     unfold jJ at this x5
     rw[cle.ca]at x5
     rw[cle.w]
     exact this x5
    | ok k s5=>
     rw[e2]at q2'
     cases k with
     | nx=>exact fun Z5 l5 sv5 H5 g5 r5=>⟨Z5,l5,s5,g2.trans (g3.trans g5),r5,bg.ext q2' g5⟩
     | cnt=>exact fun Z5 l5 sv5 H5 g5 r5=>⟨Z5,l5,s5,g2.trans (g3.trans g5),r5,bg.ext q2' g5⟩
     | brk=>exact fun Z5 l5 sv5 H5 g5 r5=>bg.nx (bg.ext q2' g5) (SR.le cle r5)
     | ret rv=>
      intro Z5 l5 sv5 H5 v5 g5 r5 q5
      refine q2' Z5 l5 sv5 H5 v5 g5 (SR.le cle r5) ?_
      cases rv with
      | val x=>have q5:bh C'.cA Z5 l5 x v5:=q5;rw[cle.ca]at q5;exact q5
      | own j=>exact q5
      | new o=>
       obtain⟨a,h1,h2,h3,h4⟩:=q5
       rw[cle.ca]at h3
       exact⟨a,h1,h2,h3,h4.z,by rw[←cle.fr];exact h4.f,h4.l,h4.o⟩
  ·rintro sv2 H2 ⟨Z2,l2,s2,g2,r2,q2⟩
   rw[List.drop_length]at q2
   exact bg.nx q2 (SR.le cle r2)
end
end Vw
namespace Vw
open PySem L2 PyProof.Rows
def kI(r:RV)(s:State):Res D:=
 match bG r s with
 | .ok (.d x) s=>.ok x s
 | _=>.stuck
def DU:K0→D
 | .i n=>.int n
 | .s t=>.str t
def itemsOf:D→State→Res (List Val)
 | .lst l,s=>.ok (l.map .d) s
 | .tup l,s=>.ok (l.map .d) s
 | .str t,s=>.ok (t.map fun c=>.d (.str [c])) s
 | .dic l,s=>.ok (l.map fun p=>.d (DU p.1)) s
 | _,s=>.stuck
def mq:D→State→Res (List Val)
 | .lst l,s=>.ok (l.mapIdx fun i x=>.d (.tup [.int i,x])) s
 | .str t,s=>.ok (t.mapIdx fun i c=>.d (.tup [.int i,.str [c]])) s
 | _,s=>.stuck
def sD(f:State→Res RV)(k:D→State→Res (List Val))(s:State):Res (List Val):=(ev f s).bind fun r s=>(kI r s).bind k
def jT(lo hi:Int)(s:State):Res (List Val):=
 if-(2^62)≤lo∧lo<2^62∧ -(2^62)≤hi∧hi<2^62 then .ok ((List.range (hi-lo).toNat).map fun i=>.d (.int (lo+(i:Nat)))) s else .stuck
section
variable{C:Cst}{Z Z':Hp}{loc loc':List Addr}{s s':State}{sv sv':L2.St}{H H':Hp}
variable{X:Cx}{e a b c tg:Expr}{es:List Expr}{pos:Pos}{f fa fb fc fo fi fv:State→Res RV}
theorem ai.HC{rv:RV}(r:SR C Z loc s sv H)(e:ev f s=.ok rv s'):ai C f sv H (fun v H'=>∃ Z' loc',Ext Z loc Z' loc'∧SR C Z' loc' s' sv H'∧tF rv∧aY C Z' loc' s' sv H' rv v):=by
 refine⟨Z,loc,s,r,?_⟩
 unfold ev at e
 cases e1:f s with
 | stuck=>rw[e1]at e;cases e
 | exc x s1=>rw[e1]at e;cases e
 | ok r0 s1=>
  rw[e1]at e
  intro Z1 l1 H1 v g r1 q
  obtain⟨rfl,st,Z2,g2,r2,q2⟩:=r1.settle q e
  exact⟨Z2,l1,g.trans g2,r2,st,q2⟩
theorem ai.Lu{x:Exn}{Q:VK}(r:SR C Z loc s sv H)(e:ev f s=.exc x s')(h:∀ Z' loc' H' c d,Ext Z loc Z' loc'→SR C Z' loc' s' sv H'→jJ C Z' H' x c d→C.W c d sv H'):ai C f sv H Q:=by
 refine⟨Z,loc,s,r,?_⟩
 unfold ev at e
 cases e1:f s with
 | stuck=>rw[e1]at e;cases e
 | exc x s1=>rw[e1]at e;cases e;exact h
 | ok r0 s1=>rw[e1]at e;exact absurd e vz
theorem SR.kI(r:SR C Z loc s sv H){rv:RV}{v:V}{x:D}(h:aY C Z loc s sv H rv v)(e:kI rv s=.ok x s'):∃ Z',Ext Z loc Z' loc∧SR C Z' loc s' sv H∧aL C.cA Z' x v:=by
 unfold Vw.kI at e
 split at e
 ·rename_i y s1 e1
  cases e
  exact r.bG h e1
 ·cases e
theorem FJ{rv:RV}{x:Exn}{s s':State}:kI rv s≠ .exc x s':=by
 unfold kI
 split<;> simp
theorem tc{w w':TI}(h:PI X tg e w)(h':PI X tg e w'):PI X tg e (fun sv H R=>w sv H R∨w' sv H R):=
 ⟨fun pins s sv H R I q=>q.elim (h.run pins s sv H R I) (h'.run pins s sv H R I)⟩
theorem qM{w w':TI}(h:PI X tg e w)(m:∀ sv H R,w' sv H R→w sv H R):PI X tg e w':=⟨fun pins s sv H R I q=>h.run pins s sv H R I (m sv H R q)⟩
def Mu(t:TE):TE:=fun sv H Q=>t sv H fun x H1=>(∃ d u,x=.ref d∧H1 d=some u∧nh u=true∧∀ od,Q x (upd H1 d (.frz od u)))∨Q x H1
theorem IB{t:TE}(h:PE X e t):PE X e (Mu t):=by
 refine⟨fun pins s sv H Q I q=>thn (h.run pins s sv H _ I q) fun v s1 ⟨x,H1,I1,rx,q1⟩=>?_⟩
 rcases q1 with⟨d,u,e1,h1,h2,q1⟩ | q1
 ·obtain⟨od,I2⟩:=I1.lock h1 (by cases u<;> first | trivial | cases h2)
  exact⟨x,_,I2,rx,q1 od⟩
 ·exact⟨x,H1,I1,rx,q1⟩
theorem SR.Ef(r:SR C Z loc s sv H){d:Addr}{u:HO}(hz:Z d=some u)(hu:nh u=true)(hd:H d=some u)(od:Obj):
  CLe C { C with H0:=upd C.H0 d (.frz od u) }∧SR { C with H0:=upd C.H0 d (.frz od u) } Z loc s sv (upd H d (.frz od u)):=by
 have nf:∀ o w,C.H0 d≠some (.frz o w):=fun o w e=>by
  have:=r.lk d o w e
  rw[hd]at this
  cases this
  cases hu
 have fd:C.Fr d=none:=r.zf d u hz
 have cellAt:∀ {b:Addr} {ob:Ob},b≠d→Cell C.cA Z loc H b ob→Cell C.cA Z loc (upd H d (.frz od u)) b ob:=fun {b ob} hb x=>x.at (upd_ne hb)
 refine⟨⟨rfl,rfl,rfl,fun b o w e=>?_⟩,?_⟩
 ·have hb:b≠d:=fun z=>nf o w (z▸e)
  show upd C.H0 d _ b=_
  rw[upd_ne hb];exact e
 ·refine⟨fun b x hx=>?_,fun b x hx=>?_,r.zf,fun b o w e=>?_,r.ln,r.nd,fun b hb=>?_,fun n b ob h1 h2 h3=>?_,r.vl,fun i ob h=>?_,r.oi,r.ls⟩
  ·have hx:C.Fr b=some x:=hx
   have hb:b≠d:=fun z=>by rw[z,fd]at hx;cases hx
   rw[upd_ne hb];exact r.fr b x hx
  ·by_cases hb:b=d
   ·subst hb
    rw[hz]at hx
    cases hx
    exact .inr ⟨hu,od,upd_same⟩
   ·unfold Rz
    rw[upd_ne hb];exact r.zh b x hx
  ·have e:upd C.H0 d (.frz od u) b=some (.frz o w):=e
   by_cases hb:b=d
   ·subst hb
    rw[upd_same]at e
    cases e
    exact upd_same
   ·rw[upd_ne hb]at e ⊢
    exact r.lk b o w e
  ·refine⟨?_,(r.lh b hb).2⟩
   by_cases hbd:b=d
   ·rw[hbd,upd_same];simp
   ·rw[upd_ne hbd];exact(r.lh b hb).1
  ·obtain⟨q1,q2⟩:=r.cl n b ob h1 h2 h3
   have hb:b≠d:=fun z=>by rw[z,hz]at q2;cases q2
   exact⟨cellAt hb q1,q2⟩
  ·obtain⟨b,h1,h2,h3,h4,h5⟩:=r.ow i ob h
   have hb:b≠d:=fun z=>by rw[z,hz]at h4;cases h4
   exact⟨b,h1,h2,cellAt hb h3,h4,h5⟩
theorem Es{K:PySem.W.Frag}{ds:List D}{a:Addr}{vs:List V}(hz:Z a=some (.lst vs)∨∃ o,Z a=some (.frz o (.lst vs)))(q:br C.cA Z ds vs):
  WalkS C Z loc (ds.map .d) (Itl K a) (fun H=>SqL K H a vs) (YAt vs):=by
 have hl:(ds.map Val.d).length=vs.length:=bu (loc:=loc) (cZ.mpr q)
 refine⟨by rw[hl];exact walk_list,fun Z' loc' s sv H g r=>?_,fun Z' loc' s sv H i x v H' g r hx y=>?_⟩
 ·rcases hz with z | ⟨o,z⟩
  ·exact .inl (.inl ((r.zh a _ (g.1 _ _ z)).at rfl))
  ·exact .inl (.inr ⟨o,(r.zh a _ (g.1 _ _ z)).at rfl⟩)
 ·obtain⟨rfl,y⟩:=y
  obtain⟨v',h1,h2⟩:=fF (cZ.mpr q) hx
  rw[y]at h1
  cases h1
  exact⟨Z',Ext.refl _ _,lV.refl _ _,r,h2.mono g⟩
theorem JZ{K:PySem.W.Frag}{ds:List D}{a:Addr}{vs:List V}(hz:Z a=some (.tup vs))(q:br C.cA Z ds vs):
  WalkS C Z loc (ds.map .d) (Itt K a) (fun H=>SqT K H a vs) (YAt vs):=by
 have hl:(ds.map Val.d).length=vs.length:=bu (loc:=loc) (cZ.mpr q)
 refine⟨by rw[hl];exact walk_tup,fun Z' loc' s sv H g r=>?_,fun Z' loc' s sv H i x v H' g r hx y=>?_⟩
 ·exact .inl (.inl ((r.zh a _ (g.1 _ _ hz)).at rfl))
 ·obtain⟨rfl,y⟩:=y
  obtain⟨v',h1,h2⟩:=fF (cZ.mpr q) hx
  rw[y]at h1
  cases h1
  exact⟨Z',Ext.refl _ _,lV.refl _ _,r,h2.mono g⟩
theorem IS{t:List Nat}:∃ G Y,WalkS C Z loc (t.map fun c=>.d (.str [c])) (Its ⟨t.toArray⟩) G Y:=by
 refine⟨_,_,by simpa using walk_str (z:=⟨t.toArray⟩),fun _ _ _ _ _ _ _=>trivial,fun Z' loc' s sv H i x v H' g r hx y=>?_⟩
 obtain⟨rfl,c,y1,y2⟩:=y
 rw[List.getElem?_map]at hx
 have y1:t[i]? =some c:=by simpa using y1
 rw[y1]at hx
 cases hx
 exact⟨Z',Ext.refl _ _,lV.refl _ _,r,y2⟩
theorem J4{lo:Int}{n:Nat}:∃ G Y,WalkS C Z loc ((List.range n).map fun i=>.d (.int (lo+(i:Nat)))) (Itr lo n) G Y:=by
 refine⟨_,_,by simpa using walk_range (lo:=lo) (n:=n),fun _ _ _ _ _ _ _=>trivial,fun Z' loc' s sv H i x v H' g r hx y=>?_⟩
 obtain⟨rfl,y⟩:=y
 rw[List.getElem?_map]at hx
 obtain⟨j,h1,h2⟩:=Option.map_eq_some_iff.mp hx
 have h3:=List.getElem?_eq_some_iff.mp h1
 obtain⟨h4,h5⟩:=h3
 rw[List.getElem_range]at h5
 subst h5 h2
 exact⟨Z',Ext.refl _ _,lV.refl _ _,r,y⟩
theorem D5{xs ys:Nat→Option V}{Z:Hp}{loc:List Addr}(r:SR C Z loc s sv H){i:Nat}{v:V}{d1 d2:D}(y:YPair xs ys i H v H')(h1:∀ u,xs i=some u→aL C.cA Z d1 u)(h2:∀ u,ys i=some u→aL C.cA Z d2 u):
  ∃ Z'',Ext Z loc Z'' loc∧lV H Z H' Z''∧SR C Z'' loc s sv H'∧bh C.cA Z'' loc (.d (.tup [d1,d2])) v:=by
 obtain⟨T,x,y,rfl,hT,rfl,e1,e2⟩:=y
 have f:=r.free hT
 have g:=bp (o:=.tup [x,y]) f.z
 exact⟨_,Ext.z g,⟨bp hT,fun b hb=>upd_ne fun z=>hb (z▸hT)⟩,(r.grow (bp hT)).tM upd_same f,T,[x,y],rfl,upd_same,x,[y],rfl,aL.mono g d1 (h1 x e1),y,[],rfl,aL.mono g d2 (h2 y e2),rfl⟩
theorem Cb{ds:List D}{vs:List V}{i:Nat}{u:V}(q:br C.cA Z ds vs)(h:vs[i]? =some u):∃ d,ds[i]? =some d∧aL C.cA Z d u:=by
 have hl:(ds.map Val.d).length=vs.length:=bu (loc:=[]) (cZ.mpr q)
 have hi:i<ds.length:=by
  have:=(List.getElem?_eq_some_iff.mp h).1
  simpa [←hl]using this
 obtain⟨v',h1,h2⟩:=fF (loc:=[]) (cZ.mpr q) (i:=i) (x:=.d ds[i]) (by simp[hi])
 rw[h]at h1
 cases h1
 exact⟨ds[i],by simp[hi],h2⟩
theorem IA{K:PySem.W.Frag}{ds:List D}{a:Addr}{vs:List V}(hz:Z a=some (.lst vs)∨∃ o,Z a=some (.frz o (.lst vs)))(q:br C.cA Z ds vs):
  ∃ G Y,WalkS C Z loc (ds.mapIdx fun i x=>.d (.tup [.int i,x])) (Ite K a) G Y:=by
 have hl:(ds.map Val.d).length=vs.length:=bu (loc:=loc) (cZ.mpr q)
 refine⟨_,_,by rw[List.length_mapIdx,←List.length_map (f:=Val.d),hl];exact walk_enum (xs:=vs) (K:=K),fun Z' loc' s sv H g r=>?_,fun Z' loc' s sv H i x v H' g r hx y=>?_⟩
 ·rcases hz with z | ⟨o,z⟩
  ·exact .inl (.inl ((r.zh a _ (g.1 _ _ z)).at rfl))
  ·exact .inl (.inr ⟨o,(r.zh a _ (g.1 _ _ z)).at rfl⟩)
 ·rw[List.getElem?_mapIdx]at hx
  obtain⟨d,h1,rfl⟩:=Option.map_eq_some_iff.mp hx
  refine D5 r y (fun u e=>by cases e;rfl) fun u e=>?_
  obtain⟨d',h2,h3⟩:=Cb q e
  rw[h1]at h2
  cases h2
  exact aL.mono g.1 d h3
theorem vE:∀ {l:List (K0×D)} {ws:List (Key×V)} {i:Nat} {p:K0×D},hE C.cA Z l ws→l[i]? =some p→∃ v,ws[i]? =some (kz p.1,v)∧aL C.cA Z p.2 v
 | [],ws,i,p,h,e=>by simp at e
 | (k,x)::l,ws,0,p,⟨v,t,e1,q,r⟩,e=>by
  rw[e1]
  simp at e
  subst e
  exact⟨v,rfl,q⟩
 | (k,x)::l,ws,i+1,p,⟨v,t,e1,q,r⟩,e=>by
  rw[e1]
  exact vE (i:=i) r (by simpa using e)
theorem wj:∀ {l:List (K0×D)} {ws:List (Key×V)},hE C.cA Z l ws→l.length=ws.length
 | [],ws,h=>by rw[show ws=_ from h];rfl
 | (k,y)::l,ws,⟨w,t,e,q1,r⟩=>by rw[e,List.length_cons,List.length_cons,wj r]
theorem FN(k:K0):aL C.cA Z (DU k) (kV (kz k)):=by cases k<;> rfl
theorem IK{d:Addr}{u:HO}{od:Obj}{Z':Hp}{loc':List Addr}(h0:C.H0 d=some (.frz od u))(r:SR C Z' loc' s sv H):H d=some (.frz od u):=r.lk d od u h0
theorem J9{l:List (K0×D)}{d:Addr}{od:Obj}{ws:List (Key×V)}(h0:C.H0 d=some (.frz od (.dK ws)))(q:hE C.cA Z l ws):∃ G Y,WalkS C Z loc (l.map fun p=>.d (DU p.1)) (Itk d od ws) G Y:=by
 refine⟨_,_,by rw[List.length_map,wj q];exact walk_keys (d:=d) (o:=od) (kvs:=ws),fun Z' loc' s sv H g r=>IK h0 r,fun Z' loc' s sv H i x v H' g r hx y=>?_⟩
 obtain⟨rfl,k,w,h1,rfl⟩:=y
 rw[List.getElem?_map]at hx
 obtain⟨p,h2,rfl⟩:=Option.map_eq_some_iff.mp hx
 obtain⟨v',h3,h4⟩:=vE q h2
 rw[h1]at h3
 cases h3
 exact⟨Z',Ext.refl _ _,lV.refl _ _,r,FN p.1⟩
end
end Vw
namespace Vw
open PySem L2 PyProof.Rows
def AB(x:Str):It:=⟨fun i _=>i<x.cps.size,fun i H v H'=>∃ T c,v=.ref T∧H T=none∧H'=upd H T (.tup [.int (i:Nat),.str ⟨#[c]⟩])∧x.cps[i]? =some c,fun i _=>x.cps.size≤i⟩
theorem Am{P:Program}{w:World}{K:PySem.W.Frag}{elts:List Expr}{kk:Nat}{tpos:Pos}(x:Str)(t:Tok)(e it:Addr):
  Turn P w K (.Tuple elts kk tpos) (AB x) [e,it] e (fun i h=>((∃ old,IsEnum h e it ((i:Nat):Int) old)∧h.IsStrIter it (strIterType x) x t i)∧e≠it∧i≤x.cps.size) where
 mem:=by simp
 obj:=fun i h st b hb=>by
  obtain⟨⟨⟨old,he⟩,⟨o,ho,hc,hd⟩⟩,_⟩:=st
  have e':b=e∨b=it:=by simpa using hb
  rcases e' with z | z
  ·rw[z];exact⟨_,he,fun v q=>nomatch q⟩
  ·rw[z];exact⟨o,ho,fun v q=>by rw[hd]at q;cases q⟩
 keep:=fun i h h' st k=>by
  obtain⟨⟨⟨old,he⟩,⟨o,ho,hc,hd⟩⟩,hne⟩:=st
  exact⟨⟨⟨old,k e (by simp) _ he⟩,⟨o,k it (by simp) _ ho,hc,hd⟩⟩,hne⟩
 item:=by
  intro X hP hw hK hc i pins s sv H E I hf st hg
  subst hP hw hK
  obtain⟨⟨⟨old,he⟩,hit⟩,hne,hle⟩:=st
  have hi:i<x.cps.size:=hg
  have hh:X.A.in1.handled=none:=by have:=I.ok.hd hc;exact this
  have D:Draws X.prog X.w X.A.in1 it [it] x.cps.size (fun i v=>∃ c u,x.cps[i]? =some c∧v=.str ⟨#[c]⟩ u) (fun i h=>h.IsStrIter it (strIterType x) x t i):=by
   unfold strIterType
   split
   ·exact Draws.strAscii hh it x t
   ·exact Draws.strWide hh it x t
  have hel:e<s.heap.objs.size:=Heap.lt_size he
  have hil:it<s.heap.objs.size:=by obtain⟨_,q,_⟩:=hit;exact Heap.lt_size q
  refine wpAny_pyNext_enum_itemD D he hit hi hne (by simpa using hne) fun y h' tk hy ho hit' hT hsz hk=>?_
  obtain⟨c,u,hcx,rfl⟩:=hy
  refine⟨_,rfl,wpAny_letOwnedTupleGo_enum (s:={ s with heap:=h',toks:=tk+1 }) ho fun h'' he' sb=>?_⟩
  have hT2:h''.get? s.heap.objs.size=some { cls:=.type "tuple",data:=.seq #[.int i tk,.str ⟨#[c]⟩ u] }:=(sb.2 _ (Nat.ne_of_gt hel)).trans hT
  have new:ObjOk X.prog X.w (upd H s.heap.objs.size (.tup [.int (i:Nat),.str ⟨#[c]⟩])) h'' s.heap.objs.size (.tup [.int (i:Nat),.str ⟨#[c]⟩]):=
   ⟨by show 2≤sizeLine;decide,[.int i tk,.str ⟨#[c]⟩ u],.cons ⟨_,rfl⟩ (.cons ⟨_,rfl⟩ .nil),⟨_,hT2,rfl,_,rfl⟩⟩
  have I1:Inv X pins sv (upd H s.heap.objs.size (.tup [.int (i:Nat),.str ⟨#[c]⟩])) { s with heap:=h'',toks:=tk+1 }:=
   I.turnedNew (ch:=[e,it]) (fun b ob hb q=>(sb.2 b (fun z=>hb (by simp[z]))).trans (hk b ob (fun z=>hb (by simp[z])) (fun z=>hb (by simp[z])) q)) hf (Nat.le_refl _) new
  refine⟨.ref s.heap.objs.size,_,I1,rfl,⟨_,c,rfl,I.hok.fresh (Nat.le_refl _),rfl,hcx⟩,⟨⟨⟨.str ⟨#[c]⟩ u,?_⟩,?_⟩,hne,hi⟩,fun b hb=>?_⟩
  ·have e1:((i+1:Nat):Int)=(i:Int)+1:=by omega
   rw[e1];exact he'
  ·obtain⟨o,q1,q2⟩:=hit'
   exact⟨o,(sb.2 it (Ne.symm hne)).trans q1,q2⟩
  ·have hb':b<s.heap.objs.size:=by
    have e':b=e∨b=it:=by simpa using hb
    rcases e' with z | z
    ·rw[z];exact hel
    ·rw[z];exact hil
   rw[upd_ne (Nat.ne_of_lt hb')]
   exact(hf b hb).1
 done:=by
  intro X hP hw hK hc i pins s sv H E I hf st hg
  subst hP hw hK
  obtain⟨⟨⟨old,he⟩,hit⟩,hne,hle⟩:=st
  have hh:X.A.in1.handled=none:=by have:=I.ok.hd hc;exact this
  have D:Draws X.prog X.w X.A.in1 it [it] x.cps.size (fun i v=>∃ c u,x.cps[i]? =some c∧v=.str ⟨#[c]⟩ u) (fun i h=>h.IsStrIter it (strIterType x) x t i):=by
   unfold strIterType
   split
   ·exact Draws.strAscii hh it x t
   ·exact Draws.strWide hh it x t
  have hi:i=x.cps.size:=Nat.le_antisymm hle hg
  obtain⟨f0,f1,f2,f3,f4,f5⟩:=hf it (by simp)
  exact wpAny_pyNext_enum_endD D he (hi▸hit) fun h' eb=>⟨rfl,I.turned (t':=s.toks) (fun b o hb q=>eb b o hb q) f0 f1 f3 f4 f5⟩
 self:=fun A i s Q E st h=>let ⟨⟨⟨_,he⟩,_⟩,_⟩:=st;wpAny_pyIter_enum he h
def HB(ta:TA):TI:=fun sv H R=>ta sv H fun vs H1=>∃ x,vs=[.str x]∧R (AB x) H1
theorem CU{X:Cx}{e:Expr}{ta:TA}{p pos tpos:Pos}{elts:List Expr}{kk:Nat}(hg:Gl X "enumerate")(hm:X.mg "enumerate"=none)(ha:PA X [e] ta)(hs:starEach [e] X.env=[(false,eval e X.env)]):
  PI X (.Tuple elts kk tpos) (.Call (.Name "enumerate" p) [e] [] pos) (HB ta):=by
 refine⟨fun pins s sv H R I h=>?_⟩
 refine Call_ (ld_blt I hg hm boot_enumerate (PyProof.Rows.callWith_type1 (thn (ha.run pos pins s sv H _ I h) fun us s1 ⟨vs,H1,I1,r1,q1⟩=>?_) hs rfl))
 obtain⟨x,ex,q⟩:=q1
 subst ex
 cases r1 with
 | cons r rr=>
  cases rr
  obtain⟨t,rfl⟩:=r
  refine call_enumerate_str fun h' he hit hsz hk=>wpAny_pyIter_enum he ?_
  have I2:Inv X pins sv H1 { s1 with heap:=h' }:=I1.kept (t':=s1.toks) hk
  refine⟨s1.heap.objs.size+1,[s1.heap.objs.size+1,s1.heap.objs.size],_,_,H1,rfl,I2,Am x t (s1.heap.objs.size+1) s1.heap.objs.size,⟨⟨⟨.none,he⟩,hit⟩,Nat.succ_ne_self _,Nat.zero_le _⟩,fun b hb=>?_,q⟩
  have e':b=s1.heap.objs.size+1∨b=s1.heap.objs.size:=by simpa using hb
  have hle:s1.heap.objs.size≤b:=by
   rcases e' with z | z
   ·rw[z];exact Nat.le_add_right _ _
   ·rw[z];exact Nat.le_refl _
  exact I1.fpOk hle (I1.hok.fresh hle)
section
variable{C:Cst}{Z Z':Hp}{loc loc':List Addr}{s s':State}{sv sv':L2.St}{H H':Hp}
variable{X:Cx}{e a b c tg:Expr}{es:List Expr}{pos:Pos}{f fa fb fc fo fi fv:State→Res RV}
theorem A5{x:Str}:Walk (AB x) x.cps.size (fun _=>True) (YPair (fun i=>some (.int (i:Nat))) (fun i=>x.cps[i]?.map fun c=>.str ⟨#[c]⟩)):=by
 refine⟨fun i _ hi q=>hi,fun _ q=>Nat.le_refl _,fun i H v H' _ q y=>?_⟩
 obtain⟨T,c,h1,h2,h3,h4⟩:=y
 exact⟨T,.int (i:Nat),.str ⟨#[c]⟩,h1,h2,h3,rfl,by simp[h4]⟩
theorem Iu{t:List Nat}:∃ G Y,WalkS C Z loc (t.mapIdx fun i c=>.d (.tup [.int i,.str [c]])) (AB ⟨t.toArray⟩) G Y:=by
 refine⟨_,_,by simpa using A5 (x:=⟨t.toArray⟩),fun _ _ _ _ _ _ _=>trivial,fun Z' loc' s sv H i x v H' g r hx y=>?_⟩
 rw[List.getElem?_mapIdx]at hx
 obtain⟨d,h1,rfl⟩:=Option.map_eq_some_iff.mp hx
 refine D5 r y (fun u e=>by cases e;rfl) fun u e=>?_
 simp[h1]at e
 subst e
 rfl
theorem SR.ED(r:SR C Z loc s sv H){d:Addr}{u:HO}{od:Obj}(hd:H d=some (.frz od u)):
  CLe C { C with H0:=upd C.H0 d (.frz od u) }∧SR { C with H0:=upd C.H0 d (.frz od u) } Z loc s sv H:=by
 refine⟨⟨rfl,rfl,rfl,fun b o w e=>?_⟩,⟨r.fr,r.zh,r.zf,fun b o w e=>?_,r.ln,r.nd,r.lh,r.cl,r.vl,r.ow,r.oi,r.ls⟩⟩
 ·show upd C.H0 d _ b=_
  by_cases hb:b=d
  ·subst hb
   rw[r.lk b o w e]at hd
   cases hd
   exact upd_same
  ·rw[upd_ne hb];exact e
 ·have e:upd C.H0 d (.frz od u) b=some (.frz o w):=e
  by_cases hb:b=d
  ·subst hb
   rw[upd_same]at e
   cases e
   exact hd
  ·rw[upd_ne hb]at e
   exact r.lk b o w e
theorem D2{k:D→State→Res (List Val)}{R:It→Hp→Prop}(h:jC C (sD f k) sv H R)(hk:∀ d s x s',k d s≠ .exc x s'):
  (∀ Q,ai C f sv H Q)∨∃ d l s1 s2,k d s1=.ok l s2∧∀ Q:VK,(∀ v H1 Z1 l1,SR C Z1 l1 s1 sv H1→aL C.cA Z1 d v→
   (∀ C' J G Y H',CLe C C'→SR C' Z1 l1 s2 sv H'→WalkS C' Z1 l1 l J G Y→R J H')→Q v H1)→ai C f sv H Q:=by
 obtain⟨Z,loc,s,r,q⟩:=h
 unfold sD at q
 cases e:ev f s with
 | stuck=>rw[e]at q;exact q.elim
 | exc x s1=>rw[e]at q;exact .inl fun Q=>ai.Lu r e q
 | ok rv s1=>
  rw[e]at q
  simp only[Res.bind]at q
  cases e1:kI rv s1 with
  | stuck=>rw[e1]at q;exact q.elim
  | exc x s2=>exact absurd e1 FJ
  | ok d s2=>
   rw[e1]at q
   simp only[Res.bind]at q
   cases e2:k d s2 with
   | stuck=>rw[e2]at q;exact q.elim
   | exc x s3=>exact absurd e2 (hk _ _ _ _)
   | ok l s3=>
    rw[e2]at q
    refine .inr ⟨d,l,s2,s3,e2,fun Q h=>(ai.HC r e).imp fun v H1 ⟨Z',l',g,r1,st,rv⟩=>?_⟩
    obtain⟨Z2,g2,r2,q2⟩:=r1.kI rv e1
    exact h v H1 Z2 l' r2 q2 fun C' J G Y H' cl r' wk=>q Z2 l' H' C' J G Y cl (g.trans g2) r' wk
theorem AD{d:D}{x:Exn}:itemsOf d s≠ .exc x s':=by unfold itemsOf;split<;> simp
theorem Cg{d:D}{x:Exn}:mq d s≠ .exc x s':=by unfold mq;split<;> simp
theorem LB{l:List (K0×D)}{v:V}(r:SR C Z loc s sv H)(q:aL C.cA Z (.dic l) v)(Q:VK)
  (h:∀ d od ws C' H',v=.ref d→CLe C C'→SR C' Z loc s sv H'→C'.H0 d=some (.frz od (.dK ws))→H' d=some (.frz od (.dK ws))→hE C.cA Z l ws→Q v H'):
  (∃ d u,v=.ref d∧H d=some u∧nh u=true∧∀ od,Q v (upd H d (.frz od u)))∨Q v H:=by
 obtain⟨d,ws,rfl,hz,q⟩:=q
 rcases r.zh d _ hz with h1 | ⟨_,od,h1⟩
 ·exact .inl ⟨d,.dK ws,rfl,h1,rfl,fun od=>h d od ws _ _ rfl (r.Ef hz rfl h1 od).1 (r.Ef hz rfl h1 od).2 upd_same upd_same q⟩
 ·exact .inr (h d od ws _ _ rfl (r.ED h1).1 (r.ED h1).2 upd_same h1 q)
theorem kD(he:PE X e (ai C f)):PI X tg e (jC C (sD f itemsOf)):=by
 refine qM (tc (pi_list he) (tc (pi_tup he) (tc (pi_str he) (pi_keys (IB he))))) fun sv H R h=>?_
 rcases D2 h fun _ _ _ _=>AD with h | ⟨d,l,s1,s2,e1,h⟩
 ·exact .inl (h _)
 ·cases d<;> simp only[itemsOf]at e1<;> cases e1
  ·refine .inr (.inr (.inl (h _ fun v H1 Z1 l1 r q k=>?_)))
   cases q
   obtain⟨G,Y,wk⟩:=IS (C:=C) (Z:=Z1) (loc:=l1)
   exact⟨_,rfl,k C _ _ _ _ (CLe.refl C) r wk⟩
  ·refine .inr (.inl (h _ fun v H1 Z1 l1 r q k=>?_))
   obtain⟨a,vs,rfl,hz,q⟩:=q
   have wk:=JZ (C:=C) (loc:=l1) (K:=X.K) hz q
   exact⟨a,rfl,⟨vs,wk.g Z1 l1 _ sv H1 (Ext.refl _ _) r⟩,k C _ _ _ _ (CLe.refl C) r wk⟩
  ·refine .inl (h _ fun v H1 Z1 l1 r q k=>?_)
   obtain⟨a,vs,rfl,hz,q⟩:=q
   have wk:=Es (C:=C) (loc:=l1) (K:=X.K) hz q
   exact⟨a,rfl,⟨vs,wk.g Z1 l1 _ sv H1 (Ext.refl _ _) r⟩,k C _ _ _ _ (CLe.refl C) r wk⟩
  ·refine .inr (.inr (.inr (h _ fun v H1 Z1 l1 r q k=>LB r q (fun x H1=>∃ d o,x=.ref d∧((∃ kvs,H1 d=some (.frz o (.dK kvs))∧R (Itk d o kvs) H1)∨∃ kvs,H1 d=some (.frz o (.dT kvs))∧R (Itkt d o kvs) H1)) fun d od ws C' H' ev c r' h0 hd q'=>?_)))
   obtain⟨G,Y,wk⟩:=J9 (C:=C') (Z:=Z1) (loc:=l1) h0 (c.ca▸q')
   exact⟨d,od,ev,.inl ⟨ws,hd,k C' _ _ _ _ c r' wk⟩⟩
theorem HS{p tpos:Pos}{elts:List Expr}{kk:Nat}(he:PE X e (ai C f))(hg:Gl X "enumerate")(hm:X.mg "enumerate"=none)(hs:notStar e=true):
  PI X (.Tuple elts kk tpos) (.Call (.Name "enumerate" p) [e] [] pos) (jC C (sD f mq)):=by
 have ha:PA X [e] (tCons (ai C f) tNil):=pa_cons he pa_nil (aX hs)
 refine qM (tc (pi_enum hg hm ha (aX hs)) (CU hg hm ha (aX hs))) fun sv H R h=>?_
 rcases D2 h fun _ _ _ _=>Cg with h | ⟨d,l,s1,s2,e1,h⟩
 ·exact .inl (h _)
 ·cases d<;> simp only[mq]at e1<;> cases e1
  ·refine .inr (h _ fun v H1 Z1 l1 r q k=>?_)
   cases q
   obtain⟨G,Y,wk⟩:=Iu (C:=C) (Z:=Z1) (loc:=l1)
   exact⟨_,rfl,k C _ _ _ _ (CLe.refl C) r wk⟩
  ·refine .inl (h _ fun v H1 Z1 l1 r q k=>?_)
   obtain⟨a,vs,rfl,hz,q⟩:=q
   obtain⟨G,Y,wk⟩:=IA (C:=C) (loc:=l1) (K:=X.K) hz q
   exact⟨a,vs,rfl,(Es (C:=C) (loc:=l1) (K:=X.K) hz q).g Z1 l1 _ sv H1 (Ext.refl _ _) r,k C _ _ _ _ (CLe.refl C) r wk⟩
def xv(C:Cst)(Z:Hp)(loc:List Addr)(sv:L2.St)(r:Res (List Val))(R:It→Hp→Prop):Prop:=
 match r with
 | .ok l s'=>∀ Z' loc' H' C' J G Y,CLe C C'→Ext Z loc Z' loc'→SR C' Z' loc' s' sv H'→WalkS C' Z' loc' l J G Y→R J H'
 | .exc x s'=>∀ Z' loc' H' c d,Ext Z loc Z' loc'→SR C Z' loc' s' sv H'→jJ C Z' H' x c d→C.W c d sv H'
 | .stuck=>False
theorem xv.ext{r:Res (List Val)}{R:It→Hp→Prop}(h:xv C Z loc sv r R)(g:Ext Z loc Z' loc'):xv C Z' loc' sv r R:=by
 cases r with
 | stuck=>exact h
 | ok l s=>exact fun Z2 l2 H2 C' J G Y c g2=>h Z2 l2 H2 C' J G Y c (g.trans g2)
 | exc x s=>exact fun Z2 l2 H2 c d g2=>h Z2 l2 H2 c d (g.trans g2)
def fq(fs:State→Res (List RV))(k:List RV→State→Res (List Val))(s:State):Res (List Val):=(fs s).bind k
theorem LL{fs:State→Res (List RV)}{k:List RV→State→Res (List Val)}{R:It→Hp→Prop}(h:jC C (fq fs k) sv H R):
  bS C fs sv H fun vs H1=>∃ Z loc s xs,SR C Z loc s sv H1∧fN C Z loc s sv H1 xs vs∧xv C Z loc sv (k xs s) R:=by
 obtain⟨Z,loc,s,r,q⟩:=h
 refine⟨Z,loc,s,r,?_⟩
 unfold fq at q
 cases e:fs s with
 | stuck=>rw[e]at q;exact q.elim
 | exc x s1=>rw[e]at q;exact q
 | ok xs s1=>
  rw[e]at q
  exact fun Z' l' H' vs g r' q'=>⟨Z',l',s1,xs,r',q',xv.ext (r:=k xs s1) q g⟩
def dvs(s:State):List RV→Option (List D)
 | []=>some []
 | r::rs=>match Vw.dv s r,dvs s rs with
  | some d,some ds=>some (d::ds)
  | _,_=>none
theorem SR.dvs(r:SR C Z loc s sv H):∀ {rs:List RV} {vs:List V} {ds:List D},fN C Z loc s sv H rs vs→dvs s rs=some ds→br C.cA Z ds vs
 | [],vs,ds,h,e=>by cases e;exact h
 | x::l,vs,ds,⟨v,t,e1,st,q,h⟩,e=>by
  unfold Vw.dvs at e
  split at e
  ·rename_i d ds' e2 e3
   cases e
   exact⟨v,t,e1,r.dv q e2,SR.dvs r h e3⟩
  ·cases e
def ee(xs:List RV)(s:State):Res (List Val):=
 match dvs s xs with
 | some [.int j]=>jT 0 j s
 | _=>.stuck
def JC(xs:List RV)(s:State):Res (List Val):=
 match dvs s xs with
 | some [.int i,.int j]=>jT i j s
 | _=>.stuck
theorem ka{p:Pos}{fs:State→Res (List RV)}(ha:PA X [a] (bS C fs))(hg:Gl X "range")(hm:X.mg "range"=none)(hs:notStar a=true):
  PI X tg (.Call (.Name "range" p) [a] [] pos) (jC C (fq fs ee)):=by
 refine qM (pi_range1 hg hm ha (aX hs)) fun sv H R h=>(LL h).imp fun vs H1 ⟨Z,loc,s,xs,r,q,h⟩=>?_
 unfold ee at h
 split at h
 ·rename_i j e
  obtain⟨v,t,rfl,hv,ht⟩:=r.dvs q e
  cases ht;cases hv
  unfold jT at h
  split at h
  ·rename_i b
   obtain⟨G,Y,wk⟩:=J4 (C:=C) (Z:=Z) (loc:=loc) (lo:=0) (n:=j.toNat)
   exact⟨j,rfl,b.2.2.1,b.2.2.2,h Z loc H1 C _ _ _ (CLe.refl C) (Ext.refl _ _) r (by simpa using wk)⟩
  ·exact h.elim
 ·exact h.elim
end
end Vw
namespace Vw
open PySem L2 PyProof.Rows
def kr(s:State):RV→Option RV
 | .own i=>match s.sg[i]? with
  | some (some (.own o))=>some (.new o)
  | some (some (.v x))=>some (.val x)
  | _=>none
 | r=>some r
abbrev Fn:=List Val→List Ob→Res RV
def cB(n:Nat)(b:State→Res Fl):Fn:=fun args st=>
 match b ⟨args.map (fun x=>some (.v x))++List.replicate (n-args.length) none,st⟩with
 | .ok .nx s=>.ok (.val (.d .non)) ⟨[],s.st⟩
 | .ok (.ret r) s=>match kr s r with
  | some r'=>.ok r' ⟨[],s.st⟩
  | none=>.stuck
 | .ok _ _=>.stuck
 | .exc x s=>.exc x ⟨[],s.st⟩
 | .stuck=>.stuck
section
variable{C:Cst}{Z Z':Hp}{loc loc':List Addr}{s s':State}{sv sv':L2.St}{H H':Hp}
theorem SR.leave(r:SR C Z loc s sv H):SR C Z loc ⟨[],s.st⟩ [] H:=
 ⟨r.fr,r.zh,r.zf,r.lk,r.ln,r.nd,r.lh,r.cl,fun i x h=>by simp at h,fun i o h=>by simp at h,fun i j o o' a h=>by simp at h,rfl⟩
theorem SR.kr(r:SR C Z loc s sv H){rv rv':RV}{v:V}(h:aY C Z loc s sv H rv v)(e:kr s rv=some rv'):aY C Z loc ⟨[],s.st⟩ [] H rv' v:=by
 cases rv with
 | val x=>cases e;exact h
 | new o=>
  cases e
  obtain⟨a,h1,h2,h3,h4⟩:=h
  exact⟨a,h1,h2,h3,h4.z,h4.f,h4.l,fun i o h=>by simp at h⟩
 | own i=>
  dsimp only[Vw.kr]at e
  split at e
  ·rename_i o h1
   cases e
   obtain⟨a,q1,q2,q3,q4,q5,q6⟩:=r.ow i o h1
   have h:sv[i]? =some (some v):=h
   rw[q1]at h
   cases h
   exact⟨a,rfl,q2,q3,q4,q5,q6,fun i o h=>by simp at h⟩
  ·rename_i x h1
   cases e
   obtain⟨w,q1,q2⟩:=r.vl i x h1
   have h:sv[i]? =some (some v):=h
   rw[q1]at h
   cases h
   exact q2
  ·cases e
def Ec(C:Cst)(Z:Hp)(loc:List Addr)(r:Res RV)(Q:VK):Prop:=
 match r with
 | .ok rv s'=>∀ Z' loc' H' v,Ext Z loc Z' loc'→SR C Z' loc' ⟨[],s'.st⟩ [] H'→aY C Z' loc' ⟨[],s'.st⟩ [] H' rv v→Q v H'
 | .exc x s'=>∀ Z' loc' H' c d,Ext Z loc Z' loc'→SR C Z' loc' ⟨[],s'.st⟩ [] H'→jJ C Z' H' x c d→C.W c d [] H'
 | .stuck=>False
def da(cA:String→Addr)(Fr H0:Hp)(E:XK):Cst:=⟨cA,Fr,H0,fun c d _ H=>E c d H⟩
def bz(cA:String→Addr)(n:Nat)(g:Fn):Sp:=fun vs H Q E=>∃ Fr H0 Z loc args st,SR (da cA Fr H0 E) Z loc ⟨[],st⟩ [] H∧aB cA Z loc args vs∧args.length=n∧Ec (da cA Fr H0 E) Z loc (g args st) Q
theorem CF{cA:String→Addr}{l:List Val}{vs:List V}(h:aB cA Z loc l vs):l.length=vs.length:=bu (C:=da cA (fun _=>none) (fun _=>none) fun _ _ _=>True) h
theorem uH{cA:String→Addr}{n:Nat}{g:Fn}(vs:List V)(H:Hp)(Q:VK)(E:XK)(h:bz cA n g vs H Q E):vs.length=n:=by
 obtain⟨Fr,H0,Z,loc,args,st,r,q,e,_⟩:=h
 rw[←e,CF q]
theorem SR.enter{cA:String→Addr}{Fr H0:Hp}{E:XK}{st:List Ob}{args:List Val}{vs:List V}(r:SR (da cA Fr H0 E) Z loc ⟨[],st⟩ [] H)(q:aB cA Z loc args vs)(m:Nat):
  SR (da cA Fr H0 E) Z loc ⟨args.map (fun x=>some (.v x))++List.replicate m none,st⟩ (vs.map some++List.replicate m none) H:=by
 have hl:=CF q
 have noOwn:∀ (i:Nat) (o:Ob),(args.map (fun x=>some (Sl.v x))++List.replicate m none)[i]? ≠some (some (.own o)):=fun i o h=>by
  by_cases hi:i<args.length
  ·rw[List.getElem?_append_left (by simpa using hi)]at h
   simp[hi]at h
  ·rw[List.getElem?_append_right (by simpa using hi)]at h
   have:=List.getElem?_eq_some_iff.mp h
   simp at this
 refine⟨r.fr,r.zh,r.zf,r.lk,r.ln,r.nd,r.lh,r.cl,fun i x h=>?_,fun i o h=>absurd h (noOwn i o),fun i j o o' a h=>absurd h (noOwn i o),by simp[hl]⟩
 by_cases hi:i<args.length
 ·have h:(args.map (fun x=>some (Sl.v x))++List.replicate m none)[i]? =some (some (.v x)):=h
  rw[List.getElem?_append_left (by simpa using hi)]at h
  simp[hi]at h
  subst h
  obtain⟨v,q1,q2⟩:=fF (C:=da cA Fr H0 E) q (i:=i) (x:=args[i]) (by simp[hi])
  refine⟨v,?_,q2⟩
  rw[List.getElem?_append_left (by simp;omega)]
  simp[q1]
 ·have h:(args.map (fun x=>some (Sl.v x))++List.replicate m none)[i]? =some (some (.v x)):=h
  rw[List.getElem?_append_right (by simpa using hi)]at h
  have:=List.getElem?_eq_some_iff.mp h
  simp at this
end
section
variable{P:Program}{w:World}{K:PySem.W.Frag}{mg:Str→Option Value}{base:Heap}{x qual:Str}{params:Arguments}{body:List Stmt}{scope:Scope}{f:Addr}{fd:FuncData}{N ps:List Str}{cA:String→Addr}{b:State→Res Fl}
theorem vY{Fr H0 Z:Hp}{loc:List Addr}{args:List Val}{st:List Ob}{vs:List V}{H:Hp}{Q:VK}{E:XK}(r:SR (da cA Fr H0 E) Z loc ⟨[],st⟩ [] H)(q:aB cA Z loc args vs)(hl:args.length=ps.length)
  (h:Ec (da cA Fr H0 E) Z loc (cB N.length b args st) Q) (hW:∀ c d H',E c d H'→(da cA Fr H0 E).W c d [] H'):cq (da cA Fr H0 E) b { nx:=fun _ H'=>Q .non H',rt:=Q } (L2.start N vs) H:=by
 have hv:=CF q
 have es:L2.start N vs=vs.map some++List.replicate (N.length-args.length) none:=by unfold L2.start;rw[hv]
 rw[es]
 refine⟨Z,loc,_,SR.enter r q (N.length-args.length),?_⟩
 unfold cB at h
 cases e:b ⟨args.map (fun x=>some (.v x))++List.replicate (N.length-args.length) none,st⟩with
 | stuck=>rw[e]at h;exact h
 | exc y s1=>rw[e]at h;exact fun Z' l' sv' H' c d g r' x'=>h Z' l' H' c d g r'.leave x'
 | ok k s1=>
  rw[e]at h
  cases k with
  | nx=>exact fun Z' l' sv' H' g r'=>h Z' l' H' .non g r'.leave rfl
  | brk=>exact False.elim h
  | cnt=>exact False.elim h
  | ret rv=>
   dsimp only at h
   split at h
   ·rename_i rv' e2
    exact fun Z' l' sv' H' v g r' q'=>h Z' l' H' v g r'.leave (r'.kr q' e2)
   ·exact h.elim
theorem fn_ok{k:Nat}(F:FunD K x qual params body scope [] [] f fd)(S:FnScope N ps scope)
  (hb:∀ (cdv:Value) (A:Around) (outer:List Env) (s:Shared) (H:Hp) (E:XK) (C:Cst),Room k (A.deeper (envOfC qual scope s.heap.objs.size f cdv))→C.cA=cA→PSs (cxOf CX0 P w K mg base N qual scope f cdv A outer s H E).nox body (cq C b)):
  FnOk P w K mg base CX0 (k+1) f fd ps (bz cA ps.length (cB N.length b)):=by
 refine F.ok S uH fun cdv A outer s H vs Q E hr h=>?_
 obtain⟨Fr,H0,Z,loc,args,st,r,q,hl,h⟩:=h
 exact⟨_,PSs.nox (hb cdv A outer s H E (da cA Fr H0 E) hr rfl),vY (ps:=ps) r q hl h fun _ _ _ z=>z⟩
end
open Classical in
noncomputable def dC(H Z:Hp)(loc:List Addr):Hp:=fun a=>if Z a=none∧a∉loc then H a else none
theorem lp{H Z:Hp}{loc:List Addr}{a:Addr}(h:Z a=none)(h':a∉loc):dC H Z loc a=H a:=by unfold dC;rw[if_pos ⟨h,h'⟩]
theorem kc{H Z:Hp}{loc:List Addr}{a:Addr}{o:HO}(h:dC H Z loc a=some o):H a=some o∧Z a=none∧a∉loc:=by
 unfold dC at h
 split at h
 ·rename_i q;exact⟨h,q.1,q.2⟩
 ·cases h
section
variable{C:Cst}{Z Z':Hp}{loc loc':List Addr}{s s':State}{sv sv':L2.St}{H H':Hp}
variable{X:Cx}{e a b c o:Expr}{es:List Expr}{p pos apos:Pos}{f fa fb fc fo fi fv:State→Res RV}
theorem SR.entry(r:SR C Z loc s sv H)(E:XK):SR (da C.cA (dC H Z loc) C.H0 E) Z loc ⟨[],s.st⟩ [] H:=by
 refine⟨fun a o h=>(kc h).1,r.zh,fun a o h=>?_,r.lk,r.ln,r.nd,fun a h=>⟨(r.lh a h).1,?_⟩,r.cl,fun i x h=>by simp at h,fun i o h=>by simp at h,fun i j o o' a h=>by simp at h,rfl⟩
 ·cases e:dC H Z loc a with
  | none=>exact e
  | some u=>rw[(kc e).2.1]at h;cases h
 ·cases e:dC H Z loc a with
  | none=>exact e
  | some u=>exact absurd h (kc e).2.2
theorem SR.jM(r:SR C Z loc s sv H){a:Addr}{o:HO}(h:C.Fr a=some o):Z a=none∧a∉loc:=by
 refine⟨?_,fun z=>?_⟩
 ·cases e:Z a with
  | none=>rfl
  | some u=>rw[r.zf a u e]at h;cases h
 ·rw[(r.lh a z).2]at h;cases h
theorem SR.back(r:SR C Z loc s sv H){E:XK}{st:List Ob}(g:Ext Z loc Z' loc')(r':SR (da C.cA (dC H Z loc) C.H0 E) Z' loc' ⟨[],st⟩ [] H'):SR C Z' loc' ⟨s.sg,st⟩ sv H':=by
 have z0:∀ {a:Addr},Z a=none→a∉loc→H a≠none→Z' a=none∧a∉loc'∧H' a=H a:=fun {a} h1 h2 h3=>by
  cases e:H a with
  | none=>exact absurd e h3
  | some u=>
   have f:=(lp (H:=H) h1 h2).trans e
   obtain⟨q1,q2⟩:=r'.jM (a:=a) f
   exact⟨q1,q2,r'.fr a u f⟩
 have fz:∀ {a:Addr} {o:HO},C.Fr a=some o→Z' a=none∧a∉loc'∧H' a=some o:=fun {a o} h=>by
  obtain⟨q1,q2⟩:=r.jM h
  have e:=r.fr a o h
  obtain⟨q3,q4,q5⟩:=z0 q1 q2 (by rw[e];simp)
  exact⟨q3,q4,q5.trans e⟩
 refine⟨fun a o h=>(fz h).2.2,r'.zh,fun a o h=>?_,r'.lk,r'.ln,r'.nd,fun a h=>⟨(r'.lh a h).1,?_⟩,r'.cl,fun i x h=>?_,fun i o h=>?_,r.oi,r.ls⟩
 ·cases e:C.Fr a with
  | none=>rfl
  | some u=>rw[(fz e).1]at h;cases h
 ·cases e:C.Fr a with
  | none=>rfl
  | some u=>exact absurd h (fz e).2.1
 ·obtain⟨v,q1,q2⟩:=r.vl i x h
  exact⟨v,q1,bh.mono g x q2⟩
 ·obtain⟨a,q1,q2,q3,q4,q5,q6⟩:=r.ow i o h
  obtain⟨w1,w2,w3⟩:=z0 q4 q6 (gb q2 q3)
  exact⟨a,q1,q2,(q3.at w3).mono g (Same.refl _),w1,q5,w2⟩
theorem aY.back(r:SR C Z loc s sv H){E:XK}{st:List Ob}{rv:RV}{v:V}(r':SR (da C.cA (dC H Z loc) C.H0 E) Z' loc' ⟨[],st⟩ [] H')(q:aY (da C.cA (dC H Z loc) C.H0 E) Z' loc' ⟨[],st⟩ [] H' rv v):aY C Z' loc' ⟨s.sg,st⟩ sv H' rv v:=by
 cases rv with
 | val x=>exact q
 | own i=>exact absurd (show([]:L2.St)[i]? =some (some v)from q) (by simp)
 | new o=>
  obtain⟨a,h1,h2,h3,h4⟩:=q
  refine⟨a,h1,h2,h3,h4.z,?_,h4.l,fun i o h e=>?_⟩
  ·cases e:C.Fr a with
   | none=>rfl
   | some u=>
    obtain⟨q1,q2⟩:=r.jM e
    have:=(lp (H:=H) q1 q2).trans (r.fr a u e)
    have f:=h4.f
    rw[show(da C.cA (dC H Z loc) C.H0 E).Fr a=_ from this]at f
    cases f
  ·obtain⟨b,q1,q2,q3,q4,q5,q6⟩:=r.ow i o h
   rw[e]at q1
   cases q1
   have f:=h4.f
   rw[show(da C.cA (dC H Z loc) C.H0 E).Fr a=_ from lp q4 q6]at f
   exact gb q2 q3 f
def cW(g:Fn)(args:List Val)(s:State):Res RV:=
 match g args s.st with
 | .ok r s2=>.ok r ⟨s.sg,s2.st⟩
 | _=>.stuck
def bR(n:Nat)(fs:State→Res (List RV))(g:Fn)(s:State):Res RV:=(fs s).bind fun rs s=>(aD rs s).bind fun args s=>if args.length=n then cW g args s else .stuck
theorem bS.at{fs:State→Res (List RV)}{k:List RV→State→Res RV}{Q:VK}(h:ai C (fun s=>(fs s).bind k) sv H Q):
  bS C fs sv H fun vs H1=>∃ Z loc s xs,SR C Z loc s sv H1∧fN C Z loc s sv H1 xs vs∧EPost C Z loc sv (k xs s) Q:=by
 obtain⟨Z,loc,s,r,q⟩:=h
 refine⟨Z,loc,s,r,?_⟩
 cases e:fs s with
 | stuck=>simp only[e,Res.bind]at q;exact q
 | exc x s1=>simp only[e,Res.bind]at q;exact q
 | ok xs s1=>
  simp only[e,Res.bind]at q
  exact fun Z' l' H' vs g r' q'=>⟨Z',l',s1,xs,r',q',EPost.ext q g⟩
theorem DZ{g:Fn}{n:Nat}{args:List Val}{vs:List V}{Q:VK}(r:SR C Z loc s sv H)(q:aB C.cA Z loc args vs)(hn:args.length=n)(h:EPost C Z loc sv (cW g args s) Q):bz C.cA n g vs H Q E0:=by
 refine⟨dC H Z loc,C.H0,Z,loc,args,s.st,r.entry _,q,hn,?_⟩
 unfold cW at h
 cases e:g args s.st with
 | stuck=>rw[e]at h;exact h
 | exc x s1=>rw[e]at h;exact h.elim
 | ok rv s1=>
  rw[e]at h
  exact fun Z' l' H' v g r' q'=>h Z' l' H' v g (r.back g r') (aY.back r r' q')
theorem B6{CX:CXT}{k:Nat}{fA:Addr}{fd:FuncData}{ps:List Str}{x:Str}{g:Fn}{fs:State→Res (List RV)}(F:FnOk X.prog X.w X.K X.mg X.base CX k fA fd ps (bz C.cA ps.length g))(hr:Room k X.A)(hg:Gl X x)(hm:X.mg x=some (.ref fA))(hk:PySem.W.keepIn X.K (.ref fA)=true)
  (hb:Binds X.K fd ps []) (hx:Passes CX X E0) (ha:PA X (e::es) (bS C fs)) (hdb:(x==("__debug__":Str))=false) (hs:(e::es).all notStar=true):
  PE X (.Call (.Name x p) (e::es) [] pos) (ai C (bR ps.length fs g)):=by
 have hs':=hs
 simp only[List.all_cons,Bool.and_eq_true]at hs
 refine aQ (pe_call F hr hg hm hk hb .nil hx ha hdb (aX hs.1) (c5 hs.2)) fun sv H Q h=>(bS.at h).imp fun vs H1 ⟨Z,loc,s,xs,r,q,h⟩=>?_
 rw[List.append_nil]
 cases e1:aD xs s with
 | stuck=>rw[e1]at h;exact h.elim
 | exc x s1=>exact absurd e1 dJ
 | ok args s1=>
  rw[e1]at h
  simp only[Res.bind]at h
  obtain⟨Z1,g1,r1,q1⟩:=r.aD q e1
  split at h
  ·rename_i hn
   exact DZ r1 q1 hn (EPost.ext h g1)
  ·exact h.elim
end
end Vw
namespace Vw
open PySem L2 PyProof.Rows
def zV:Ob→Bool
 | .lst _=>true
 | .ins _ _=>true
 | _=>false
def yT(s:State)(r:RV):Option D:=
 match dv s r with
 | some d=>some d
 | none=>match ob s r with
  | some o=>if zV o then o.toD else none
  | none=>none
def nF(s:State):List RV→Option (List D)
 | []=>some []
 | r::rs=>match yT s r,nF s rs with
  | some d,some ds=>some (d::ds)
  | _,_=>none
def scal:D→Bool
 | .non=>true
 | .bl _=>true
 | .int _=>true
 | .str _=>true
 | _=>false
def mV(n:Nat)(fs:State→Res (List RV))(g:Fn)(s:State):Res RV:=(fs s).bind fun rs s=>match nF s rs with
 | some ds=>if ds.length=n then(match g (ds.map .d) []with
  | .ok (.val (.d x)) _=>if scal x then .ok (.val (.d x)) s else .stuck
  | _=>.stuck)else .stuck
 | none=>.stuck
section
variable{C:Cst}{Z Z' Zc:Hp}{loc loc':List Addr}{s s':State}{sv sv':L2.St}{H H':Hp}
variable{X:Cx}{e a b c o:Expr}{es:List Expr}{p pos apos:Pos}{f fa fb fc fo fi fv:State→Res RV}
theorem SR.Mz(r:SR C Z loc s sv H){rv:RV}{v:V}{o:Ob}(h:aY C Z loc s sv H rv v)(e:Vw.ob s rv=some o):∃ a,v=.ref a∧o≠ .gone∧Cell C.cA Z loc H a o∧Z a=none:=by
 have q:=r.ib h
 unfold Vw.ob at e
 split at e
 ·rename_i i e1
  rw[e1]at q
  split at e
  ·rename_i o' e2
   cases e
   obtain⟨a,h1,h2,h3,h4,_⟩:=r.ow i _ e2
   rw[show sv[i]? =some (some v)from q]at h1
   cases h1
   exact⟨a,rfl,h2,h3,h4⟩
  ·cases e
 ·rename_i n e1
  rw[e1]at q
  obtain⟨a,h1,h2⟩:=q
  split at e
  ·cases e
  ·rename_i o' ne e2
   cases e
   exact⟨a,h2,ne,r.cl n a _ h1 e2 ne⟩
  ·cases e
 ·cases e
structure GoodZ (Z H Zc:Hp):Prop where
 up:Same Z Zc
 at_:∀ (a:Addr) (o:HO),Zc a=some o→Z a=some o∨(H a=some o∧nh o=false)
theorem GoodZ.refl:GoodZ Z H Z:=⟨Same.refl _,fun a o h=>.inl h⟩
theorem GoodZ.rz(g:GoodZ Z H Zc)(r:SR C Z loc s sv H){a:Addr}{o:HO}(h:Zc a=some o):Rz H a o:=(g.at_ a o h).elim (r.zh a o) fun q=>.inl q.1
theorem AO{cA:String→Addr}{o:Ob}(p:zV o=true){a:Addr}(h:Cell cA Z loc H a o):∃ u,H a=some u∧nh u=false:=by
 cases o with
 | lst l=>obtain⟨xs,e,_⟩:=h;exact⟨_,e,rfl⟩
 | ins c l=>obtain⟨dx,xs,e,_⟩:=h;exact⟨_,e,rfl⟩
 | dic k l=>cases p
 | dit k l=>cases p
 | gone=>cases p
theorem SR.yT(r:SR C Z loc s sv H)(g:GoodZ Z H Zc){rv:RV}{v:V}{d:D}(h:aY C Z loc s sv H rv v)(e:Vw.yT s rv=some d):∃ Zd,Same Zc Zd∧GoodZ Z H Zd∧aL C.cA Zd d v:=by
 unfold Vw.yT at e
 split at e
 ·rename_i d' e1
  cases e
  exact⟨Zc,Same.refl _,g,aL.mono g.up _ (r.dv h e1)⟩
 ·split at e
  ·rename_i o e1
   split at e
   ·rename_i p
    obtain⟨a,rfl,ne,cell,z⟩:=r.Mz h e1
    obtain⟨u,h1,h2⟩:=yr cell e z
    obtain⟨u',h3,h4⟩:=AO p cell
    rw[h1]at h3
    cases h3
    cases ez:Zc a with
    | none=>
     refine⟨upd Zc a u,bp ez,⟨g.up.trans (bp ez),fun b w hb=>?_⟩,aL.mono (fun b w hb=>?_) d h2⟩
     ·by_cases hba:b=a
      ·subst hba
       rw[upd_same]at hb
       cases hb
       exact .inr ⟨h1,h4⟩
      ·rw[upd_ne hba]at hb
       exact g.at_ b w hb
     ·by_cases hba:b=a
      ·subst hba
       rw[upd_same]at hb ⊢
       exact hb
      ·rw[upd_ne hba]at hb ⊢
       exact g.up b w hb
    | some w=>
     have hw:w=u:=by
      rcases g.at_ a w ez with q | ⟨q,_⟩
      ·rw[z]at q;cases q
      ·rw[h1]at q;cases q;rfl
     subst hw
     refine⟨Zc,Same.refl _,g,aL.mono (fun b w' hb=>?_) d h2⟩
     by_cases hba:b=a
     ·subst hba
      rw[upd_same]at hb
      rw[ez];exact hb
     ·rw[upd_ne hba]at hb
      exact g.up b w' hb
   ·cases e
  ·cases e
theorem SR.nF(r:SR C Z loc s sv H):∀ {Zc:Hp} {rs:List RV} {vs:List V} {ds:List D},GoodZ Z H Zc→fN C Z loc s sv H rs vs→Vw.nF s rs=some ds→∃ Zd,Same Zc Zd∧GoodZ Z H Zd∧br C.cA Zd ds vs
 | Zc,[],vs,ds,g,h,e=>by cases e;exact⟨Zc,Same.refl _,g,h⟩
 | Zc,x::l,vs,ds,g,⟨v,t,e1,st,q,h⟩,e=>by
  unfold Vw.nF at e
  split at e
  ·rename_i d ds' e2 e3
   cases e
   obtain⟨Z1,s1,g1,r1⟩:=r.yT g q e2
   obtain⟨Z2,s2,g2,r2⟩:=SR.nF r g1 h e3
   exact⟨Z2,s1.trans s2,g2,v,t,e1,aL.mono s2 d r1,r2⟩
  ·cases e
theorem p7{cA:String→Addr}:∀ {ds:List D} {vs:List V},br cA Z ds vs→aB cA Z [] (ds.map .d) vs
 | [],vs,h=>h
 | d::ds,vs,⟨v,t,e,q,h⟩=>⟨v,t,e,q,p7 h⟩
theorem SR.look(r:SR C Z loc s sv H)(g:GoodZ Z H Zc)(E:XK):SR (da C.cA (dC H Zc []) C.H0 E) Zc [] ⟨[],[]⟩ [] H:=by
 refine⟨fun a o h=>(kc h).1,fun a o h=>g.rz r h,fun a o h=>?_,r.lk,rfl,List.nodup_nil,fun a h=>by simp at h,fun n a o h=>by simp at h,fun i x h=>by simp at h,fun i o h=>by simp at h,fun i j o o' a h=>by simp at h,rfl⟩
 cases e:dC H Zc [] a with
 | none=>exact e
 | some u=>rw[(kc e).2.1]at h;cases h
theorem SR.looked(r:SR C Z loc s sv H)(g:GoodZ Z H Zc){E:XK}{st:List Ob}{Zd:Hp}{ld:List Addr}(x:Ext Zc [] Zd ld)(r':SR (da C.cA (dC H Zc []) C.H0 E) Zd ld ⟨[],st⟩ [] H'):SR C Z loc s sv H':=by
 have st:∀ {a:Addr} {u:HO},H a=some u→Z a=none→H' a=H a:=fun {a u} h hz=>by
  cases ez:Zc a with
  | none=>rw[h];exact r'.fr a u ((lp ez (by simp)).trans h)
  | some w=>
   rcases g.at_ a w ez with q | ⟨q1,q2⟩
   ·rw[hz]at q;cases q
   ·rw[q1];exact(r'.zh a w (x.1 a w ez)).at q2
 have ne:∀ {a:Addr},H a≠none→H' a≠none:=fun {a} h=>by
  cases eh:H a with
  | none=>exact absurd eh h
  | some u=>
   cases ez:Z a with
   | none=>rw[st eh ez];exact h
   | some w=>exact qE (r'.zh a w (x.1 a w (g.up a w ez)))
 refine⟨fun a o h=>?_,fun a o h=>r'.zh a o (x.1 a o (g.up a o h)),r.zf,r'.lk,r.ln,r.nd,fun a h=>⟨ne (r.lh a h).1,(r.lh a h).2⟩,fun n a o h1 h2 h3=>?_,r.vl,fun i o h=>?_,r.oi,r.ls⟩
 ·have q:=r.fr a o h
  rw[st q (r.jM h).1];exact q
 ·obtain⟨q1,q2⟩:=r.cl n a o h1 h2 h3
  cases eh:H a with
  | none=>exact absurd eh (gb h3 q1)
  | some u=>exact⟨q1.at (st eh q2),q2⟩
 ·obtain⟨a,q1,q2,q3,q4,q5⟩:=r.ow i o h
  cases eh:H a with
  | none=>exact absurd eh (gb q2 q3)
  | some u=>exact⟨a,q1,q2,q3.at (st eh q4),q4,q5⟩
theorem xB{cA:String→Addr}{d:D}{v:V}(p:scal d=true)(h:aL cA Z' d v):aL cA Z d v:=by
 cases d<;> first | exact h | cases p
theorem Fc{g:Fn}{n:Nat}{rs:List RV}{ds:List D}{vs:List V}{Q:VK}(r:SR C Z loc s sv H)(q:fN C Z loc s sv H rs vs)(e:nF s rs=some ds)(hn:ds.length=n)
  (h:EPost C Z loc sv (match g (ds.map .d) []with | .ok (.val (.d x)) _=>if scal x then .ok (.val (.d x)) s else .stuck | _=>.stuck) Q):bz C.cA n g vs H Q E0:=by
 obtain⟨Zc,_,gz,q1⟩:=r.nF (GoodZ.refl) q e
 refine⟨dC H Zc [],C.H0,Zc,[],ds.map .d,[],r.look gz _,p7 q1,by simpa using hn,?_⟩
 split at h
 ·rename_i x s1 e1
  rw[e1]
  split at h
  ·rename_i p
   exact fun Z' l' H' v g r' q'=>h Z loc H' v (Ext.refl _ _) (r.looked gz g r') (xB (Z:=Z) p q')
  ·exact h.elim
 ·exact h.elim
theorem Hs{CX:CXT}{k:Nat}{fA:Addr}{fd:FuncData}{ps:List Str}{x:Str}{g:Fn}{fs:State→Res (List RV)}(F:FnOk X.prog X.w X.K X.mg X.base CX k fA fd ps (bz C.cA ps.length g))(hr:Room k X.A)(hg:Gl X x)(hm:X.mg x=some (.ref fA))(hk:PySem.W.keepIn X.K (.ref fA)=true)
  (hb:Binds X.K fd ps []) (hx:Passes CX X E0) (ha:PA X (e::es) (bS C fs)) (hdb:(x==("__debug__":Str))=false) (hs:(e::es).all notStar=true):
  PE X (.Call (.Name x p) (e::es) [] pos) (ai C (mV ps.length fs g)):=by
 have hs':=hs
 simp only[List.all_cons,Bool.and_eq_true]at hs
 refine aQ (pe_call F hr hg hm hk hb .nil hx ha hdb (aX hs.1) (c5 hs.2)) fun sv H Q h=>(bS.at h).imp fun vs H1 ⟨Z,loc,s,xs,r,q,h⟩=>?_
 rw[List.append_nil]
 split at h
 ·rename_i ds e1
  split at h
  ·rename_i hn
   exact Fc r q e1 hn h
  ·exact h.elim
 ·exact h.elim
end
end Vw
namespace Vw
open PySem L2 PyProof.Rows
def fR(g:Slots):List Nat→Slots
 | []=>g
 | v::vs=>(fR g vs).set v none
def cw(vs:List Nat)(s:State):State:={ s with sg:=fR s.sg vs }
def oY(vs:List Nat)(t:Tg)(ft:State→Res Bool)(fe:State→Res RV):List Val→List Val→State→Res (List Val)
 | [],acc,s=>.ok acc s
 | x::l,acc,s=>match e9 t x (cw vs s)with
  | none=>.stuck
  | some s=>match ft s with
   | .ok true s=>match fe s with
    | .ok rv s=>match bG rv s with
     | .ok y s=>if acc.length<sizeLine then oY vs t ft fe l (acc++[y]) (cw vs s)else .stuck
     | _=>.stuck
    | _=>.stuck
   | .ok false s=>oY vs t ft fe l acc (cw vs s)
   | _=>.stuck
def B9(acc:List Val)(s:State):Res RV:=.ok (.new (.lst acc)) s
def jr(vs:List Nat)(t:Tg)(src:State→Res (List Val))(ft:State→Res Bool)(fe:State→Res RV)(s:State):Res RV:=(src s).bind fun l s=>(oY vs t ft fe l [] (cw vs s)).bind B9
section
variable{C:Cst}{Z Z' Zc:Hp}{loc loc':List Addr}{s s':State}{sv sv':L2.St}{H H':Hp}
variable{X:Cx}{elt tg iter:Expr}{ifs:List Expr}{scope:Scope}{own:List (Str×Nat)}{p pos:Pos}{f fa fb fc fo fi fv fe:State→Res RV}{ft:State→Res Bool}
theorem SR.wipe(r:SR C Z loc s sv H):∀ vs:List Nat,SR C Z loc (cw vs s) (L2.wipe sv vs) H
 | []=>r
 | v::vs=>(SR.wipe r vs).unset v none
theorem sR{g:Slots}{i:Nat}{x:Sl}:∀ {vs:List Nat},(fR g vs)[i]? =some (some x)→g[i]? =some (some x)
 | [],h=>h
 | v::vs,h=>by
  unfold fR at h
  rcases bW h with⟨_,q⟩ | ⟨_,q⟩
  ·cases q
  ·exact sR q
theorem SR.Gf{vs:List Nat}(r:SR C Z loc s (L2.wipe sv vs) H):SR C Z loc s sv H:=by
 refine⟨r.fr,r.zh,r.zf,r.lk,r.ln,r.nd,r.lh,r.cl,fun i x h=>?_,fun i o h=>?_,fun i j o o' a h h' h1 h2=>?_,by rw[r.ls,wipe_length]⟩
 ·obtain⟨v,q1,q2⟩:=r.vl i x h
  exact⟨v,(wipe_some q1).1,q2⟩
 ·obtain⟨a,q1,q2⟩:=r.ow i o h
  exact⟨a,(wipe_some q1).1,q2⟩
 ·obtain⟨b,q1,_⟩:=r.ow i o h
  obtain⟨c,q2,_⟩:=r.ow j o' h'
  have e1:=(wipe_some q1).1
  have e2:=(wipe_some q2).1
  rw[h1]at e1
  rw[h2]at e2
  cases e1;cases e2
  exact r.oi i j o o' _ h h' q1 q2
theorem Free.wipe{D:Addr}(f:Free C Z loc s sv D)(vs:List Nat):Free C Z loc (cw vs s) (L2.wipe sv vs) D:=
 ⟨f.z,f.f,f.l,fun i o h e=>f.o i o (sR h) (wipe_some e).1⟩
theorem uG{i:Nat}:∀ {vs:List Nat},i∈vs→i<sv.length→(L2.wipe sv vs)[i]? =some none
 | [],h,_=>by simp at h
 | v::vs,h,hl=>by
  unfold L2.wipe
  by_cases hv:v=i
  ·subst hv
   exact List.getElem?_set_self (by rw[wipe_length];exact hl)
  ·rw[List.getElem?_set_ne hv]
   exact uG (by simpa [Ne.symm hv]using h) hl
theorem x3{vs l:List Nat}(h:Off l (L2.wipe sv vs) sv')(hl:∀ i∈l,i∈vs):L2.wipe sv' vs=L2.wipe sv vs:=by
 have len:sv'.length=sv.length:=by rw[h.1,wipe_length]
 refine List.ext_getElem? fun i=>?_
 by_cases hi:i<sv.length
 ·by_cases hv:i∈vs
  ·rw[uG hv hi,uG hv (by rw[len];exact hi)]
  ·rw[wipe_out hv,h.2 i fun z=>hv (hl i z)]
 ·rw[List.getElem?_eq_none (by rw[wipe_length,len];omega),List.getElem?_eq_none (by rw[wipe_length];omega)]
theorem vN(vs:List Nat):L2.wipe (L2.wipe sv vs) vs=L2.wipe sv vs:=x3 (l:=vs) ⟨rfl,fun _ _=>rfl⟩ fun _ h=>h
def mQ(C:Cst)(D:Addr)(o:HO):Cst:=⟨C.cA,upd C.Fr D o,C.H0,fun _ _ _ _=>False⟩
theorem SR.hold(r:SR C Z loc s sv H){D:Addr}{o:HO}(h:H D=some o)(f:Free C Z loc s sv D):SR (mQ C D o) Z loc s sv H:=by
 have ne:∀ {a:Addr},a≠D→(mQ C D o).Fr a=C.Fr a:=fun {a} h=>upd_ne h
 refine⟨fun a u q=>?_,r.zh,fun a u q=>?_,r.lk,r.ln,r.nd,fun a q=>⟨(r.lh a q).1,?_⟩,r.cl,r.vl,fun i ob q=>?_,r.oi,r.ls⟩
 ·by_cases ha:a=D
  ·subst ha
   have q:upd C.Fr a o a=some u:=q
   rw[upd_same]at q
   cases q
   exact h
  ·rw[ne ha]at q;exact r.fr a u q
 ·have ha:a≠D:=fun z=>by rw[z,f.z]at q;cases q
  rw[ne ha];exact r.zf a u q
 ·have ha:a≠D:=fun z=>f.l (z▸q)
  rw[ne ha];exact(r.lh a q).2
 ·obtain⟨a,q1,q2,q3,q4,q5,q6⟩:=r.ow i ob q
  have ha:a≠D:=fun z=>f.o i ob q (z▸q1)
  exact⟨a,q1,q2,q3,q4,(ne ha).trans q5,q6⟩
theorem SR.held{D:Addr}{o:HO}(f:C.Fr D=none)(r:SR (mQ C D o) Z loc s sv H):SR C Z loc s sv H∧H D=some o∧Free C Z loc s sv D:=by
 have ne:∀ {a:Addr},(mQ C D o).Fr a=none→a≠D∧C.Fr a=none:=fun {a} h=>by
  have ha:a≠D:=fun z=>by
   subst z
   have h:upd C.Fr a o a=none:=h
   rw[upd_same]at h
   cases h
  exact⟨ha,(upd_ne ha).symm.trans h⟩
 have hD:(mQ C D o).Fr D=some o:=upd_same
 refine⟨⟨fun a u q=>?_,r.zh,fun a u q=>(ne (r.zf a u q)).2,r.lk,r.ln,r.nd,fun a q=>⟨(r.lh a q).1,(ne (r.lh a q).2).2⟩,r.cl,r.vl,fun i ob q=>?_,r.oi,r.ls⟩,r.fr D o hD,⟨?_,f,fun z=>?_,fun i ob q e=>?_⟩⟩
 ·have ha:a≠D:=fun z=>by rw[z,f]at q;cases q
  exact r.fr a u ((upd_ne ha).trans q)
 ·obtain⟨a,q1,q2,q3,q4,q5,q6⟩:=r.ow i ob q
  exact⟨a,q1,q2,q3,q4,(ne q5).2,q6⟩
 ·cases e:Z D with
  | none=>rfl
  | some u=>rw[r.zf D u e]at hD;cases hD
 ·rw[(r.lh D z).2]at hD;cases hD
 ·obtain⟨a,q1,q2,q3,q4,q5,q6⟩:=r.ow i ob q
  rw[e]at q1
  cases q1
  exact(ne q5).1 rfl
theorem SR.Jw(r:SR C Z loc s sv H){D:Addr}{o u:HO}(h:H D=some o)(nf:∀ x w,o≠ .frz x w)(f:Free C Z loc s sv D):SR C Z loc s sv (upd H D u):=by
 refine⟨fun a w q=>?_,fun a w q=>?_,r.zf,fun a w v q=>?_,r.ln,r.nd,fun a q=>⟨?_,(r.lh a q).2⟩,fun n a ob h1 h2 h3=>?_,r.vl,fun i ob q=>?_,r.oi,r.ls⟩
 ·have ha:a≠D:=fun z=>by rw[z,f.f]at q;cases q
  rw[upd_ne ha];exact r.fr a w q
 ·have ha:a≠D:=fun z=>by rw[z,f.z]at q;cases q
  unfold Rz
  rw[upd_ne ha];exact r.zh a w q
 ·have q':=r.lk a w v q
  have ha:a≠D:=fun z=>by
   rw[z,h]at q'
   cases q'
   exact nf _ _ rfl
  rw[upd_ne ha];exact q'
 ·have ha:a≠D:=fun z=>f.l (z▸q)
  rw[upd_ne ha];exact(r.lh a q).1
 ·have ha:a≠D:=fun z=>f.l (z▸List.mem_of_getElem? h1)
  obtain⟨q1,q2⟩:=r.cl n a ob h1 h2 h3
  exact⟨q1.at (upd_ne ha),q2⟩
 ·obtain⟨a,q1,q2,q3,q4,q5,q6⟩:=r.ow i ob q
  have ha:a≠D:=fun z=>f.o i ob q (z▸q1)
  exact⟨a,q1,q2,q3.at (upd_ne ha),q4,q5,q6⟩
theorem Free.Ls{D:Addr}{o:HO}(f:Free C Z loc s sv D)(h:H D=some o)(g:lV H Z H' Z'):Free C Z' loc s sv D:=⟨(g.2 D (by rw[h];simp)).trans f.z,f.f,f.l,f.o⟩
def iq(s:State):Res Bool:=.ok true s
theorem lE:PTs X [] (cQ C iq):=⟨fun pins s sv H Q I ⟨Z,loc,s0,r,q⟩=>pts_nil.run pins s sv H Q I (q Z loc H (Ext.refl _ _) r)⟩
abbrev D6(C:Cst)(t:Tg):TG:=fun v sv H Q=>∃ C',C'.cA=C.cA∧n3 C' t v sv H Q
abbrev D7(C:Cst)(ft:State→Res Bool):TT:=fun sv H Q=>∃ C',C'.cA=C.cA∧cQ C' ft sv H Q
abbrev Eg(C:Cst)(fe:State→Res RV):TE:=fun sv H Q=>∃ C',C'.cA=C.cA∧ai C' fe sv H Q
theorem Cm{t:Tg}{src:State→Res (List Val)}{vs:List Nat}{Q:VK}(hv:∀ i∈vZ t,i∈vs)(h:ai C (jr vs t src ft fe) sv H Q):tLc (jC C src) (D6 C t) (D7 C ft) (Eg C fe) vs sv H Q:=by
 obtain⟨Z,loc,s,r,q⟩:=h
 refine⟨Z,loc,s,r,?_⟩
 unfold jr at q
 cases e:src s with
 | stuck=>rw[e]at q;exact q
 | exc x s1=>rw[e]at q;exact q
 | ok l s1=>
  rw[e]at q
  simp only[Res.aa]at q
  intro Z1 l1 H1 C' J G Y cle g1 r1 wk D hD
  have hf:=((r1.wipe vs).free hD)
  have cF:C'.Fr D=none:=hf.f
  refine lc_it (g:=D6 C t) (tt:=D7 C ft) (te:=Eg C fe) (vs:=vs) (σ:=sv) wk.w (fun i H=>∃ Z2 l2 s2 acc xs,Ext Z1 l1 Z2 l2∧SR C' Z2 l2 s2 (L2.wipe sv vs) H∧H D=some (.lst xs)∧Free C' Z2 l2 s2 (L2.wipe sv vs) D∧aB C'.cA Z2 l2 acc xs∧EPost C Z2 l2 sv ((oY vs t ft fe (l.drop i) acc s2).bind B9) Q)
   ⟨Z1,l1,cw vs s1,[],[],Ext.refl _ _,(r1.wipe vs).grow (bp hD),upd_same,hf,rfl,EPost.ext q g1⟩ (fun i H _ ⟨Z2,l2,s2,acc,xs,g2,r2,_⟩=>wk.g Z2 l2 s2 _ H g2 r2) ?_ ?_
  ·rintro i v H2 H3 hi ⟨Z2,l2,s2,acc,xs,g2,r2,hx,f2,ra,q2⟩ hy
   rw[List.drop_eq_getElem_cons hi]at q2
   obtain⟨Z3,g3,gr,r3,q3⟩:=wk.y Z2 l2 s2 _ H2 i l[i] v H3 g2 r2 (by simp[hi]) hy
   have f3:=(f2.Ls hx gr).wipe vs
   rw[vN]at f3
   have r3':=r3.wipe vs
   rw[vN]at r3'
   have hx3:=gr.1 D _ hx
   refine⟨mQ C' D (.lst xs),cle.ca,Z3,l2,cw vs s2,l[i],r3'.hold hx3 f3,q3,?_⟩
   unfold oY at q2
   cases e1:e9 t l[i] (cw vs s2)with
   | none=>rw[e1]at q2;exact q2
   | some s3=>
    rw[e1]at q2
    intro sv4 off r4
    have we:=x3 off hv
    refine⟨we,mQ C' D (.lst xs),cle.ca,Z3,l2,s3,r4,?_⟩
    dsimp only at q2
    have q2':=EPost.ext q2 g3
    cases e2:ft s3 with
    | stuck=>rw[e2]at q2';exact q2'
    | exc x s4=>rw[e2]at q2';exact False.elim q2'
    | ok b s4=>
     rw[e2]at q2'
     intro Z5 l5 H5 g5 r5
     cases b with
     | false=>
      obtain⟨r5',hx5,f5⟩:=r5.held cF
      have r6:=r5'.wipe vs
      have f6:=f5.wipe vs
      rw[we]at r6 f6
      exact⟨Z5,l5,cw vs s4,acc,xs,g2.trans (g3.trans g5),r6,hx5,f6,aB.mono (g3.trans g5) _ ra,EPost.ext q2' g5⟩
     | true=>
      refine⟨mQ C' D (.lst xs),cle.ca,Z5,l5,s4,r5,?_⟩
      dsimp only at q2'
      cases e3:fe s4 with
      | stuck=>rw[e3]at q2';exact q2'
      | exc x s5=>rw[e3]at q2';exact False.elim q2'
      | ok rv s5=>
       rw[e3]at q2'
       dsimp only at q2'
       intro Z6 l6 H6 v6 g6 r6 q6
       cases e4:bG rv s5 with
       | stuck=>rw[e4]at q2';exact False.elim q2'
       | exc x s6=>rw[e4]at q2';exact False.elim q2'
       | ok y s6=>
        rw[e4]at q2'
        dsimp only at q2'
        obtain⟨Z7,g7,r7,q7⟩:=r6.bG q6 e4
        obtain⟨r8,hx8,f8⟩:=r7.held cF
        have gg:=g3.trans (g5.trans (g6.trans g7))
        have ra':=aB.mono gg _ ra
        split at q2'
        ·rename_i hlt
         refine⟨xs,hx8,by rw[←bu ra];exact hlt,?_⟩
         have r9:=(r8.Jw (u:=.lst (xs++[v6])) hx8 (fun _ _ z=>nomatch z) f8).wipe vs
         have f9:=f8.wipe vs
         rw[we]at r9 f9
         exact⟨Z7,l6,cw vs s6,acc++[y],xs++[v6],g2.trans gg,r9,upd_same,f9,ni ra' ⟨v6,[],rfl,q7,rfl⟩,EPost.ext q2' (g5.trans (g6.trans g7))⟩
        ·exact False.elim q2'
  ·rintro H2 ⟨Z2,l2,s2,acc,xs,g2,r2,hx,f2,ra,q2⟩
   rw[List.drop_length]at q2
   refine q2 Z2 l2 H2 (.ref D) (Ext.refl _ _) (SR.le cle r2).Gf ⟨D,rfl,by simp,⟨xs,hx,by rw[←cle.ca];exact ra⟩,f2.z,by rw[←cle.fr];exact f2.f,f2.l,fun i o h e=>?_⟩
   obtain⟨b,q1,_⟩:=r2.ow i o h
   have e1:=(wipe_some q1).1
   rw[e]at e1
   cases e1
   exact f2.o i o h q1
theorem CM{i:Nat}{D:Ends}(hi:i<sv.length)(h:cq C (aR i f) D sv H):ai C f sv H fun v H1=>D.nx (sv.set i (some v)) H1:=by
 obtain⟨Z,loc,s,r,q⟩:=h
 refine(ai.oy r q).imp fun v H1 ⟨Z1,l1,s1,y,g1,r1,q1,h1⟩=>?_
 unfold pY at h1
 split at h1
 ·rename_i s2 e2
  obtain⟨Z2,g2,r2⟩:=r1.nk hi q1 e2
  exact(h1.ext g2).nx r2
 ·exact h1.elim
structure Blk (X:Cx) (C:Cst) (scope:Scope) (tg elt:Expr) (ifs:List Expr) (t:Tg) (ft:State→Res Bool) (fe:State→Res RV):Prop where
 go:∀ (s:Shared) (H:Hp) (D:Addr) (cl:List (Str×Addr)) (fp:List Addr) (C':Cst),C'.cA=C.cA→
  PG (X.blk s H scope (compEnvC scope cl D X.env) fp) tg (n3 C' t)∧PTs (X.blk s H scope (compEnvC scope cl D X.env) fp) ifs (cQ C' ft)∧PE (X.blk s H scope (compEnvC scope cl D X.env) fp) elt (ai C' fe)
theorem K2{t:Tg}{src:State→Res (List Val)}(hc:X.calm=true)(hN:X.N.Nodup)(hi:PI X tg iter (jC C src))(ok:BlkOk X.N X.env.scope scope own)(hb:Blk X C scope tg elt ifs t ft fe)(hs:cg iter=true)(hv:∀ i∈vZ t,i∈own.map (·.2)):
  PE X (.ListComp elt [⟨tg,iter,ifs,0⟩] scope pos) (ai C (jr (own.map (·.2)) t src ft fe)):=
 aQ (pe_lc (g:=D6 C t) (tt:=D7 C ft) (te:=Eg C fe) hc hN hi ok
  (fun s H D cl fp=>⟨fun pins s0 sv H0 v u Q I r ⟨C',c,q⟩=>(hb.go s H D cl fp C' c).1.run pins s0 sv H0 v u Q I r q⟩)
  (fun s H D cl fp=>⟨fun pins s0 sv H0 Q I ⟨C',c,q⟩=>(hb.go s H D cl fp C' c).2.1.run pins s0 sv H0 Q I q⟩)
  (fun s H D cl fp=>⟨fun pins s0 sv H0 Q I ⟨C',c,q⟩=>(hb.go s H D cl fp C' c).2.2.run pins s0 sv H0 Q I q⟩) (fold_ok hs)) fun sv H Q h=>Cm hv h
theorem ES{t:Tg}{src:State→Res (List Val)}{i:Nat}{y:Str}{py spos:Pos}(hc:X.calm=true)(hN:X.N.Nodup)(hy:X.N[i]? =some y)(hyl:X.env.scope.names.lookup y=some .local)(hk:X.env.scope.kind=.function)
  (hl:(py.line==pos.line)=true) (ha:(scope.names.any fun(n,k)=>n==y&&(k== .local||k== .cell))=false)
  (hi:PI X tg iter (jC C src)) (ok:BlkOk X.N X.env.scope scope own) (hb:Blk X C scope tg elt ifs t ft fe) (hs:cg iter=true) (hv:∀ i∈vZ t,i∈own.map (·.2)):
  PS X (.Assign [.Name y py] (.ListComp elt [⟨tg,iter,ifs,0⟩] scope pos) spos) (cq C (aR i (jr (own.map (·.2)) t src ft fe))):=by
 refine sN (ps_setLc (i:=i) (g:=D6 C t) (tt:=D7 C ft) (te:=Eg C fe) hc hN hy hyl (sw_true hk hyl hl ha) hi ok
  (fun s H D cl fp=>⟨fun pins s0 sv H0 v u Q I r ⟨C',c,q⟩=>(hb.go s H D cl fp C' c).1.run pins s0 sv H0 v u Q I r q⟩)
  (fun s H D cl fp=>⟨fun pins s0 sv H0 Q I ⟨C',c,q⟩=>(hb.go s H D cl fp C' c).2.1.run pins s0 sv H0 Q I q⟩)
  (fun s H D cl fp=>⟨fun pins s0 sv H0 Q I ⟨C',c,q⟩=>(hb.go s H D cl fp C' c).2.2.run pins s0 sv H0 Q I q⟩) (fold_ok hs)) fun D sv H hl h=>?_
 exact Cm hv (CM (by rw[hl];exact(List.getElem?_eq_some_iff.mp hy).1) h)
end
end Vw
namespace Vw
open PySem L2 PyProof.Rows
def bF(fs:State→Res (List RV))(b:List RV→State→Res RV)(s:State):Res RV:=(fs s).bind b
def gK(T:String)(fo:State→Res RV)(fs:State→Res (List RV))(b:RV→List RV→State→Res RV)(ty:State→RV→Bool)(s:State):Res RV:=
 (ev fo s).bind fun o s=>if ty s o then(fs s).bind fun rs s=>b o rs s else .stuck
def jW(s:State)(r:RV):Bool:=match dv s r with
 | some (.str _)=>true
 | _=>false
def eI(s:State)(r:RV):Bool:=(lv s r).isSome
def intsOf:List Val→Option (List Int)
 | []=>some []
 | .d (.int i)::r=>(intsOf r).map (i:: ·)
 | _=>none
def mN:List Val→Option (List Bool)
 | []=>some []
 | .d (.bl i)::r=>(mN r).map (i:: ·)
 | _=>none
def strsOf:List Val→Option (List (List Nat))
 | []=>some []
 | .d (.str i)::r=>(strsOf r).map (i:: ·)
 | _=>none
def sq(s:State)(r:RV):Option (List Val):=
 match lv s r with
 | some l=>some l
 | none=>tv s r
def cV(rs:List RV)(s:State):Res RV:=
 match rs with
 | [x]=>match dv s x with
  | some (.str t)=>if t.length≤sizeLine then aH (.int t.length) s else .stuck
  | _=>match sq s x with
   | some l=>aH (.int l.length) s
   | none=>.stuck
 | _=>.stuck
def mL(rs:List RV)(s:State):Res RV:=
 match rs with
 | [x]=>match sq s x with
  | some l=>.ok (.new (.lst l)) s
  | none=>.stuck
 | _=>.stuck
def K1(rs:List RV)(s:State):Res RV:=
 match rs with
 | [x]=>match dv s x with
  | some (.int i)=>aH (.int (if i<0 then-i else i)) s
  | _=>.stuck
 | _=>.stuck
def IZ(rs:List RV)(s:State):Res RV:=
 match rs with
 | [x,y]=>match dv s x,dv s y with
  | some (.int i),some (.int j)=>aH (.int (if j > i then j else i)) s
  | _,_=>.stuck
 | _=>.stuck
def Ht:List Int→Int
 | []=>0
 | x::r=>r.foldl max x
def IX(rs:List RV)(s:State):Res RV:=
 match rs with
 | [x]=>match (lv s x).bind intsOf with
  | some (n::ns)=>aH (.int (Ht (n::ns))) s
  | _=>.stuck
 | _=>.stuck
def Au(rs:List RV)(s:State):Res RV:=
 match rs with
 | [x]=>match (lv s x).bind mN with
  | some ns=>aH (.bl (ns.all id)) s
  | _=>.stuck
 | _=>.stuck
def bU(i:Int):List Nat:=(Str.ofString (toString i)).cps.toList
def ud(rs:List RV)(s:State):Res RV:=
 match rs with
 | [x]=>match dv s x with
  | some (.int i)=>if i.natAbs.log2<1920 then aH (.str (bU i)) s else .stuck
  | _=>.stuck
 | _=>.stuck
def bAppend(o:RV)(rs:List RV)(s:State):Res RV:=
 match rs with
 | [x]=>(bG x s).bind fun y s=>match ob s o with
  | some (.lst l)=>if l.length<sizeLine then .ok (.val (.d .non)) (wr o (.lst (l++[y])) s)else .stuck
  | _=>.stuck
 | _=>.stuck
def uy(o:RV)(rs:List RV)(s:State):Res RV:=
 match rs with
 | []=>match ob s o with
  | some (.lst l)=>match l[l.length- 1]? with
   | some y=>.ok (.val y) (wr o (.lst l.dropLast) s)
   | none=>.stuck
  | _=>.stuck
 | _=>.stuck
section
variable{C:Cst}{Z Z' Zc:Hp}{loc loc':List Addr}{s s':State}{sv sv':L2.St}{H H':Hp}
variable{X:Cx}{e a b c o:Expr}{es:List Expr}{p pos apos:Pos}{f fa fb fc fo fi fv:State→Res RV}{fs:State→Res (List RV)}
def nC(C:Cst)(b:List RV→State→Res RV)(r:List V→Hp→VK→Prop):Prop:=∀ (Z:Hp) (loc:List Addr) (s:State) (sv:L2.St) (H:Hp) (rs:List RV) (vs:List V) (Q:VK),SR C Z loc s sv H→fN C Z loc s sv H rs vs→EPost C Z loc sv (b rs s) Q→r vs H Q
def vS(C:Cst)(b:RV→List RV→State→Res RV)(r:V→List V→Hp→VK→Prop):Prop:=∀ (Z:Hp) (loc:List Addr) (s:State) (sv:L2.St) (H:Hp) (o:RV) (v:V) (rs:List RV) (vs:List V) (Q:VK),SR C Z loc s sv H→aY C Z loc s sv H o v→fN C Z loc s sv H rs vs→EPost C Z loc sv (b o rs s) Q→r v vs H Q
def BM(C:Cst)(T:String)(ty:State→RV→Bool):Prop:=∀ (K:PySem.W.Frag) (Z:Hp) (loc:List Addr) (s:State) (sv:L2.St) (H:Hp) (o:RV) (v:V),SR C Z loc s sv H→aY C Z loc s sv H o v→ty s o=true→tyV K T v H
theorem eJ{id:String}{x:Str}{r:List V→Hp→VK→Prop}{bf:List RV→State→Res RV}(hc:CallR X (.builtin id) r)(hS:nC C bf r)(hg:Gl X x)(hm:X.mg x=none)(hv:bootBuiltins x=some (.builtin id))(ha:PA X (e::es) (bS C fs))(hs:(e::es).all notStar=true)(hn:x≠"__name__")(hdb:(x==("__debug__":Str))=false):
  PE X (.Call (.Name x p) (e::es) [] pos) (ai C (bF fs bf)):=by
 have hs':=hs
 simp only[List.all_cons,Bool.and_eq_true]at hs
 exact aQ (pe_callB hc hg hm hv ha hn hdb (aX hs.1) (c5 hs.2)) fun sv H Q h=>(bS.at h).imp fun vs H1 ⟨Z,loc,s,xs,r,q,h⟩=>hS Z loc s sv H1 xs vs Q r q h
theorem iV{T:String}{x:Str}{r:List V→Hp→VK→Prop}{bf:List RV→State→Res RV}(hc:CallR X (.type T) r)(hS:nC C bf r)(hg:Gl X x)(hm:X.mg x=none)(hv:bootBuiltins x=some (.type T))(ha:PA X (e::es) (bS C fs))(hs:(e::es).all notStar=true)(hn:x≠"__name__")(hdb:(x==("__debug__":Str))=false):
  PE X (.Call (.Name x p) (e::es) [] pos) (ai C (bF fs bf)):=by
 have hs':=hs
 simp only[List.all_cons,Bool.and_eq_true]at hs
 exact aQ (pe_callTy hc hg hm hv ha hn hdb (aX hs.1) (c5 hs.2)) fun sv H Q h=>(bS.at h).imp fun vs H1 ⟨Z,loc,s,xs,r,q,h⟩=>hS Z loc s sv H1 xs vs Q r q h
theorem Ee{T:String}{r:V→List V→Hp→VK→Prop}{bf:RV→List RV→State→Res RV}{ty:State→RV→Bool}{Q:VK}(K:PySem.W.Frag)(hS:vS C bf r)(hT:BM C T ty)(h:ai C (gK T fo fs bf ty) sv H Q):
  ai C fo sv H fun x H1=>tyV K T x H1∧bS C fs sv H1 fun xs H2=>r x xs H2 Q:=by
 obtain⟨Z,loc,s,r,q⟩:=h
 refine(ai.m8 r q).imp fun v H1 ⟨Z1,l1,s1,y,g1,r1,st1,q1,h1⟩=>?_
 split at h1
 ·rename_i ht
  refine⟨hT K Z1 l1 s1 sv H1 y v r1 q1 ht,?_⟩
  refine⟨Z1,l1,s1,r1,?_⟩
  cases e:fs s1 with
  | stuck=>simp only[e,Res.bind]at h1;exact h1
  | exc x s2=>simp only[e,Res.bind]at h1;exact h1
  | ok xs s2=>
   simp only[e,Res.bind]at h1
   exact fun Z' l' H' vs g r' q'=>hS Z' l' s2 sv H' y v xs vs Q r' (aY.mono g st1 q1) q' (EPost.ext h1 g)
 ·exact h1.elim
theorem je{T id:String}{name:Str}{r:V→List V→Hp→VK→Prop}{bf:RV→List RV→State→Res RV}{ty:State→RV→Bool}(pa:PlainAttrs T)(slot:Slot T name id)(hty:typeOf (.builtin id)=pure (.type "method_descriptor"))(hm:MtR X id r)(hS:vS C bf r)(hT:BM C T ty)
  (ho:PE X o (ai C fo)) (ha:PA X (e::es) (bS C fs)) (hb:A9 o=true) (hs:(e::es).all notStar=true) (hl:(e::es).length<20) (hline:(apos.endLine==pos.line)=true):
  PE X (.Call (.Attribute o name apos) (e::es) [] pos) (ai C (gK T fo fs bf ty)):=by
 have hs':=hs
 simp only[List.all_cons,Bool.and_eq_true]at hs'
 exact aQ (pe_bm pa slot hty hm ho ha (Ez hb) (HY hs hl) hline (aX hs'.1) (c5 hs'.2)) fun sv H Q h=>Ee X.K hS hT h
theorem JX{T id:String}{name:Str}{r:V→List V→Hp→VK→Prop}{bf:RV→List RV→State→Res RV}{ty:State→RV→Bool}(pa:PlainAttrs T)(slot:Slot T name id)(hty:typeOf (.builtin id)=pure (.type "method_descriptor"))(hm:MtR X id r)(hS:vS C bf r)(hT:BM C T ty)
  (ho:PE X o (ai C fo)) (hb:A9 o=true) (hline:(apos.endLine==pos.line)=true):
  PE X (.Call (.Attribute o name apos) [] [] pos) (ai C (gK T fo (aj []) bf ty)):=by
 refine aQ (pe_bm0 pa slot hty hm ho (Ez hb) hline) fun sv H Q h=>(Ee X.K hS hT h).imp fun v H1 ⟨h1,Z,loc,s,r,q⟩=>⟨h1,q Z loc H1 [] (Ext.refl _ _) r rfl⟩
theorem SR.sq(r:SR C Z loc s sv H){K:PySem.W.Frag}{rv:RV}{v:V}{l:List Val}(h:aY C Z loc s sv H rv v)(e:Vw.sq s rv=some l):∃ a xs,v=.ref a∧(SqL K H a xs∨SqT K H a xs)∧aB C.cA Z loc l xs:=by
 unfold Vw.sq at e
 split at e
 ·rename_i l' e1
  cases e
  obtain⟨a,xs,h1,h2,h3⟩:=r.lv h e1
  exact⟨a,xs,h1,.inl (.inl h2),h3⟩
 ·obtain⟨a,xs,h1,h2,h3⟩:=r.tv h e
  exact⟨a,xs,h1,.inr (.inl (.inl h2)),h3⟩
theorem vG:∀ {l:List Val} {ns:List Bool} {xs:List V},mN l=some ns→aB C.cA Z loc l xs→xs=ns.map V.bl
 | [],ns,xs,e,h=>by cases e;exact h
 | .d (.bl i)::r,ns,xs,e,⟨v,t,e1,q,h⟩=>by
  unfold mN at e
  obtain⟨m,e2,rfl⟩:=Option.map_eq_some_iff.mp e
  rw[e1,vG e2 h,show v=_ from q]
  rfl
 | .d .non::r,ns,xs,e,h=>by cases e
 | .d (.int _)::r,ns,xs,e,h=>by cases e
 | .d (.str _)::r,ns,xs,e,h=>by cases e
 | .d (.tup _)::r,ns,xs,e,h=>by cases e
 | .d (.lst _)::r,ns,xs,e,h=>by cases e
 | .d (.dic _)::r,ns,xs,e,h=>by cases e
 | .d (.dit _)::r,ns,xs,e,h=>by cases e
 | .d (.ins _ _)::r,ns,xs,e,h=>by cases e
 | .r _::r,ns,xs,e,h=>by cases e
 | .tp _::r,ns,xs,e,h=>by cases e
theorem SR.bls(r:SR C Z loc s sv H)(K:PySem.W.Frag){rv:RV}{v:V}{ns:List Bool}(h:aY C Z loc s sv H rv v)(e:(Vw.lv s rv).bind mN=some ns):∃ a,v=.ref a∧SqL K H a (ns.map V.bl):=by
 obtain⟨l,e1,e2⟩:=Option.bind_eq_some_iff.mp e
 obtain⟨a,xs,h1,h2,h3⟩:=r.lv h e1
 rw[vG e2 h3]at h2
 exact⟨a,h1,.inl h2⟩
theorem df(K:PySem.W.Frag):nC C cV (fun xs H Q=>∃ x n,xs=[x]∧LenV K x H n∧Q (.int n) H):=by
 intro Z loc s sv H rs vs Q r q h
 unfold cV at h
 split at h
 ·rename_i x
  obtain⟨v,t,rfl,st,q1,q2⟩:=q
  cases q2
  split at h
  ·rename_i t e
   have q3:v=.str ⟨t.toArray⟩:=r.dv q1 e
   subst q3
   split at h
   ·rename_i hl
    exact⟨_,t.length,rfl,⟨by simpa [Str.length]using hl,by simp[Str.length]⟩,h.aH r rfl⟩
   ·exact h.elim
  ·split at h
   ·rename_i l e
    obtain⟨a,xs,rfl,h1,h2⟩:=r.sq (K:=K) q1 e
    refine⟨_,l.length,rfl,?_,h.aH r rfl⟩
    have el:=bu h2
    exact h1.elim (fun z=>.inl ⟨xs,z,el⟩) fun z=>.inr ⟨xs,z,el⟩
   ·exact h.elim
 ·exact h.elim
theorem Dy(K:PySem.W.Frag):nC C mL (fun xs H Q=>∃ p ys,xs=[.ref p]∧(SqL K H p ys∨SqT K H p ys)∧∀ l,H l=none→Q (.ref l) (upd H l (.lst ys))):=by
 intro Z loc s sv H rs vs Q r q h
 unfold mL at h
 split at h
 ·rename_i x
  obtain⟨v,t,rfl,st,q1,q2⟩:=q
  cases q2
  split at h
  ·rename_i l e
   obtain⟨a,xs,rfl,h1,h2⟩:=r.sq (K:=K) q1 e
   exact⟨a,xs,rfl,h1,fun p np=>h.new r np (by simp) ⟨xs,upd_same,h2⟩⟩
  ·exact h.elim
 ·exact h.elim
theorem zP(r:SR C Z loc s sv H){x:RV}{vs:List V}{d:D}(q:fN C Z loc s sv H [x] vs)(e:dv s x=some d):∃ v,vs=[v]∧aL C.cA Z d v:=by
 obtain⟨v,t,rfl,st,q1,q2⟩:=q
 cases q2
 exact⟨v,rfl,r.dv q1 e⟩
theorem Fp(K:PySem.W.Frag):nC C Au (rAll K):=by
 intro Z loc s sv H rs vs Q r q h
 unfold Au at h
 split at h
 ·obtain⟨v,t,rfl,st,q1,q2⟩:=q
  cases q2
  split at h
  ·rename_i ns e
   obtain⟨a,rfl,h1⟩:=r.bls K q1 e
   exact⟨a,ns,rfl,h1,h.aH r rfl⟩
  ·exact h.elim
 ·exact h.elim
theorem yW:nC C ud (fun xs H Q=>∃ i,xs=[.int i]∧i.natAbs.log2<1920∧Q (.str (toString i)) H):=by
 intro Z loc s sv H rs vs Q r q h
 unfold ud at h
 split at h
 ·split at h
  ·rename_i i e
   obtain⟨v,rfl,rfl⟩:=zP r q e
   split at h
   ·rename_i hl
    exact⟨_,rfl,hl,h.aH r (by show _=V.str _;unfold bU;simp)⟩
   ·exact h.elim
  ·exact h.elim
 ·exact h.elim
theorem j2:BM C "list" eI:=by
 intro K Z loc s sv H o v r q h
 unfold eI at h
 obtain⟨l,e⟩:=Option.isSome_iff_exists.mp h
 obtain⟨a,xs,rfl,h1,h2⟩:=r.lv q e
 exact .inl ⟨rfl,xs,.inl h1⟩
theorem lP:BM C "str" jW:=by
 intro K Z loc s sv H o v r q h
 unfold jW at h
 split at h
 ·rename_i t e
  have q3:v=.str ⟨t.toArray⟩:=r.dv q e
  subst q3
  exact rfl
 ·cases h
theorem SR.GJ(r:SR C Z loc s sv H){rv:RV}{v:V}{l l':List Val}(h:aY C Z loc s sv H rv v)(e:Vw.ob s rv=some (.lst l)):∃ a xs,v=.ref a∧H a=some (.lst xs)∧aB C.cA Z loc l xs∧∀ ys,aB C.cA Z loc l' ys→SR C Z loc (wr rv (.lst l') s) sv (upd H a (.lst ys)):=by
 obtain⟨a,h1,_,xs,h3,h4⟩:=r.ob h e
 exact⟨a,xs,h1,h3,h4,fun ys q=>r.write h e h1 (by simp) (fun x w z=>by rw[h3]at z;cases z) ⟨ys,upd_same,q⟩⟩
theorem fQ:vS C bAppend rAppend:=by
 intro Z loc s sv H o v rs vs Q r q qs h
 unfold bAppend at h
 split at h
 ·rename_i x
  obtain⟨w,t,rfl,st,q1,q2⟩:=qs
  cases q2
  cases e:bG x s with
  | stuck=>rw[e]at h;exact h.elim
  | exc x s1=>exact absurd e ym
  | ok y s1=>
   rw[e]at h
   simp only[Res.bind]at h
   obtain⟨Z1,g1,r1,q1'⟩:=r.bG q1 e
   split at h
   ·rename_i l e2
    split at h
    ·rename_i hl
     have h:=h
     have qo:aY C Z1 loc s1 sv H o v:=by
      cases o with
      | val x=>exact bh.mono g1 x q
      | own i=>exact q
      | new o=>unfold ob at e2;simp[ib]at e2
     obtain⟨a,xs,rfl,h1,h2,h3⟩:=r1.GJ (l':=l++[y]) qo e2
     exact⟨a,xs,w,rfl,rfl,h1,by rw[←bu h2];exact hl,h Z1 loc _ .non g1 (h3 _ (ni h2 ⟨w,[],rfl,q1',rfl⟩)) rfl⟩
    ·exact h.elim
   ·exact h.elim
 ·exact h.elim
theorem nR:∀ {l:List Val} {xs:List V},aB C.cA Z loc l xs→aB C.cA Z loc l.dropLast xs.dropLast
 | [],xs,h=>by rw[show xs=_ from h];rfl
 | [x],xs,⟨v,t,e,q,h⟩=>by rw[e,show t=_ from h];rfl
 | x::y::l,xs,⟨v,t,e,q,h⟩=>by
  have h':=h
  obtain⟨w,t',e',_⟩:=h'
  rw[e,e']
  rw[e']at h
  exact⟨v,_,rfl,q,nR h⟩
theorem EX:vS C uy rPop:=by
 intro Z loc s sv H o v rs vs Q r q qs h
 unfold uy at h
 split at h
 ·cases qs
  split at h
  ·rename_i l e2
   split at h
   ·rename_i y e3
    obtain⟨a,xs,rfl,h1,h2,h3⟩:=r.GJ (l':=l.dropLast) q e2
    obtain⟨w,h4,h5⟩:=fF h2 e3
    exact⟨a,xs,w,rfl,rfl,h1,by rw[←bu h2];exact h4,h.val (h3 _ (nR h2)) h5⟩
   ·exact h.elim
  ·exact h.elim
 ·exact h.elim
end
end Vw
namespace Vw
open PySem L2 PyProof.Rows
def sS(x:String):List Nat:=(Str.ofString x).cps.toList
def iA(fs:List (State→Res RV))(s:State):Res RV:=(aj fs s).bind y5
def dk(fs:List (State→Res RV))(s:State):Res RV:=(aj fs s).bind xy
def KW(f:State→Res RV)(s:State):Res RV:=(ev f s).bind CN
def ip:Nat:=1000000
section
variable{C:Cst}{X:Cx}{e:Expr}{es:List Expr}{pos:Pos}{f:State→Res RV}
theorem aA{x:String}{j:Nat}:PE X (.Constant (.str (Str.ofString x)) j pos) (ai C (fD (.str (sS x)))):=qB pe_str fun _=>by
 show V.str _=V.str _
 simp[sS]
theorem gR{k:Nat}{fs:List (State→Res RV)}(h:PA X es (bS C (aj fs))):PE X (.Tuple es k pos) (ai C (iA fs)):=Jt h
theorem cX{fs:List (State→Res RV)}(h:PA X es (bS C (aj fs))):PE X (.List es pos) (ai C (dk fs)):=JW h
section
variable{C:Cst}{X:Cx}{e a b c:Expr}{es:List Expr}{p pos:Pos}{f fa fb fc:State→Res RV}
theorem cf(ha:PE X a (ai C fa))(hb:PE X b (ai C fb)):PE X (.BinOp a .Add b pos) (ai C (ao fa fb (binop .add))):=tf .add ha hb
theorem mO(ha:PE X a (ai C fa))(hb:PE X b (ai C fb)):PE X (.BinOp a .Mult b pos) (ai C (ao fa fb (binop .mul))):=tf .mul ha hb
theorem jg(ha:PE X a (ai C fa))(hb:PE X b (ai C fb)):PE X (.BinOp a .FloorDiv b pos) (ai C (ao fa fb (binop .fdiv))):=tf .fdiv ha hb
theorem dh(ha:PE X a (ai C fa))(hb:PE X b (ai C fb)):PE X (.BinOp a .Mod b pos) (ai C (ao fa fb (binop .mod))):=tf .mod ha hb
theorem EG(ha:PE X a (ai C fa))(hb:PE X b (ai C fb)):PE X (.BinOp a .Pow b pos) (ai C (ao fa fb (binop .pow))):=tf .pow ha hb
theorem pW(hu:X.A.units+64<cLine)(ha:PE X a (ai C fa))(hb:PE X b (ai C fb))(hm:cg b=true):PE X (.Compare a [.Eq] [b] pos) (ai C (ao fa fb (aI .eq))):=Ar hu .eq ha hb hm
theorem i0(hu:X.A.units+64<cLine)(ha:PE X a (ai C fa))(hb:PE X b (ai C fb))(hm:cg b=true):PT X (.Compare a [.Eq] [b] pos) (cQ C (aT (ao fa fb (aI .eq)))):=nV hu .eq ha hb hm
theorem G7(hu:X.A.units+64<cLine)(ha:PE X a (ai C fa))(hb:PE X b (ai C fb))(hm:cg b=true):PE X (.Compare a [.NotEq] [b] pos) (ai C (ao fa fb (aI .ne))):=Ar hu .ne ha hb hm
theorem A8(hu:X.A.units+64<cLine)(ha:PE X a (ai C fa))(hb:PE X b (ai C fb))(hm:cg b=true):PT X (.Compare a [.NotEq] [b] pos) (cQ C (aT (ao fa fb (aI .ne)))):=nV hu .ne ha hb hm
theorem Ej(hu:X.A.units+64<cLine)(ha:PE X a (ai C fa))(hb:PE X b (ai C fb))(hm:cg b=true):PT X (.Compare a [.Lt] [b] pos) (cQ C (aT (ao fa fb (aI .lt)))):=nV hu .lt ha hb hm
theorem Ka(hu:X.A.units+64<cLine)(ha:PE X a (ai C fa))(hb:PE X b (ai C fb))(hm:cg b=true):PT X (.Compare a [.LtE] [b] pos) (cQ C (aT (ao fa fb (aI .le)))):=nV hu .le ha hb hm
theorem JL(hu:X.A.units+64<cLine)(ha:PE X a (ai C fa))(hb:PE X b (ai C fb))(hm:cg b=true):PT X (.Compare a [.GtE] [b] pos) (cQ C (aT (ao fa fb (aI .ge)))):=nV hu .ge ha hb hm
theorem ya(hu:X.A.units+64<cLine)(ha:PE X a (ai C fa))(hb:PE X b (ai C fb))(hm:cg b=true):PE X (.Compare a [.In] [b] pos) (ai C (ao fa fb (aI .isin))):=Ar hu .isin ha hb hm
theorem uM(hu:X.A.units+64<cLine)(ha:PE X a (ai C fa))(hb:PE X b (ai C fb))(hm:cg b=true):PT X (.Compare a [.In] [b] pos) (cQ C (aT (ao fa fb (aI .isin)))):=nV hu .isin ha hb hm
theorem yY(hu:X.A.units+64<cLine)(ha:PE X a (ai C fa))(hb:PE X b (ai C fb))(hc:PE X c (ai C fc))(hm:cg c=true):PE X (.Compare a [.Lt,.LtE] [b,c] pos) (ai C (zq fa fb fc (aI .lt) (aI .le))):=Fm hu .lt .le ha hb hc hm
theorem x_call{CX:CXT}{k n:Nat}{fA:Addr}{fd:FuncData}{ps:List Str}{x:Str}{g:Fn}{fs:State→Res (List RV)}{cA:String→Addr}(hC:C.cA=cA)(F:FnOk X.prog X.w X.K X.mg X.base CX k fA fd ps (bz cA n g))(hr:Room k X.A)(hg:Gl X x)(hm:X.mg x=some (.ref fA))(hk:PySem.W.keepIn X.K (.ref fA)=true)
  (hb:Binds X.K fd ps []) (hx:Passes CX X E0) (hn:ps.length=n) (ha:PA X (e::es) (bS C fs)) (hdb:(x==("__debug__":Str))=false) (hs:(e::es).all notStar=true):
  PE X (.Call (.Name x p) (e::es) [] pos) (ai C (bR n fs g)):=by
 subst hn hC
 exact B6 F hr hg hm hk hb hx ha hdb hs
theorem Ge{CX:CXT}{k n:Nat}{fA:Addr}{fd:FuncData}{ps:List Str}{x:Str}{g:Fn}{fs:State→Res (List RV)}{cA:String→Addr}(hC:C.cA=cA)(F:FnOk X.prog X.w X.K X.mg X.base CX k fA fd ps (bz cA n g))(hr:Room k X.A)(hg:Gl X x)(hm:X.mg x=some (.ref fA))(hk:PySem.W.keepIn X.K (.ref fA)=true)
  (hb:Binds X.K fd ps []) (hx:Passes CX X E0) (hn:ps.length=n) (ha:PA X (e::es) (bS C fs)) (hdb:(x==("__debug__":Str))=false) (hs:(e::es).all notStar=true):
  PE X (.Call (.Name x p) (e::es) [] pos) (ai C (mV n fs g)):=by
 subst hn hC
 exact Hs F hr hg hm hk hb hx ha hdb hs
section
variable{elt tg iter:Expr}{ifs:List Expr}{scope:Scope}{cA:String→Addr}{fe:State→Res RV}{ft:State→Res Bool}
theorem xI{t:Tg}{src:State→Res (List Val)}(hC:C.cA=cA)(own:List (Str×Nat)){vs:List Nat}(hvs:own.map (·.2)=vs)(hc:X.calm=true)(hN:X.N.Nodup)(hi:PI X tg iter (jC C src))(ok:blkC X.N X.env.scope scope own=true)
  (hb:∀ (s:Shared) (H:Hp) (D:Addr) (cl:List (Str×Addr)) (fp:List Addr) (C':Cst),C'.cA=cA→PG (X.blk s H scope (compEnvC scope cl D X.env) fp) tg (n3 C' t)∧PTs (X.blk s H scope (compEnvC scope cl D X.env) fp) ifs (cQ C' ft)∧PE (X.blk s H scope (compEnvC scope cl D X.env) fp) elt (ai C' fe))
  (hs:cg iter=true) (hv:∀ i∈vZ t,i∈vs):PE X (.ListComp elt [⟨tg,iter,ifs,0⟩] scope pos) (ai C (jr vs t src ft fe)):=by
 subst hvs
 exact K2 hc hN hi (blkOk_by ok) ⟨fun s H D cl fp C' h=>hb s H D cl fp C' (h.trans hC)⟩ hs hv
theorem Ah{t:Tg}{src:State→Res (List Val)}{i:Nat}{y:Str}{py spos:Pos}(hC:C.cA=cA)(own:List (Str×Nat)){vs:List Nat}(hvs:own.map (·.2)=vs)(hc:X.calm=true)(hN:X.N.Nodup)(hy:X.N[i]? =some y)(hyl:X.env.scope.names.lookup y=some .local)(hk:X.env.scope.kind=.function)
  (hl:(py.line==pos.line)=true) (ha:(scope.names.any fun(n,k)=>n==y&&(k== .local||k== .cell))=false) (hi:PI X tg iter (jC C src)) (ok:blkC X.N X.env.scope scope own=true)
  (hb:∀ (s:Shared) (H:Hp) (D:Addr) (cl:List (Str×Addr)) (fp:List Addr) (C':Cst),C'.cA=cA→PG (X.blk s H scope (compEnvC scope cl D X.env) fp) tg (n3 C' t)∧PTs (X.blk s H scope (compEnvC scope cl D X.env) fp) ifs (cQ C' ft)∧PE (X.blk s H scope (compEnvC scope cl D X.env) fp) elt (ai C' fe))
  (hs:cg iter=true) (hv:∀ i∈vZ t,i∈vs):PS X (.Assign [.Name y py] (.ListComp elt [⟨tg,iter,ifs,0⟩] scope pos) spos) (cq C (aR i (jr vs t src ft fe))):=by
 subst hvs
 exact ES hc hN hy hyl hk hl ha hi (blkOk_by ok) ⟨fun s H D cl fp C' h=>hb s H D cl fp C' (h.trans hC)⟩ hs hv
end
theorem gZ{P:Program}{w:World}{K:PySem.W.Frag}{mg:Str→Option Value}{base:Heap}{x qual:Str}{params:Arguments}{body:List Stmt}{scope:Scope}{f:Addr}{fd:FuncData}{N ps:List Str}{cA:String→Addr}{b:State→Res Fl}{k n m:Nat}
  (F:FunD K x qual params body scope [] [] f fd) (S:FnScope N ps scope) (hn:ps.length=n) (hm:N.length=m)
  (hb:∀ (cdv:Value) (A:Around) (outer:List Env) (s:Shared) (H:Hp) (E:XK) (C:Cst),Room k (A.deeper (envOfC qual scope s.heap.objs.size f cdv))→C.cA=cA→PSs (cxOf CX0 P w K mg base N qual scope f cdv A outer s H E).nox body (cq C b)):
  FnOk P w K mg base CX0 (k+1) f fd ps (bz cA n (cB m b)):=by
 subst hn hm
 exact fn_ok F S hb
end
end
theorem d0:bootBuiltins "len"=some (.builtin "len"):=by decide+kernel
theorem k9:bootBuiltins "list"=some (.type "list"):=by decide+kernel
theorem HH:bootBuiltins "all"=some (.builtin "all"):=by decide+kernel
theorem tL:bootBuiltins "str"=some (.type "str"):=by decide+kernel
theorem mu:bootBuiltins "int"=some (.type "int"):=by decide+kernel
theorem BR:bootBuiltins "sorted"=some (.builtin "sorted"):=by decide+kernel
theorem sF:bootBuiltins "tuple"=some (.type "tuple"):=by decide+kernel
theorem wU:bootBuiltins "isinstance"=some (.builtin "isinstance"):=by decide+kernel
theorem F1:bootBuiltins "bool"=some (.type "bool"):=by decide+kernel
end Vw
namespace Vw
open PySem L2 PyProof.Rows
def qD(K:PySem.W.Frag):Bool:=K.all fun p=>match p.2.cls with
 | .type c=> !(decide (c="list"))
 | _=>true
theorem Di{K:PySem.W.Frag}(h:qD K=true){a:Addr}{o:Obj}(e:K.lookup a=some o):o.cls≠ .type "list":=fun z=>by
 have hm:∃ p∈K,p.2=o:=by
  clear h
  induction K with
  | nil=>cases e
  | cons p r ih=>
   obtain⟨b,x⟩:=p
   rw[List.lookup_cons]at e
   split at e
   ·cases e
    exact⟨_,List.mem_cons_self,rfl⟩
   ·obtain⟨p,hp,q⟩:=ih e
    exact⟨p,List.mem_cons_of_mem _ hp,q⟩
 obtain⟨p,hp,rfl⟩:=hm
 have:=List.all_eq_true.mp h p hp
 rw[z]at this
 simp at this
def DM(ns:List Int):Val:=.d (.lst (ns.map .int))
theorem Bv{cA:String→Addr}{K:PySem.W.Frag}{g:Fn}{H:Hp}{a:Addr}{ns:List Int}(nl:qD K=true)(hS:SqL K H a (ns.map V.int))(hg:∃ s,g [DM ns] []=.ok (.val (.d (.bl true))) s):
  bz cA 1 g [.ref a] H (fun v _=>v=.bl true) E0:=by
 obtain⟨s',hg⟩:=hg
 have hr:∃ u,H a=some u∧(u=.lst (ns.map V.int)∨∃ o,u=.frz o (.lst (ns.map V.int))):=by
  rcases hS with h | ⟨o,its,n,h1,h2,_⟩
  ·rcases h with h | ⟨o,h⟩
   ·exact⟨_,h,.inl rfl⟩
   ·exact⟨_,h,.inr ⟨o,rfl⟩⟩
  ·exact absurd h2 (Di nl h1)
 obtain⟨u,hu,hu2⟩:=hr
 have rep:∀ (ns:List Int) (Z:Hp),br cA Z (ns.map .int) (ns.map V.int):=fun ns Z=>by
  induction ns with
  | nil=>rfl
  | cons n r ih=>exact⟨_,_,rfl,rfl,ih⟩
 refine⟨fun _=>none,fun _=>none,upd (fun _=>none) a u,[],[DM ns],[],⟨fun b o h=>(by cases h),fun b o h=>?_,fun b o h=>rfl,fun b o w h=>(by cases h),rfl,List.nodup_nil,fun b h=>by simp at h,fun n b o h=>by simp at h,fun i x h=>by simp at h,fun i o h=>by simp at h,fun i j o o' b h=>by simp at h,rfl⟩,⟨.ref a,[],rfl,⟨a,ns.map V.int,rfl,?_,rep ns _⟩,rfl⟩,rfl,?_⟩
 ·by_cases hb:b=a
  ·subst hb
   rw[upd_same]at h
   cases h
   exact .inl hu
  ·rw[upd_ne hb]at h
   cases h
 ·rcases hu2 with e | ⟨o,e⟩
  ·exact .inl (by rw[upd_same,e])
  ·exact .inr ⟨o,by rw[upd_same,e]⟩
 ·rw[hg]
  exact fun Z' l' H' v _ _ q=>q
end Vw
namespace Vw
open PySem L2 PyProof.Rows
def El(sg:Slots)(r:Res RV):Res RV:=
 match r with
 | .ok r s2=>.ok r ⟨sg,s2.st⟩
 | _=>.stuck
def lF(r:Res Fl)(k:State→Res Fl):Res Fl:=
 match r with
 | .ok .nx s=>k s
 | t=>t
def qu(r:Res Fl)(k:State→Res Fl):Res Fl:=
 match r with
 | .ok .nx s=>k s
 | .ok .cnt s=>k s
 | .ok .brk s=>.ok .nx s
 | r=>r
@[simp] theorem xS(sg:Slots)(r:RV)(s:State):El sg (.ok r s)=.ok r ⟨sg,s.st⟩:=id rfl
@[simp] theorem u0(s:State)(k:State→Res Fl):lF (.ok .nx s) k=k s:=id rfl
@[simp] theorem DF(r:RV)(s:State)(k:State→Res Fl):lF (.ok (.ret r) s) k=.ok (.ret r) s:=id rfl
@[simp] theorem Lx(s:State)(k:State→Res Fl):lF (.ok .brk s) k=.ok .brk s:=id rfl
@[simp] theorem K9(s:State)(k:State→Res Fl):lF (.ok .cnt s) k=.ok .cnt s:=id rfl
@[simp] theorem yx(x:Exn)(s:State)(k:State→Res Fl):lF (.exc x s) k=.exc x s:=id rfl
@[simp] theorem L1(k:State→Res Fl):lF .stuck k=.stuck:=id rfl
@[simp] theorem zN(s:State)(k:State→Res Fl):qu (.ok .nx s) k=k s:=id rfl
@[simp] theorem DK(s:State)(k:State→Res Fl):qu (.ok .cnt s) k=k s:=id rfl
@[simp] theorem LO(s:State)(k:State→Res Fl):qu (.ok .brk s) k=.ok .nx s:=id rfl
@[simp] theorem LA(r:RV)(s:State)(k:State→Res Fl):qu (.ok (.ret r) s) k=.ok (.ret r) s:=id rfl
@[simp] theorem Lf(x:Exn)(s:State)(k:State→Res Fl):qu (.exc x s) k=.exc x s:=id rfl
@[simp] theorem LU(k:State→Res Fl):qu .stuck k=.stuck:=id rfl
def Df(i j:Int):Bool:=decide (i.natAbs.log2+j.natAbs.log2<1000000)
def Dt(j:Int):Bool:=decide (0<j∧j.natAbs.log2<9000)
section
variable(sg:Slots)(st:List Ob)(s s':State)(i n:Nat)(d d':D)(x y:Val)(o:Ob)(f g h fa fb fc:State→Res RV)(fs:List (State→Res RV))(ft:State→Res Bool)(sa sb:State→Res Fl)(ss:List (State→Res Fl))(r r':RV)(rs:List RV)
@[simp] theorem Mg:ib s (.val x)=.val x:=id rfl
@[simp] theorem MP:ib s (.new o)=.new o:=id rfl
@[simp] theorem yb:ib ⟨sg,st⟩ (.own i)=(match sg[i]? with | some (some (.v x))=>.val x | _=>.own i):=id rfl
@[simp] theorem uY:dv s (.val (.d d))=some d:=id rfl
@[simp] theorem Iw:dv s (.val (.r n))=none:=id rfl
@[simp] theorem A6:dv ⟨sg,st⟩ (.own i)=(match sg[i]? with | some (some (.v (.d x)))=>some x | _=>none):=by
 unfold dv
 rw[yb]
 cases e:sg[i]? with
 | none=>rfl
 | some a=>cases a with
  | none=>rfl
  | some b=>cases b<;> first | rfl | (rename_i v;cases v<;> rfl)
@[simp] theorem xl:ob ⟨sg,st⟩ (.own i)=(match sg[i]? with | some (some (.own o))=>some o | some (some (.v (.r n)))=>(match st[n]? with | some .gone=>none | some o=>some o | none=>none) | _=>none):=by
 unfold ob
 rw[yb]
 cases e:sg[i]? with
 | none=>simp[e]
 | some a=>cases a with
  | none=>simp[e]
  | some b=>cases b with
   | own o=>simp[e]
   | v v=>cases v<;> simp[e]<;> rfl
@[simp] theorem Ny:ob s (.val (.d d))=none:=id rfl
@[simp] theorem A1:ob s (.val (.r n))=(match s.st[n]? with | some .gone=>none | some o=>some o | none=>none):=id rfl
@[simp] theorem Nm:lv s (.val (.d d))=(match d with | .lst l=>some (l.map .d) | _=>none):=by cases d<;> rfl
@[simp] theorem IG:tv s (.val (.d d))=(match d with | .tup l=>some (l.map .d) | _=>none):=by cases d<;> rfl
theorem x7:lv s r=(match dv s r with | some (.lst l)=>some (l.map .d) | some _=>none | none=>match ob s r with | some (.lst l)=>some l | _=>none):=rfl
@[simp] theorem Nl:lv ⟨sg,st⟩ (.own i)=(match dv ⟨sg,st⟩ (.own i)with | some (.lst l)=>some (l.map .d) | some _=>none | none=>match ob ⟨sg,st⟩ (.own i)with | some (.lst l)=>some l | _=>none):=id rfl
@[simp] theorem Nr:lv s (.val (.r n))=(match ob s (.val (.r n))with | some (.lst l)=>some l | _=>none):=id rfl
@[simp] theorem iw:ae i ⟨sg,st⟩=(match sg[i]? with | some (some (.v x))=>.ok (.val x) ⟨sg,st⟩ | some (some (.own _))=>.ok (.own i) ⟨sg,st⟩ | _=>.stuck):=id rfl
@[simp] theorem NN:fD d s=.ok (.val (.d d)) s:=id rfl
@[simp] theorem Nd:aH d s=.ok (.val (.d d)) s:=id rfl
@[simp] theorem nt:ev f s=(f s).bind settle:=id rfl
@[simp] theorem F9:settle (.val x) s=.ok (.val x) s:=id rfl
@[simp] theorem KC:settle (.own i) s=.ok (.own i) s:=id rfl
@[simp] theorem Lc:settle (.new o) s=(match o.toD with | some d=>.ok (.val (.d d)) s | none=>.stuck):=id rfl
@[simp] theorem ND(k:RV→RV→State→Res RV):ao fa fb k s=(ev fa s).bind fun x s=>(ev fb s).bind fun y s=>k x y s:=id rfl
@[simp] theorem AV:aT f s=(ev f s).bind vO:=id rfl
@[simp] theorem Jd:vO r s=(match dv s r with | some (.bl b)=>.ok b s | _=>.stuck):=id rfl
@[simp] theorem Cr:aj [] s=.ok [] s:=id rfl
@[simp] theorem AG:aj (f::fs) s=(ev f s).bind fun x s=>(aj fs s).bind fun xs s=>.ok (x::xs) s:=id rfl
@[simp] theorem n6:bG (.val x) s=.ok x s:=id rfl
@[simp] theorem NH:bG (.new o) s=(match o.toD with | some d=>.ok (.d d) s | none=>.stuck):=id rfl
@[simp] theorem Ik:bG (.own i) ⟨sg,st⟩=(match sg[i]? with | some (some (.own o))=>(match o.toD with | some d=>.ok (.d d) ⟨sg.set i (some (.v (.d d))),st⟩ | none=>.stuck) | some (some (.v x))=>.ok x ⟨sg,st⟩ | _=>.stuck):=id rfl
@[simp] theorem NB:aD [] s=.ok [] s:=id rfl
@[simp] theorem Dc:aD (r::rs) s=(bG r s).bind fun x s=>(aD rs s).bind fun xs s=>.ok (x::xs) s:=id rfl
@[simp] theorem L9:toDs []=some []:=id rfl
@[simp] theorem M0(v:List Val):toDs (.d d::v)=(toDs v).map (d:: ·):=id rfl
@[simp] theorem Nf(l:List Val):Ob.toD (.lst l)=(toDs l).map .lst:=id rfl
@[simp] theorem DY:iA fs s=(aj fs s).bind y5:=id rfl
@[simp] theorem Ey:dk fs s=(aj fs s).bind xy:=id rfl
@[simp] theorem Nx:KW f s=(ev f s).bind CN:=id rfl
@[simp] theorem My:CN r s=(match dv s r with | some (.int i)=>.ok (.val (.d (.int (-i)))) s | _=>.stuck):=id rfl
@[simp] theorem GH:y5 rs s=(aD rs s).bind fun l s=>if l.length≤sizeLine then .ok (.val (fP l)) s else .stuck:=id rfl
@[simp] theorem Ie:xy rs s=(aD rs s).bind fun l s=>if l.length≤sizeLine then .ok (.new (.lst l)) s else .stuck:=id rfl
@[simp] theorem EN(l:List Val):fP l=(match toDs l with | some ds=>.d (.tup ds) | none=>.tp l):=id rfl
@[simp] theorem Nv(k:State→Res (List RV))(b:List RV→State→Res RV):bF k b s=(k s).bind b:=id rfl
@[simp] theorem MM(k:State→Res (List RV))(gg:Fn):bR n k gg s=(k s).bind fun rs s=>(aD rs s).bind fun args s=>if args.length=n then cW gg args s else .stuck:=id rfl
@[simp] theorem Ab(gg:Fn)(args:List Val):cW gg args ⟨sg,st⟩=El sg (gg args st):=id rfl
@[simp] theorem G6(T:String)(k:State→Res (List RV))(b:RV→List RV→State→Res RV)(ty:State→RV→Bool):gK T f k b ty s=(ev f s).bind fun o s=>if ty s o then(k s).bind fun rs s=>b o rs s else .stuck:=id rfl
@[simp] theorem Bl:ah [] s=.ok .nx s:=id rfl
@[simp] theorem kS:ah (sa::ss) s=lF (sa s) (ah ss):=id rfl
@[simp] theorem yw:b7 ft sa sb s=(ft s).bind fun k s=>if k=true then sa s else sb s:=id rfl
@[simp] theorem Np:G2 ft fa fb s=(ft s).bind fun k s=>if k=true then fa s else fb s:=id rfl
@[simp] theorem mU:aP f s=(f s).bind fun r s=>.ok (.ret r) s:=id rfl
@[simp] theorem Cw:cN f s=(f s).bind fun _ s=>.ok .nx s:=id rfl
@[simp] theorem xi:aR i f s=(f s).bind fun r s=>pY (nk i r s):=id rfl
@[simp] theorem M9:pY (some s)=.ok .nx s:=id rfl
@[simp] theorem Mo:nk i (.val x) ⟨sg,st⟩=some ⟨sg.set i (some (.v x)),st⟩:=id rfl
@[simp] theorem MA:nk i (.new o) ⟨sg,st⟩=some ⟨sg.set i (some (.own o)),st⟩:=id rfl
@[simp] theorem Mh(j:Nat):nk i (.own j) s=(match jb j s with | .ok x s=>some { s with sg:=s.sg.set i (some (.v x)) } | _=>none):=id rfl
@[simp] theorem MW:jb i ⟨sg,st⟩=bG (.own i) ⟨sg,st⟩:=id rfl
@[simp] theorem Eh(t:Tg)(src:State→Res (List Val)):de t src sb s=(src s).bind fun l s=>g9 t sb l s:=id rfl
@[simp] theorem Bi(k:State→Res (List RV))(b:List RV→State→Res (List Val)):fq k b s=(k s).bind b:=id rfl
@[simp] theorem mz(k:D→State→Res (List Val)):sD f k s=(ev f s).bind fun r s=>(kI r s).bind k:=id rfl
@[simp] theorem Cc:kI r s=(match bG r s with | .ok (.d x) s=>.ok x s | _=>.stuck):=id rfl
@[simp] theorem MK:kE [ft] s=ft s:=id rfl
@[simp] theorem MT(f2:State→Res Bool)(fr:List (State→Res Bool)):kE (ft::f2::fr) s=(ft s).bind fun b s=>if b=true then kE (f2::fr) s else .ok false s:=id rfl
@[simp] theorem Nu:lB [ft] s=ft s:=id rfl
@[simp] theorem Nn(f2:State→Res Bool)(fr:List (State→Res Bool)):lB (ft::f2::fr) s=(ft s).bind fun b s=>if b=true then .ok true s else lB (f2::fr) s:=id rfl
@[simp] theorem AA:fj ft s=(ft s).bind fun b s=>.ok (!b) s:=id rfl
@[simp] theorem LQ:eg [f] s=ev f s:=id rfl
@[simp] theorem LX:eg (f::g::fs) s=(aT f s).bind fun b s=>if b=true then eg (g::fs) s else aH (.bl false) s:=id rfl
@[simp] theorem MQ:jE [f] s=ev f s:=id rfl
@[simp] theorem Mq:jE (f::g::fs) s=(aT f s).bind fun b s=>if b=true then aH (.bl true) s else jE (g::fs) s:=id rfl
@[simp] theorem pH(op:Cop):aI op r r' s=(match fL op s r r' with | some b=>aH (.bl b) s | none=>.stuck):=id rfl
@[simp] theorem JK:cV [r] s=(match dv s r with | some (.str t)=>if t.length≤sizeLine then aH (.int t.length) s else .stuck | _=>match sq s r with | some l=>aH (.int l.length) s | none=>.stuck):=id rfl
@[simp] theorem K5:sq s r=(match lv s r with | some l=>some l | none=>tv s r):=id rfl
@[simp] theorem Mj:mL [r] s=(match sq s r with | some l=>.ok (.new (.lst l)) s | none=>.stuck):=id rfl
@[simp] theorem NF:K1 [r] s=(match dv s r with | some (.int i)=>aH (.int (if i<0 then-i else i)) s | _=>.stuck):=id rfl
@[simp] theorem MH:IZ [r,r'] s=(match dv s r,dv s r' with | some (.int i),some (.int j)=>aH (.int (if j > i then j else i)) s | _,_=>.stuck):=id rfl
@[simp] theorem KO:bAppend r [r'] s=(bG r' s).bind fun y s=>match ob s r with | some (.lst l)=>if l.length<sizeLine then .ok (.val (.d .non)) (wr r (.lst (l++[y])) s)else .stuck | _=>.stuck:=id rfl
@[simp] theorem Nc:uy r [] s=(match ob s r with | some (.lst l)=>(match l[l.length- 1]? with | some y=>.ok (.val y) (wr r (.lst l.dropLast) s) | none=>.stuck) | _=>.stuck):=id rfl
@[simp] theorem Jj:wr (.own i) o ⟨sg,st⟩=(match ib ⟨sg,st⟩ (.own i)with | .own i=>⟨sg.set i (some (.own o)),st⟩ | .val (.r n)=>⟨sg,st.set n o⟩ | _=>⟨sg,st⟩):=id rfl
@[simp] theorem JV:wr (.val (.r n)) o ⟨sg,st⟩=⟨sg,st.set n o⟩:=id rfl
@[simp] theorem Iz:eI s r=(lv s r).isSome:=id rfl
@[simp] theorem Ed:binop .add r r' s=oF r r' s:=id rfl
@[simp] theorem J6:binop .mul r r' s=yt r r' s:=id rfl
@[simp] theorem LV(i j:Int):oF (.val (.d (.int i))) (.val (.d (.int j))) s=aH (.int (i+j)) s:=id rfl
@[simp] theorem Mc(i j:Int):binop .sub (.val (.d (.int i))) (.val (.d (.int j))) s=aH (.int (i-j)) s:=id rfl
@[simp] theorem Fi(i j:Int):yt (.val (.d (.int i))) (.val (.d (.int j))) s=if Df i j=true then aH (.int (i*j)) s else .stuck:=by
 show(if i.natAbs.log2+j.natAbs.log2<1000000 then aH (.int (i*j)) s else .stuck)=_
 by_cases h:i.natAbs.log2+j.natAbs.log2<1000000
 ·rw[if_pos h];exact(if_pos (decide_eq_true h)).symm
 ·rw[if_neg h];exact(if_neg (fun z=>h (of_decide_eq_true z))).symm
@[simp] theorem CB(i j:Int):binop .fdiv (.val (.d (.int i))) (.val (.d (.int j))) s=if Dt j=true then aH (.int (i/j)) s else .stuck:=by
 show(if 0<j∧j.natAbs.log2<9000 then aH (.int (i/j)) s else .stuck)=_
 by_cases h:0<j∧j.natAbs.log2<9000
 ·rw[if_pos h];exact(if_pos (decide_eq_true h)).symm
 ·rw[if_neg h];exact(if_neg (fun z=>h (of_decide_eq_true z))).symm
@[simp] theorem Af(i j:Int):binop .mod (.val (.d (.int i))) (.val (.d (.int j))) s=if 0<j then aH (.int (i%j)) s else .stuck:=id rfl
@[simp] theorem FQ(i j:Int):binop .pow (.val (.d (.int i))) (.val (.d (.int j))) s=if 0≤j∧j≤1000000∧i.natAbs<2^64 then aH (.int (i^j.toNat)) s else .stuck:=id rfl
@[simp] theorem Mw(i j:Int):fL .lt s (.val (.d (.int i))) (.val (.d (.int j)))=some (decide (i<j)):=id rfl
@[simp] theorem MS(i j:Int):fL .le s (.val (.d (.int i))) (.val (.d (.int j)))=some (decide (i≤j)):=id rfl
@[simp] theorem M4(i j:Int):fL .gt s (.val (.d (.int i))) (.val (.d (.int j)))=some (decide (i > j)):=id rfl
@[simp] theorem MG(i j:Int):fL .ge s (.val (.d (.int i))) (.val (.d (.int j)))=some (decide (i≥j)):=id rfl
@[simp] theorem G9:fL .eq s r r'=sQ s r r':=id rfl
@[simp] theorem Hu:fL .ne s r r'=(sQ s r r').map not:=id rfl
@[simp] theorem Mx(i j:Int):sQ s (.val (.d (.int i))) (.val (.d (.int j)))=some (decide (i=j)):=by
 show(if dj (.int i) (.int j)then some (iS (.int i) (.int j))else none)=_
 rw[if_pos (by rfl)]
 show some (i==j)=_
 by_cases h:i=j
 ·simp[h]
 ·have:(i==j)=false:=by simpa using h
  rw[this];simp[h]
@[simp] theorem Be(j:Int):ee [.val (.d (.int j))] s=jT 0 j s:=id rfl
@[simp] theorem M6(i j:Int):JC [.val (.d (.int i)),.val (.d (.int j))] s=jT i j s:=id rfl
@[simp] theorem M5:kr s (.val x)=some (.val x):=id rfl
@[simp] theorem MB:kr s (.new o)=some (.new o):=id rfl
@[simp] theorem Ip:kr ⟨sg,st⟩ (.own i)=(match sg[i]? with | some (some (.own o))=>some (.new o) | some (some (.v x))=>some (.val x) | _=>none):=id rfl
@[simp] theorem Im:e9 (.nm i) x ⟨sg,st⟩=some ⟨sg.set i (some (.v x)),st⟩:=id rfl
end
theorem small(n:Nat)(h:n≤16777216):n≤sizeLine:=by rw[sizeLine_eq];exact h
section
variable(sg:Slots)(st:List Ob)(s:State)(i:Int)(j:Nat)(l:List D)(t:List Nat)(m:List Val)
theorem vk{α β:Type}(f:α→β)(l:List α)(i:Int):atI (l.map f) i=(atI l i).map f:=by
 unfold atI
 rw[List.length_map]
 cases ixN l.length i<;> simp
@[simp] theorem JR:bZ (.val (.d (.lst l))) (.val (.d (.int i))) s=(match atI l i with | some d=>.ok (.val (.d d)) s | none=>.stuck):=by
 show(match atI (l.map Val.d) i with | some v=>Res.ok (RV.val v) s | none=>Res.stuck)=_
 rw[vk]
 cases atI l i<;> rfl
@[simp] theorem J2:bZ (.val (.d (.tup l))) (.val (.d (.int i))) s=(match atI l i with | some d=>.ok (.val (.d d)) s | none=>.stuck):=by
 show(match atI (l.map Val.d) i with | some v=>Res.ok (RV.val v) s | none=>Res.stuck)=_
 rw[vk]
 cases atI l i<;> rfl
@[simp] theorem Jf:bZ (.val (.d (.str t))) (.val (.d (.int i))) s=(if t.length≤sizeLine then match atI t i with | some c=>.ok (.val (.d (.str [c]))) s | none=>.stuck else .stuck):=id rfl
def MI(x y:RV)(s:State):Res RV:=bZ x y s
@[simp] theorem Nt:bZ (.own j) (.val (.d (.int i))) ⟨sg,st⟩=(match sg[j]? with | some (some (.own (.lst l)))=>(match atI l i with | some v=>.ok (.val v) ⟨sg,st⟩ | none=>.stuck) | _=>MI (.own j) (.val (.d (.int i))) ⟨sg,st⟩):=by
 split
 ·rename_i l e
  unfold bZ jO kN rN
  simp[e,lv]
  all_goals (cases atI l i<;> rfl)
 ·rfl
theorem nX{α:Type}{l:List α}{i:Int}(h0:0≤i)(h1:i<l.length):atI l i=l[i.toNat]? :=by
 unfold atI ixN
 rw[if_pos h0,if_pos h1]
 rfl
@[simp] theorem Ku{α:Type}(x:α)(l:List α):atI (x::l) 0=some x:=by
 rw[nX (by omega) (by rw[List.length_cons];omega)]
 rfl
end
theorem JY{n:Nat}(h:n<18446744073709551616):n.log2<64:=by
 by_cases h0:n=0
 ·subst h0;decide
 ·exact(Nat.log2_lt h0).mpr h
theorem oo{j:Int}(h0:0<j)(h':j<18446744073709551616):Dt j=true:=decide_eq_true ⟨h0,by have:=JY (n:=j.natAbs) (by omega);omega⟩
@[simp] theorem MX(t:Tg)(b:State→Res Fl)(s:State):g9 t b [] s=.ok .nx s:=id rfl
@[simp] theorem yD(t:Tg)(b:State→Res Fl)(x:Val)(l:List Val)(s:State):g9 t b (x::l) s=(match e9 t x s with | none=>.stuck | some s=>qu (b s) (g9 t b l)):=id rfl
abbrev vI(i:Int):Val:=.d (.int i)
abbrev si(i:Int):Option Sl:=some (.v (.d (.int i)))
abbrev sd(d:D):Option Sl:=some (.v (.d d))
section
variable(sg:Slots)(st:List Ob)(s:State)
@[simp] theorem ME:cw [] s=s:=id rfl
@[simp] theorem Nz(v:Nat)(vs:List Nat):cw (v::vs) ⟨sg,st⟩=⟨(fR sg vs).set v none,st⟩:=id rfl
@[simp] theorem Ml:fR sg []=sg:=id rfl
@[simp] theorem Nq(v:Nat)(vs:List Nat):fR sg (v::vs)=(fR sg vs).set v none:=id rfl
@[simp] theorem L7:iq s=.ok true s:=id rfl
@[simp] theorem Nh(acc:List Val):B9 acc s=.ok (.new (.lst acc)) s:=id rfl
@[simp] theorem NI(vs:List Nat)(t:Tg)(src:State→Res (List Val))(ft:State→Res Bool)(fe:State→Res RV):jr vs t src ft fe s=(src s).bind fun l s=>(oY vs t ft fe l [] (cw vs s)).bind B9:=id rfl
end
@[simp] theorem toDs_mapF{α:Type}(l:List α)(F:α→D):toDs (l.map fun x=>.d (F x))=some (l.map F):=by
 have:(l.map fun x=>Val.d (F x))=(l.map F).map .d:=by simp
 rw[this,toDs_map]
@[simp] theorem toDs_comp{α:Type}(l:List α)(F:α→D):toDs (l.map (Val.d∘F))=some (l.map F):=toDs_mapF l F
@[simp] theorem toDs_vI(l:List Int):toDs (l.map vI)=some (l.map .int):=toDs_mapF l _
section
variable(sg:Slots)(st:List Ob)(s:State)(t:Tg)(ts:List Tg)(x:Val)(l:List Val)(r:RV)(f:State→Res RV)
@[simp] theorem FR:e9 (.tp ts) x s=(match tv s (.val x)with | some l=>if l.length=ts.length then kT ts l s else none | none=>none):=id rfl
@[simp] theorem L3:kT [] [] s=some s:=id rfl
@[simp] theorem ET:kT (t::ts) (x::l) s=(match e9 t x s with | some s=>kT ts l s | none=>none):=id rfl
@[simp] theorem M3:IX [r] s=(match (lv s r).bind intsOf with | some (n::ns)=>aH (.int (Ht (n::ns))) s | _=>.stuck):=id rfl
@[simp] theorem L8(d:D):itemsOf d s=(match d with | .lst l=>.ok (l.map .d) s | .tup l=>.ok (l.map .d) s | .str t=>.ok (t.map fun c=>.d (.str [c])) s | .dic l=>.ok (l.map fun p=>.d (DU p.1)) s | _=>.stuck):=by cases d<;> rfl
@[simp] theorem HU(d:D):mq d s=(match d with | .lst l=>.ok (l.mapIdx fun i x=>.d (.tup [.int i,x])) s | .str t=>.ok (t.mapIdx fun i c=>.d (.tup [.int i,.str [c]])) s | _=>.stuck):=by cases d<;> rfl
@[simp] theorem NL(lo hi:Par):rJ f lo hi s=(ev f s).bind fun x s=>(lM lo s).bind fun l s=>(lM hi s).bind fun h s=>vM x l h s:=id rfl
@[simp] theorem Nw:lM .no s=.ok none s:=id rfl
@[simp] theorem Ew:lM (.ex f) s=(ev f s).bind Ai:=id rfl
@[simp] theorem Ng(i:Int):Ai (.val (.d (.int i))) s=.ok (some i) s:=id rfl
@[simp] theorem Iy(lo hi:Option Int):vM r lo hi s=(match dv s r with | some (.str t)=>if t.length≤sizeLine then aH (.str (cy t lo hi)) s else .stuck | _=>match lv s r with | some l=>.ok (.new (.lst (cy l lo hi))) s | none=>match tv s r with | some l=>if(cy l lo hi).length=l.length then .stuck else .ok (.val (fP (cy l lo hi))) s | none=>.stuck):=id rfl
end
theorem sA{α:Type}(l:List α)(a b:Nat):cy l (some (a:Int)) (some (b:Int))=(l.drop a).take (b-a):=by
 unfold cy
 rw[HT.sIx_nat,HT.sIx_nat]
 by_cases h:a≤l.length
 ·rw[Nat.min_eq_left h]
  by_cases h2:b≤l.length
  ·rw[Nat.min_eq_left h2]
  ·have e1:(l.drop a).take (l.length-a)=l.drop a:=List.take_of_length_le (by simp)
   have e2:(l.drop a).take (b-a)=l.drop a:=List.take_of_length_le (by simp;omega)
   rw[Nat.min_eq_right (show l.length≤b by omega),e1,e2]
 ·have e1:l.drop a=[]:=List.drop_eq_nil_of_le (by omega)
  have e2:l.drop l.length=[]:=List.drop_eq_nil_of_le (Nat.le_refl _)
  rw[Nat.min_eq_right (show l.length≤a by omega),e1,e2]
  simp
theorem xU{α β:Type}(f:α→β)(l:List α)(lo hi:Option Int):cy (l.map f) lo hi=(cy l lo hi).map f:=by
 unfold cy
 rw[List.length_map,List.map_take,List.map_drop]
@[simp] theorem Kk{α:Type}(x y:α)(l:List α):atI (x::y::l) 1=some y:=by
 rw[nX (by omega) (by rw[List.length_cons,List.length_cons];omega)]
 rfl
@[simp] theorem Kb{α:Type}(x y z:α)(l:List α):atI (x::y::z::l) 2=some z:=by
 rw[nX (by omega) (by rw[List.length_cons,List.length_cons,List.length_cons];omega)]
 rfl
@[simp] theorem Kj{α:Type}(x y z w:α)(l:List α):atI (x::y::z::w::l) 3=some w:=by
 rw[nX (by omega) (by rw[List.length_cons,List.length_cons,List.length_cons,List.length_cons];omega)]
 rfl
theorem yn{i j:Int}(h0: -1000000000≤i)(h1:i≤1000000000)(h2: -1000000000≤j)(h3:j≤1000000000)(s:State):jT i j s=.ok ((List.range (j-i).toNat).map fun(k:Nat)=>vI (i+k)) s:=by
 unfold jT
 rw[if_pos (by omega)]
theorem Bg{n:Nat}(h:n≤1000000000)(s:State):jT 0 n s=.ok ((List.range n).map fun(k:Nat)=>vI k) s:=by
 rw[yn (by omega) (by omega) (by omega) (by omega)]
 simp
def By(r:Res Fl):Res RV:=
 match r with
 | .ok .nx s=>.ok (.val (.d .non)) ⟨[],s.st⟩
 | .ok (.ret r) s=>match kr s r with
  | some r'=>.ok r' ⟨[],s.st⟩
  | none=>.stuck
 | .ok _ _=>.stuck
 | .exc x s=>.exc x ⟨[],s.st⟩
 | .stuck=>.stuck
theorem pj(n:Nat)(b:State→Res Fl)(args:List Val)(st:List Ob):cB n b args st=By (b ⟨args.map (fun x=>some (.v x))++List.replicate (n-args.length) none,st⟩):=by
 unfold cB
 generalize b _=r
 cases r with
 | ok k s=>cases k<;> rfl
 | exc x s=>rfl
 | stuck=>rfl
@[simp] theorem Iv(s:State):By (.ok .nx s)=.ok (.val (.d .non)) ⟨[],s.st⟩:=id rfl
@[simp] theorem zk(r:RV)(s:State):By (.ok (.ret r) s)=(match kr s r with | some r'=>.ok r' ⟨[],s.st⟩ | none=>.stuck):=id rfl
@[simp] theorem KA:By .stuck=.stuck:=id rfl
@[simp] theorem Ad(x:Exn)(s:State):By (.exc x s)=.exc x ⟨[],s.st⟩:=id rfl
mutual
def dF:D→Bool
 | .non=>true
 | .bl _=>true
 | .int _=>true
 | .str _=>true
 | .tup l=>fx l
 | .lst l=>fx l
 | _=>false
def fx:List D→Bool
 | []=>true
 | x::r=>dF x&&fx r
end
mutual
def dq:Nat→D→Bool
 | 0,.tup _=>false
 | 0,.lst _=>false
 | n+1,.tup l=>dg n l
 | n+1,.lst l=>dg n l
 | _,_=>true
def dg:Nat→List D→Bool
 | _,[]=>true
 | n,x::r=>dq n x&&dg n r
end
mutual
theorem qZ:∀ d:D,dF d=true→(pd d).plain=true
 | .non,_=>rfl
 | .bl _,_=>rfl
 | .int _,_=>rfl
 | .str _,_=>rfl
 | .tup l,h=>by
  have:=qd l (by simpa [dF]using h)
  simpa [pd,PyData.plain]using this
 | .lst l,h=>by
  have:=qd l (by simpa [dF]using h)
  simpa [pd,PyData.plain]using this
 | .dic _,h=>by simp[dF]at h
 | .dit _,h=>by simp[dF]at h
 | .ins _ _,h=>by simp[dF]at h
 | .exc _ _,h=>by simp[dF]at h
theorem qd:∀ l:List D,fx l=true→PyData.plainAll (cU l)=true
 | [],_=>rfl
 | x::r,h=>by
  have h:dF x=true∧fx r=true:=by simpa [fx]using h
  simp[cU,PyData.plainAll,qZ x h.1,qd r h.2]
end
mutual
theorem eqv_refl:∀ d:D,dF d=true→PyData.eqv (pd d) (pd d)=true
 | .non,_=>rfl
 | .bl b,_=>by cases b<;> rfl
 | .int i,_=>by show(i==i)=true;simp
 | .str s,_=>by show(Vw.st s==Vw.st s)=true;exact beq_self_eq_true _
 | .tup l,h=>by
  have:=p9 l (by simpa [dF]using h)
  simpa [pd,PyData.eqv]using this
 | .lst l,h=>by
  have:=p9 l (by simpa [dF]using h)
  simpa [pd,PyData.eqv]using this
 | .dic _,h=>by simp[dF]at h
 | .dit _,h=>by simp[dF]at h
 | .ins _ _,h=>by simp[dF]at h
 | .exc _ _,h=>by simp[dF]at h
theorem p9:∀ l:List D,fx l=true→PyData.eqvAll (cU l) (cU l)=true
 | [],_=>rfl
 | x::r,h=>by
  have h:dF x=true∧fx r=true:=by simpa [fx]using h
  simp[cU,PyData.eqvAll,eqv_refl x h.1,p9 r h.2]
end
mutual
theorem pK:∀ (n:Nat) (d:D),dF d=true→dq n d=true→(pd d).depth≤n
 | n,.non,_,_=>by simp[pd,PyData.depth]
 | n,.bl _,_,_=>by simp[pd,PyData.depth]
 | n,.int _,_,_=>by simp[pd,PyData.depth]
 | n,.str _,_,_=>by simp[pd,PyData.depth]
 | 0,.tup l,_,h=>by simp[dq]at h
 | 0,.lst l,_,h=>by simp[dq]at h
 | n+1,.tup l,p,h=>by
  have:=nN n l (by simpa [dF]using p) (by simpa [dq]using h)
  simp[pd,PyData.depth,this]
 | n+1,.lst l,p,h=>by
  have:=nN n l (by simpa [dF]using p) (by simpa [dq]using h)
  simp[pd,PyData.depth,this]
 | n,.dic _,p,_=>by simp[dF]at p
 | n,.dit _,p,_=>by simp[dF]at p
 | n,.ins _ _,p,_=>by simp[dF]at p
theorem nN:∀ (n:Nat) (l:List D),fx l=true→dg n l=true→PyData.depthAll (cU l)≤n
 | n,[],_,_=>by simp[cU,PyData.depthAll]
 | n,x::r,p,h=>by
  have p:dF x=true∧fx r=true:=by simpa [fx]using p
  have h:dq n x=true∧dg n r=true:=by simpa [dg]using h
  have h1:=pK n x p.1 h.1
  have h2:=nN n r p.2 h.2
  simp[cU,PyData.depthAll]
  omega
end
theorem jG{α:Type}(F:α→D):∀ l:List α,(∀ x∈l,dF (F x)=true)→fx (l.map F)=true
 | [],_=>rfl
 | x::r,h=>by simp[fx,h x (by simp),jG F r fun y hy=>h y (by simp[hy])]
theorem mj{α:Type}(n:Nat)(F:α→D):∀ l:List α,(∀ x∈l,dq n (F x)=true)→dg n (l.map F)=true
 | [],_=>by simp[dg]
 | x::r,h=>by simp[dg,h x (by simp),mj n F r fun y hy=>h y (by simp[hy])]
theorem yE{d:D}(n:Nat)(hn:n≤60)(p:dF d=true)(h:dq n d=true):dj d d=true∧iS d d=true:=by
 refine⟨?_,eqv_refl d p⟩
 have:=pK n d p h
 unfold dj
 simp[qZ d p]
 omega
section
variable(sg:Slots)(st:List Ob)(s:State)(r r':RV)(i:Int)(j:Nat)(x:Val)
@[simp] theorem HK:jo s r=(match dv s r with | some d=>some d | none=>match ob s r with | some (.lst l)=>(toDs l).map .lst | _=>none):=id rfl
theorem tj:sQ s r r'=(match jo s r,jo s r' with | some a,some b=>if dj a b then some (iS a b)else none | _,_=>none):=id rfl
def Jz(o i:RV)(x:Val)(s:State):Option State:=qj o i x s
@[simp] theorem GA:qj (.own j) (.val (.d (.int i))) x ⟨sg,st⟩=(match sg[j]? with | some (some (.own (.lst l)))=>(match ixN l.length i with | some m=>some ⟨sg.set j (some (.own (.lst (l.set m x)))),st⟩ | none=>none) | _=>Jz (.own j) (.val (.d (.int i))) x ⟨sg,st⟩):=by
 split
 ·rename_i l e
  unfold qj
  simp[e]
  all_goals (cases ixN l.length i<;> rfl)
 ·exact id rfl
end
theorem fX{f:State→Res Fl}{r:List (State→Res Fl)}{s s':State}(h:f s=.ok .nx s'):ah (f::r) s=ah r s':=by rw[kS,h,u0]
theorem vn{f:State→Res Fl}{r:List (State→Res Fl)}{s s':State}{v:RV}(h:f s=.ok (.ret v) s'):ah (f::r) s=.ok (.ret v) s':=by rw[kS,h,DF]
theorem AU{n:Nat}{b:State→Res Fl}{args:List Val}{st:List Ob}{s s':State}{v v':RV}(hs:s=⟨args.map (fun x=>some (.v x))++List.replicate (n-args.length) none,st⟩)(h:b s=.ok (.ret v) s')(h':kr s' v=some v'):cB n b args st=.ok v' ⟨[],s'.st⟩:=by
 rw[pj,←hs,h,zk,h']
end Vw
namespace Vw
open PySem L2 PyProof.Rows
def kl(t T:String):Bool:=t==T||(t=="bool"&&T=="int")
def m5:List String:=["NoneType","bool","int","str","list","tuple","dict"]
def vV(s:State)(r:RV):Option String:=
 match dv s r with
 | some .non=>some "NoneType"
 | some (.bl _)=>some "bool"
 | some (.int _)=>some "int"
 | some (.str _)=>some "str"
 | some (.lst _)=>some "list"
 | some (.tup _)=>some "tuple"
 | some (.dic _)=>some "dict"
 | some _=>none
 | none=>match ob s r with
  | some (.lst _)=>some "list"
  | some _=>none
  | none=>(tv s r).map fun _=>"tuple"
def bE(T:String)(f:State→Res RV)(s:State):Res RV:=(ev f s).bind fun r s=>
 match vV s r with
 | some t=>aH (.bl (kl t T)) s
 | none=>.stuck
def bIndex(o:RV)(rs:List RV)(s:State):Res RV:=
 match rs with
 | [x]=>match dv s o,dv s x with
  | some (.str a),some (.str b)=>match Builtin.Str.occurrences (Vw.st a) (Vw.st b) 0 a.length 1 with
   | i::_=>aH (.int (i:Nat)) s
   | []=>.stuck
  | _,_=>.stuck
 | _=>.stuck
section
variable{C:Cst}{Z Z' Zc:Hp}{loc loc':List Addr}{s s':State}{sv sv':L2.St}{H H':Hp}
variable{X:Cx}{e a b c o:Expr}{es:List Expr}{p pos apos pt:Pos}{f fa fb fc fo fi fv:State→Res RV}{fs:State→Res (List RV)}
theorem Ly(K:PySem.W.Frag):∀ t∈m5,∀ T∈m5,PySem.W.kitOne K (.type t) (.type T)=some (kl t T):=by
 intro t ht T hT
 simp only[m5,List.mem_cons,List.not_mem_nil,or_false]at ht hT
 rcases ht with rfl | rfl | rfl | rfl | rfl | rfl | rfl<;> rcases hT with rfl | rfl | rfl | rfl | rfl | rfl | rfl<;> rfl
theorem Gv(r:SR C Z loc s sv H)(K:PySem.W.Frag){rv:RV}{v:V}{t:String}(h:aY C Z loc s sv H rv v)(e:vV s rv=some t):TyX K H v (.type t)∧t∈m5:=by
 unfold vV at e
 split at e
 ·rename_i e1;cases e;have q:=r.dv h e1;rw[show v=.non from q];exact⟨.base .non,by simp[m5]⟩
 ·rename_i b e1;cases e;have q:=r.dv h e1;rw[show v=.bl b from q];exact⟨.base (.bl b),by simp[m5]⟩
 ·rename_i i e1;cases e;have q:=r.dv h e1;rw[show v=.int i from q];exact⟨.base (.int i),by simp[m5]⟩
 ·rename_i x e1;cases e;have q:=r.dv h e1;rw[show v=.str _ from q];exact⟨.base (.str _),by simp[m5]⟩
 ·rename_i l e1
  cases e
  obtain⟨a,vs,rfl,z,_⟩:=r.dv h e1
  refine⟨.base ?_,by simp[m5]⟩
  rcases z with z | ⟨o,z⟩
  ·exact .lst ((r.zh a _ z).at rfl)
  ·exact .frz ((r.zh a _ z).at rfl)
 ·rename_i l e1
  cases e
  obtain⟨a,vs,rfl,z,_⟩:=r.dv h e1
  exact⟨.base (.tup ((r.zh a _ z).at rfl)),by simp[m5]⟩
 ·rename_i l e1
  cases e
  obtain⟨a,vs,rfl,z,_⟩:=r.dv h e1
  refine⟨?_,by simp[m5]⟩
  rcases r.zh a _ z with z | ⟨_,o,z⟩
  ·exact .base (.dK z)
  ·exact .fDict z
 ·cases e
 ·split at e
  ·rename_i l e1
   cases e
   obtain⟨a,rfl,_,xs,h1,_⟩:=r.ob h e1
   exact⟨.base (.lst h1),by simp[m5]⟩
  ·cases e
  ·obtain⟨l,e1,rfl⟩:=Option.map_eq_some_iff.mp e
   obtain⟨a,xs,rfl,h1,_⟩:=r.tv h e1
   exact⟨.base (.tup h1),by simp[m5]⟩
theorem ir{T:String}(he:PE X e (ai C f))(hg:Gl X "isinstance")(hm:X.mg "isinstance"=none)(hg2:Gl X (Str.ofString T))(hm2:X.mg (Str.ofString T)=none)(hv:bootBuiltins (Str.ofString T)=some (.type T))(hT:T∈m5)(hs:notStar e=true)
  (hn:(Str.ofString T)≠"__name__") (hd:((Str.ofString T)==("__debug__":Str))=false):PE X (.Call (.Name "isinstance" p) [e,.Name (Str.ofString T) pt] [] pos) (ai C (bE T f)):=by
 refine aQ (pe_callB call_isi hg hm wU (pa_cons he (pa_cons (pe_bltn (v:=.ty T) hg2 hm2 hv rfl hn hd) pa_nil (by rfl)) (aX hs)) (by decide) (by decide) (aX hs) (by rfl)) fun sv H Q ⟨Z,loc,s,r,q⟩=>?_
 refine(ai.m8 r q).imp fun v H1 ⟨Z1,l1,s1,y,g1,r1,st1,q1,h1⟩=>?_
 cases et:vV s1 y with
 | none=>rw[et]at h1;exact h1.elim
 | some t=>
  rw[et]at h1
  obtain⟨h2,h3⟩:=Gv r1 X.K q1 et
  exact⟨v,.ty T,.type t,.type T,_,rfl,.ty T,h2,Ly X.K t h3 T hT,h1.aH r1 rfl⟩
theorem xZ{x z:String}{t:Tok}(hg:Gl X (Str.ofString x))(hm:X.mg (Str.ofString x)=some (.str (Str.ofString z) t))(hd:((Str.ofString x)==("__debug__":Str))=false):PE X (.Name (Str.ofString x) pos) (ai C (fD (.str (sS z)))):=
 qB (pe_glob (v:=.str (Str.ofString z)) hg hm ⟨t,rfl⟩ hd) fun _=>by
  show V.str _=V.str _
  simp[sS]
end
section
variable{P:Program}{w:World}{K:PySem.W.Frag}{mg:Str→Option Value}{base:Heap}
theorem Fy{CX:CXT}{k n:Nat}{f:Addr}{fd:FuncData}{ps:List Str}{cA:String→Addr}(hn:ps.length=n):FnOk P w K mg base CX k f fd ps (bz cA n fun _ _=>.stuck):=by
 subst hn
 refine⟨uH,fun A outer s H args us vs Q E hr e0 hb hv hs=>?_⟩
 obtain⟨Fr,H0,Z,loc,args,st,r,q,hl,h⟩:=hs
 exact h.elim
end
@[simp] theorem xf(T:String)(f:State→Res RV)(s:State):bE T f s=(ev f s).bind fun r s=>match vV s r with | some t=>aH (.bl (kl t T)) s | none=>.stuck:=id rfl
@[simp] theorem JD(s:State)(r:RV):vV s r=(match dv s r with | some .non=>some "NoneType" | some (.bl _)=>some "bool" | some (.int _)=>some "int" | some (.str _)=>some "str" | some (.lst _)=>some "list" | some (.tup _)=>some "tuple" | some (.dic _)=>some "dict" | some _=>none | none=>match ob s r with | some (.lst _)=>some "list" | some _=>none | none=>(tv s r).map fun _=>"tuple"):=id rfl
end Vw
namespace Vw
open PySem L2 PyProof.Rows
def En(r:RV)(s:State):Res RV:=
 match r with
 | .new .gone=>.stuck
 | .new o=>.ok (.val (.r s.st.length)) ⟨s.sg,s.st++[o]⟩
 | _=>.stuck
def BK(f:State→Res RV)(s:State):Res RV:=(f s).bind En
section
variable{C:Cst}{Z Z' Zc:Hp}{loc loc':List Addr}{s s':State}{sv sv':L2.St}{H H':Hp}
variable{X:Cx}{e:Expr}{f:State→Res RV}
theorem SR.alloc(r:SR C Z loc s sv H){a:Addr}{o:Ob}(ne:o≠ .gone)(c:Cell C.cA Z loc H a o)(fr:Free C Z loc s sv a):
  Ext Z loc Z (loc++[a])∧SR C Z (loc++[a]) ⟨s.sg,s.st++[o]⟩ sv H∧bh C.cA Z (loc++[a]) (.r s.st.length) (.ref a):=by
 have g:Ext Z loc Z (loc++[a]):=⟨Same.refl _,[a],rfl⟩
 refine⟨g,⟨r.fr,r.zh,r.zf,r.lk,by simp[r.ln],?_,fun b hb=>?_,fun n b ob h1 h2 h3=>?_,fun i x h=>?_,fun i ob h=>?_,r.oi,r.ls⟩,a,?_,rfl⟩
 ·rw[List.nodup_append]
  exact⟨r.nd,by simp,fun x hx y hy e=>by simp at hy;subst hy;subst e;exact fr.l hx⟩
 ·rcases List.mem_append.mp hb with hb | hb
  ·exact r.lh b hb
  ·simp at hb
   subst hb
   exact⟨gb ne c,fr.f⟩
 ·by_cases hn:n<loc.length
  ·rw[List.getElem?_append_left hn]at h1
   have h2:(s.st++[o])[n]? =some ob:=h2
   rw[List.getElem?_append_left (by rw[←r.ln];exact hn)]at h2
   obtain⟨q1,q2⟩:=r.cl n b ob h1 h2 h3
   exact⟨q1.mono g (Same.refl _),q2⟩
  ·have h2:(s.st++[o])[n]? =some ob:=h2
   have hlen:n<(loc++[a]).length:=(List.getElem?_eq_some_iff.mp h1).1
   have hn':n=loc.length:=by simp at hlen;omega
   subst hn'
   rw[List.getElem?_append_right (Nat.le_refl _)]at h1
   rw[r.ln,List.getElem?_append_right (Nat.le_refl _)]at h2
   simp at h1 h2
   subst h1 h2
   exact⟨c.mono g (Same.refl _),fr.z⟩
 ·obtain⟨v,q1,q2⟩:=r.vl i x h
  exact⟨v,q1,bh.mono g x q2⟩
 ·obtain⟨b,q1,q2,q3,q4,q5,q6⟩:=r.ow i ob h
  refine⟨b,q1,q2,q3.mono g (Same.refl _),q4,q5,fun z=>?_⟩
  rcases List.mem_append.mp z with z | z
  ·exact q6 z
  ·simp at z
   subst z
   exact fr.o i ob h q1
 ·rw[←r.ln]
  simp
theorem LD(he:PE X e (ai C f)):PE X e (ai C (BK f)):=by
 refine aQ he fun sv H Q ⟨Z,loc,s,r,q⟩=>?_
 refine(ai.qN r q).imp fun v H1 ⟨Z1,l1,s1,y,g1,r1,q1,h1⟩=>?_
 cases y with
 | val x=>exact h1.elim
 | own i=>exact h1.elim
 | new o=>
  obtain⟨a,h2,h3,h4,h5⟩:=q1
  subst h2
  have key:EPost C Z1 l1 sv (.ok (.val (.r s1.st.length)) ⟨s1.sg,s1.st++[o]⟩) Q:=by
   cases o<;> first | exact h1 | exact absurd rfl h3
  obtain⟨g2,r2,q2⟩:=r1.alloc h3 h4 h5
  exact key Z1 _ H1 _ g2 r2 q2
end
@[simp] theorem Gr(f:State→Res RV)(s:State):BK f s=(f s).bind En:=id rfl
@[simp] theorem NA(l:List Val)(sg:Slots)(st:List Ob):En (.new (.lst l)) ⟨sg,st⟩=.ok (.val (.r st.length)) ⟨sg,st++[.lst l]⟩:=id rfl
end Vw
namespace Vw
open PySem L2 PyProof.Rows
def ox(a:List Nat)(ys:List (List Nat)):List Nat:=(Txt.join (Vw.st a) (ys.map Vw.st)).cps.toList
def m4(o:RV)(rs:List RV)(s:State):Res RV:=
 match rs with
 | [x]=>match dv s o,(sq s x).bind strsOf with
  | some (.str a),some ys=>if(ys.map (·.length)).sum+ys.length*a.length≤16777216 then aH (.str (ox a ys)) s else .stuck
  | _,_=>.stuck
 | _=>.stuck
section
variable{C:Cst}{Z:Hp}{loc:List Addr}
theorem tD:∀ {l:List Val} {ns:List (List Nat)} {xs:List V},strsOf l=some ns→aB C.cA Z loc l xs→xs=(ns.map Vw.st).map V.str
 | [],ns,xs,e,h=>by cases e;exact h
 | .d (.str i)::r,ns,xs,e,⟨v,t,e1,q,h⟩=>by
  unfold strsOf at e
  obtain⟨m,e2,rfl⟩:=Option.map_eq_some_iff.mp e
  rw[e1,tD e2 h,show v=_ from q]
  rfl
 | .d .non::r,ns,xs,e,h=>by cases e
 | .d (.bl _)::r,ns,xs,e,h=>by cases e
 | .d (.int _)::r,ns,xs,e,h=>by cases e
 | .d (.tup _)::r,ns,xs,e,h=>by cases e
 | .d (.lst _)::r,ns,xs,e,h=>by cases e
 | .d (.dic _)::r,ns,xs,e,h=>by cases e
 | .d (.dit _)::r,ns,xs,e,h=>by cases e
 | .d (.ins _ _)::r,ns,xs,e,h=>by cases e
 | .r _::r,ns,xs,e,h=>by cases e
 | .tp _::r,ns,xs,e,h=>by cases e
theorem oA(K:PySem.W.Frag):vS C m4 (fun x xs H Q=>∃ a p,∃ ys:List Str,x=.str a∧xs=[.ref p]∧(SqL K H p (ys.map V.str)∨SqT K H p (ys.map V.str))∧
  (ys.map (·.length)).sum+ys.length*a.length≤16777216∧Q (.str (Txt.join a ys)) H):=by
 intro Z loc s sv H o v rs vs Q r q qs h
 unfold m4 at h
 split at h
 ·obtain⟨w,t,rfl,st1,q1,q2⟩:=qs
  cases q2
  split at h
  ·rename_i a ys e e'
   have qa:v=.str (Vw.st a):=r.dv q e
   obtain⟨l,e1,e2⟩:=Option.bind_eq_some_iff.mp e'
   obtain⟨p,xs,rfl,h1,h2⟩:=r.sq (K:=K) q1 e1
   rw[tD e2 h2]at h1
   split at h
   ·rename_i hz
    refine⟨Vw.st a,p,ys.map Vw.st,qa,rfl,h1,?_,h.aH r ?_⟩
    ·simpa [Vw.st,Str.length,Function.comp_def]using hz
    ·show V.str _=V.str _
     simp[ox]
   ·exact h.elim
  ·exact h.elim
 ·exact h.elim
end
end Vw
namespace Vw
open PySem L2 PyProof.Rows
def eU(g:Fn)(args:List Val)(s:State):Res RV:=
 match g args s.st with
 | .ok r s2=>.ok r ⟨s.sg,s2.st⟩
 | .exc x s2=>.exc x ⟨s.sg,s2.st⟩
 | .stuck=>.stuck
def fu(n:Nat)(fs:State→Res (List RV))(g:Fn)(s:State):Res RV:=(fs s).bind fun rs s=>(aD rs s).bind fun args s=>if args.length=n then eU g args s else .stuck
section
variable{C:Cst}{Z Z':Hp}{loc loc':List Addr}{s s':State}{sv sv':L2.St}{H H':Hp}
variable{X:Cx}{e a b c o:Expr}{es:List Expr}{p pos apos:Pos}{f fa fb fc fo fi fv:State→Res RV}
theorem Cu{g:Fn}{n:Nat}{args:List Val}{vs:List V}{Q:VK}(r:SR C Z loc s sv H)(q:aB C.cA Z loc args vs)(hn:args.length=n)(h:EPost C Z loc sv (eU g args s) Q):bz C.cA n g vs H Q (WE C.W sv):=by
 refine⟨dC H Z loc,C.H0,Z,loc,args,s.st,r.entry _,q,hn,?_⟩
 unfold eU at h
 cases e:g args s.st with
 | stuck=>rw[e]at h;exact h
 | exc x s1=>
  rw[e]at h
  exact fun Z' l' H' c d g r' q'=>h Z' l' H' c d g (r.back g r') q'
 | ok rv s1=>
  rw[e]at h
  exact fun Z' l' H' v g r' q'=>h Z' l' H' v g (r.back g r') (aY.back r r' q')
theorem Fh{k:Nat}{fA:Addr}{fd:FuncData}{ps:List Str}{x:Str}{g:Fn}{fs:State→Res (List RV)}(F:FnOk X.prog X.w X.K X.mg X.base (L2.CX X.prog X.w) k fA fd ps (bz C.cA ps.length g))(hr:Room k X.A)(hg:Gl X x)(hm:X.mg x=some (.ref fA))(hk:PySem.W.keepIn X.K (.ref fA)=true)
  (hb:Binds X.K fd ps []) (tk:Takes X C.W) (ha:PA X (e::es) (bS C fs)) (hdb:(x==("__debug__":Str))=false) (hs:(e::es).all notStar=true):
  PE X (.Call (.Name x p) (e::es) [] pos) (ai C (fu ps.length fs g)):=by
 have hs':=hs
 simp only[List.all_cons,Bool.and_eq_true]at hs
 refine aQ (pe_callS F hr hg hm hk hb (fun σ=>passAt tk σ) ha hdb (aX hs.1) (c5 hs.2)) fun sv H Q h=>(bS.at h).imp fun vs H1 ⟨Z,loc,s,xs,r,q,h⟩=>?_
 cases e1:aD xs s with
 | stuck=>rw[e1]at h;exact h.elim
 | exc x s1=>exact absurd e1 dJ
 | ok args s1=>
  rw[e1]at h
  simp only[Res.bind]at h
  obtain⟨Z1,g1,r1,q1⟩:=r.aD q e1
  split at h
  ·rename_i hn
   exact Cu r1 q1 hn (EPost.ext h g1)
  ·exact h.elim
theorem iL{k n:Nat}{fA:Addr}{fd:FuncData}{ps:List Str}{x:Str}{g:Fn}{fs:State→Res (List RV)}{cA:String→Addr}(hC:C.cA=cA)(tk:Takes X C.W)(F:FnOk X.prog X.w X.K X.mg X.base (L2.CX X.prog X.w) k fA fd ps (bz cA n g))(hr:Room k X.A)(hg:Gl X x)(hm:X.mg x=some (.ref fA))(hk:PySem.W.keepIn X.K (.ref fA)=true)
  (hb:Binds X.K fd ps []) (hn:ps.length=n) (ha:PA X (e::es) (bS C fs)) (hdb:(x==("__debug__":Str))=false) (hs:(e::es).all notStar=true):
  PE X (.Call (.Name x p) (e::es) [] pos) (ai C (fu n fs g)):=by
 subst hn hC
 exact Fh F hr hg hm hk hb tk ha hdb hs
theorem kR{P:Program}{w:World}{K:PySem.W.Frag}{mg:Str→Option Value}{base:Heap}{x qual:Str}{params:Arguments}{body:List Stmt}{scope:Scope}{f:Addr}{fd:FuncData}{N ps:List Str}{cA:String→Addr}{b:State→Res Fl}{k n m:Nat}
  (F:FunD K x qual params body scope [] [] f fd) (S:FnScope N ps scope) (hn:ps.length=n) (hm:N.length=m)
  (hb:∀ (cdv:Value) (A:Around) (outer:List Env) (s:Shared) (H:Hp) (E:XK) (C:Cst),Room k (A.deeper (envOfC qual scope s.heap.objs.size f cdv))→C.cA=cA→Takes (cxOf (L2.CX P w) P w K mg base N qual scope f cdv A outer s H E) C.W→PSs (cxOf (L2.CX P w) P w K mg base N qual scope f cdv A outer s H E) body (cq C b)):
  FnOk P w K mg base (L2.CX P w) (k+1) f fd ps (bz cA n (cB m b)):=by
 subst hn hm
 refine F.ok S uH fun cdv A outer s H vs Q E hr h=>?_
 obtain⟨Fr,H0,Z,loc,args,st,r,q,hl,h⟩:=h
 exact⟨_,hb cdv A outer s H E (da cA Fr H0 E) hr rfl (takes_of rfl rfl rfl rfl),vY (ps:=ps) r q hl h fun _ _ _ z=>z⟩
def ql(c:String)(s:State):Res Fl:=.exc ⟨c,none⟩ s
structure ExF (K:PySem.W.Frag) (C:Addr):Prop where
 ei:PySem.W.excIn K C He.veBase "ValueError.__new__"=true
 kC:PySem.W.keepIn K (.ref C)=true
 sB:PySem.W.subIn K (.ref C) (.type "BaseException")=some true
 tC:PySem.W.typeIn K (.ref C)=some (.type "type")
theorem F5{x m:Str}{j:Nat}{c:String}{p p2 pos pos':Pos}(hc:X.calm=true)(tk:Takes X C.W)(F:ExF X.K (C.cA c))(gC:X.mg x=some (.ref (C.cA c)))(hg:Gl X x)(hdb:(x==("__debug__":Str))=false):
  PS X (.Raise (some (.Call (.Name x p) [.Constant (.str m) j p2] [] pos)) none pos') (cq C (ql c)):=by
 refine fw (ps_raise hc tk (pmk_own PySem.F.excBase_ValueError F.ei gC F.kC (raises_own F.sB F.tC) hg hdb)) fun D sv H ⟨Z,loc,s,r,h⟩=>?_
 exact h Z loc sv H _ _ (Ext.refl _ _) r ⟨rfl,rfl⟩
theorem x_raise{x:String}{m:Str}{j:Nat}{cA:String→Addr}{p p2 pos pos':Pos}(hC:C.cA=cA)(hc:X.calm=true)(tk:Takes X C.W)(F:ExF X.K (cA x))(gC:X.mg (Str.ofString x)=some (.ref (cA x)))(hg:Gl X (Str.ofString x))(hdb:((Str.ofString x)==("__debug__":Str))=false):
  PS X (.Raise (some (.Call (.Name (Str.ofString x) p) [.Constant (.str m) j p2] [] pos)) none pos') (cq C (ql x)):=by
 subst hC
 exact F5 hc tk F gC hg hdb
end
end Vw
namespace L2
open PySem PySem.Spec PyProof.Rows
end L2
namespace Vw
open PySem L2 PySem.Spec PyProof.Rows
end Vw
namespace Vw
open PySem L2 PyProof.Rows
def pZ(N:List String)(c T:String):Option Bool:=if N.contains c then(if T="ValueError" then some true else if N.contains T then some (decide (T="FindError")||decide (c=T))else none)else none
def rV(N:List String)(T:String)(f u:State→Res Fl)(s:State):Res Fl:=
 match f s with
 | .exc x s=>match pZ N x.c T with
  | some true=>u s
  | some false=>.exc x s
  | none=>.stuck
 | r=>r
section
variable{C C':Cst}{Z Z':Hp}{loc loc':List Addr}{s s':State}{sv sv':L2.St}{H H':Hp}
theorem SR.w(r:SR C Z loc s sv H)(W:WX):SR { C with W:=W } Z loc s sv H:=⟨r.fr,r.zh,r.zf,r.lk,r.ln,r.nd,r.lh,r.cl,r.vl,r.ow,r.oi,r.ls⟩
theorem SR.zF{W:WX}(r:SR { C with W:=W } Z loc s sv H):SR C Z loc s sv H:=⟨r.fr,r.zh,r.zf,r.lk,r.ln,r.nd,r.lh,r.cl,r.vl,r.ow,r.oi,r.ls⟩
end
def EM(N:List String)(K:PySem.W.Frag)(cA:String→Addr)(T:String)(cv:Value):Prop:=∀ c b,pZ N c T=some b→PySem.W.exmOne K (.ref (cA c)) cv=some b
section
variable{C:Cst}{X:Cx}{N:List String}{T:String}{x n v:Str}{cv:Value}{i j:Nat}{body suite:List Stmt}{b₀:Stmt}{np pos pos' p1 p2 p3:Pos}{f u:State→Res Fl}
theorem J5(hs:X.stack=X.env::X.outer)(hf:X.env.frame=some X.env.locals)(hc:Names X x cv)(em:EM N X.K C.cA T cv)(tk:Takes X C.W)
  (hb:∀ (C':Cst) (pn:List (Addr×Obj)) (xe:Value→Shared→Prop),C'.cA=C.cA→Takes (X.tr pn xe) C'.W→PassesOwn (model X.prog X.w) X.A X.env xe→PSs (X.tr pn xe) body (cq C' f))
  (hsu:∀ (a:Addr) (oe:Obj) (cls:Value) (d:Option Addr) (pn:List (Addr×Obj)),Zc cls d oe→(∃ vs,oe.data=.fields vs)→PSs (X.suite a ((a,oe)::pn)) (b₀::suite) (cq C u)):
  PS X (.Try body [.ExceptHandler (some (.Name x np)) none (b₀::suite) pos'] [] [] pos) (cq C (rV N T f u)):=by
 refine fw (ps_try_only (tb:=fun W=>cq { C with W:=W } f) (ts:=fun _ _ _=>cq C u) (Wout:=C.W) hs hf hc tk (fun W pn xe t po=>hb _ pn xe rfl t po) hsu) fun D sv H ⟨Z,loc,s,r,h⟩=>?_
 refine⟨Z,loc,s,r.w _,?_⟩
 unfold rV at h
 cases e:f s with
 | stuck=>rw[e]at h;exact h
 | ok k s1=>
  rw[e]at h
  cases k with
  | nx=>exact fun Z' l' sv' H' g r'=>h Z' l' sv' H' g r'.zF
  | brk=>exact fun Z' l' sv' H' g r'=>h Z' l' sv' H' g r'.zF
  | cnt=>exact fun Z' l' sv' H' g r'=>h Z' l' sv' H' g r'.zF
  | ret rv=>
   intro Z' l' sv' H' v g r' q
   refine h Z' l' sv' H' v g r'.zF ?_
   cases rv with
   | val x=>exact q
   | own i=>exact q
   | new o=>
    obtain⟨a,q1,q2,q3,q4⟩:=q
    exact⟨a,q1,q2,q3,⟨q4.z,q4.f,q4.l,q4.o⟩⟩
 | exc x s1=>
  rw[e]at h
  intro Z' l' sv' H' c d g r' q
  have q':jJ C Z' H' x c d:=q
  cases eb:pZ N x.c T with
  | none=>
   dsimp only at h
   rw[eb]at h
   exact h.elim
  | some b=>
   refine⟨b,?_,fun hb=>?_,fun hb=>?_⟩
   ·rw[q'.1];exact em _ _ eb
   ·subst hb
    dsimp only at h
    rw[eb]at h
    intro a na
    refine⟨Z',l',s1,r'.zF,?_⟩
    cases eu:u s1 with
    | stuck=>rw[eu]at h;exact h.elim
    | exc y s2=>
     rw[eu]at h
     exact fun Z2 l2 sv2 H2 c2 d2 g2 r2 q2=>h Z2 l2 sv2 H2 c2 d2 (g.trans g2) r2 q2
    | ok k s2=>
     rw[eu]at h
     cases k with
     | nx=>exact fun Z2 l2 sv2 H2 g2 r2=>h Z2 l2 sv2 H2 (g.trans g2) r2
     | brk=>exact fun Z2 l2 sv2 H2 g2 r2=>h Z2 l2 sv2 H2 (g.trans g2) r2
     | cnt=>exact fun Z2 l2 sv2 H2 g2 r2=>h Z2 l2 sv2 H2 (g.trans g2) r2
     | ret rv=>exact fun Z2 l2 sv2 H2 v g2 r2 q2=>h Z2 l2 sv2 H2 v (g.trans g2) r2 q2
   ·subst hb
    dsimp only at h
    rw[eb]at h
    exact h Z' l' sv' H' c d g r'.zF q'
end
end Vw
namespace Vw
open PySem L2 PyProof.Rows
def KS(N:List String)(T:String)(f:State→Res RV)(s:State):Res RV:=(ev f s).bind fun r s=>
 match dv s r with
 | some (.exc c _)=>match pZ N c T with
  | some b=>aH (.bl b) s
  | none=>.stuck
 | some .non=>aH (.bl false) s
 | _=>.stuck
end Vw
namespace Vw
open PySem L2 PyProof.Rows
def Mr(N:List String)(f:State→Res RV)(s:State):Res RV:=(ev f s).bind fun r s=>
 match dv s r with
 | some (.exc c [p])=>if N.contains c then aH p s else .stuck
 | _=>.stuck
def qW(T:String)(f:State→Res RV)(s:State):Res Fl:=(ev f s).bind fun r s=>match bG r s with
 | .ok (.d x) s=>.exc ⟨T,some x⟩ s
 | _=>.stuck
def Kx(K:PySem.W.Frag)(C:Addr):Sp:=fun vs H Q E=>∃ (a:Addr) (v:V),vs=[.ref a,v]∧OexC K C∧PySem.W.findIn K (.ref C) "place"=some none∧H a=some (exo a C none)∧
 ∀ dx,H dx=none→dx≠a→Q .non (upd (upd H dx (exd dx [(Str.ofString "place",v)])) a (exo a C (some dx)))
theorem EW{P:Program}{w:World}{K:PySem.W.Frag}{mg:Str→Option Value}{base:Heap}{x qual:Str}{params:Arguments}{scope:Scope}{f:Addr}{fd:FuncData}{C:Addr}{q1 q2 q3 q4:Pos}
  (F:FunD K x qual params [.Assign [.Attribute (.Name "self" q1) "place" q2] (.Name "place" q3) q4] scope [] [] f fd) (S:FnScope ["self","place"] ["self","place"] scope) (hs:scope.names.lookup (Str.ofString "self")=some NameKind.local) (hp:scope.names.lookup (Str.ofString "place")=some NameKind.local):
  FnOk P w K mg base CX0 1 f fd ["self","place"] (Kx K C):=by
 refine F.ok S (fun vs H Q E ⟨a,v,h,_⟩=>by rw[h];rfl) fun cdv A outer s H vs Q E hr ⟨a,v,hv,T,hno,ha,q⟩=>?_
 subst hv
 refine⟨_,pss_one (ps_ost (pe_var (i:=0) rfl (.inl hs)) (pe_var (i:=1) rfl (.inl hp))),?_⟩
 exact⟨v,rfl,.ref a,rfl,a,C,rfl,T,hno,.inl ⟨ha,fun dx h1 h2=>q dx h1 h2⟩⟩
structure OinF (P:Program) (w:World) (K:PySem.W.Frag) (mg:Str→Option Value) (base:Heap) (C fI:Addr) (fd:FuncData):Prop where
 T:OexC K C
 no:PySem.W.findIn K (.ref C) "place"=some none
 iC:PySem.W.findIn K (.ref C) "__init__"=some (some (.ref fI))
 tI:PySem.W.typeIn K (.ref fI)=some (.type "function")
 F:FnOk P w K mg base CX0 1 fI fd ["self","place"] (Kx K C)
 B:Binds K fd ["self","place"] []
section
variable{C:Cst}{X:Cx}{e:Expr}{p p2 pos pos':Pos}{f:State→Res RV}
theorem Dm{x:String}{cA:String→Addr}{fI:Addr}{fd:FuncData}(hC:C.cA=cA)(hc:X.calm=true)(tk:Takes X C.W)(hr:Room 2 X.A)(F:OinF X.prog X.w X.K X.mg X.base (cA x) fI fd)(gC:X.mg (Str.ofString x)=some (.ref (cA x)))(hg:Gl X (Str.ofString x))(he:PE X e (ai C f))
  (hs:notStar e=true) (hdb:((Str.ofString x)==("__debug__":Str))=false):
  PS X (.Raise (some (.Call (.Name (Str.ofString x) p) [e] [] pos)) none pos') (cq C (qW x f)):=by
 subst hC
 refine fw (ps_raise hc tk (pmk_oex (dvs:=[]) (ds:=[]) F.T F.iC F.tI F.F hr F.B .nil pass0 hg gC (pa_cons he pa_nil (aX hs)) hdb (aX hs) (by rfl))) fun D sv H ⟨Z,loc,s,r,h⟩=>?_
 refine ai.zA (PO:=fun Z loc (t:Res Fl)=>bg C Z loc t D) r h (fun Z' l' t g q=>q.ext g) (fun y s' q Z' l' H' c d g r' x'=>q Z' l' sv H' c d g r' x') (fun z=>z) ?_
 ·intro v H1 ⟨Z1,l1,s1,y,g1,r1,st1,q1,h1⟩
  cases ec:bG y s1 with
  | stuck=>rw[ec]at h1;exact h1.elim
  | exc _ _=>rw[ec]at h1;exact h1.elim
  | ok x1 s2=>
   rw[ec]at h1
   cases x1 with
   | r n=>exact h1.elim
   | tp l=>exact h1.elim
   | d d=>
    obtain⟨Z2,g2,r2,q2⟩:=r1.bG q1 ec
    refine⟨by simp,fun a na=>⟨a,v,rfl,F.T,F.no,upd_same,fun dx h2 h3=>⟨rfl,dx,[(Str.ofString "place",v)],upd_same,by rw[upd_ne h3,upd_same],by rw[upd_ne h3]at h2;exact h2,?_⟩⟩⟩
    have nd:H1 dx=none:=by rw[upd_ne h3]at h2;exact h2
    have eH:upd (L2.del (upd (upd (upd H1 a (exo a (C.cA x) none)) dx (exd dx [(Str.ofString "place",v)])) a (exo a (C.cA x) (some dx))) a) dx (.xd [(Str.ofString "place",v)])=upd H1 dx (.xd [(Str.ofString "place",v)]):=by
     funext b
     by_cases hb:b=dx
     ·subst hb;rw[upd_same,upd_same]
     ·rw[upd_ne hb,upd_ne hb]
      by_cases hba:b=a
      ·subst hba;rw[L2.del_same,na]
      ·rw[L2.del_ne hba,upd_ne hba,upd_ne hb,upd_ne hba]
    rw[eH]
    have f3:=r2.free nd
    have g3:=bp (o:=.xd [(Str.ofString "place",v)]) f3.z
    have r3:=(r2.grow (bp (o:=.xd [(Str.ofString "place",v)]) nd)).tM upd_same f3
    exact h1 _ l1 sv _ _ _ (g2.trans (Ext.z g3)) r3 ⟨rfl,dx,v,rfl,upd_same,aL.mono g3 d q2⟩
end
end Vw
namespace Vw
open PySem L2 PyProof.Rows
theorem nH{a b:String}(h:Str.ofString a=Str.ofString b):a=b:=by
 rw[Str.ofString_eq_toList,Str.ofString_eq_toList]at h
 have h1:(a.toList.map Char.toNat)=(b.toList.map Char.toNat):=by
  have:=congrArg (fun x:Str=>x.cps.toList) h
  simpa using this
 have h2:a.toList=b.toList:=by
  have inj:∀ (l m:List Char),l.map Char.toNat=m.map Char.toNat→l=m:=by
   intro l
   induction l with
   | nil=>intro m h;cases m<;> simp at h ⊢
   | cons c l ih=>
    intro m h
    cases m with
    | nil=>simp at h
    | cons d m=>
     simp only[List.map_cons,List.cons.injEq]at h
     have:c=d:=by
      apply Char.ext
      apply UInt32.toNat_inj.mp
      exact h.1
     rw[this,ih m h.2]
  exact inj _ _ h1
 exact String.toList_inj.mp h2
structure Mode (C:Cst) (X:Cx) where
 CX:CXT
 E:L2.St→XK
 hx:∀ σ,PassesAt CX X σ (E σ)
 call:Fn→List Val→State→Res RV
 sp:∀ {Z:Hp} {loc:List Addr} {s:State} {sv:L2.St} {H:Hp} {g:Fn} {n:Nat} {args:List Val} {vs:List V} {Q:VK},SR C Z loc s sv H→aB C.cA Z loc args vs→args.length=n→EPost C Z loc sv (call g args s) Q→bz C.cA n g vs H Q (E sv)
def mR{C:Cst}{X:Cx}:Mode C X:=⟨CX0,fun _=>E0,fun σ pins H s e s' I c=>L2.pass0 pins σ H s e s' I c,cW,fun r q hn h=>DZ r q hn h⟩
def mX{C:Cst}{X:Cx}(tk:Takes X C.W):Mode C X:=⟨L2.CX X.prog X.w,WE C.W,fun σ=>passAt tk σ,eU,fun r q hn h=>Cu r q hn h⟩
def s7(s:State)(r:RV):Option (String×List String):=
 match dv s r with
 | some (.ins c fs)=>some (c,fs.map (·.1))
 | some _=>none
 | none=>match ob s r with
  | some (.ins c fs)=>some (c,fs.map (·.1))
  | _=>none
def d6(call:Fn→List Val→State→Res RV)(c m:String)(n:Nat)(fo:State→Res RV)(fs:State→Res (List RV))(g:Fn)(s:State):Res RV:=(ev fo s).bind fun r s=>
 match s7 s r,r with
 | some (c',fl),.val x=>if c'=c∧fl.contains m=false then(fs s).bind fun rs s=>(aD rs s).bind fun args s=>if args.length+1=n then call g (x::args) s else .stuck else .stuck
 | _,_=>.stuck
def GI(m:Nat)(r:Res RV):Res RV:=
 match r with
 | .ok (.val (.d .non)) s=>.ok (.val (.r m)) s
 | .exc x s=>.exc x s
 | _=>.stuck
def Ek(call:Fn→List Val→State→Res RV)(c:String)(n:Nat)(fs:State→Res (List RV))(g:Fn)(s:State):Res RV:=(fs s).bind fun rs s=>(aD rs s).bind fun args s=>
 if args.length+1=n then GI s.st.length (call g (.r s.st.length::args) ⟨s.sg,s.st++[.ins c []]⟩)else .stuck
def pk{α:Type}(fs:List (String×α))(f:String):Option α:=(fs.find? fun p=>decide (p.1=f)).map (·.2)
def sU{α:Type}(f:String)(v:α):List (String×α)→List (String×α)
 | []=>[(f,v)]
 | (g,x)::r=>if g=f then(g,v)::r else(g,x)::sU f v r
def jf(T:List (String×String))(f:String)(fo:State→Res RV)(s:State):Res RV:=(ev fo s).bind fun r s=>
 match dv s r with
 | some (.ins c fs)=>if T.contains (c,f)then(match pk fs f with
  | some d=>aH d s
  | none=>.stuck)else .stuck
 | some _=>.stuck
 | none=>match ob s r with
  | some (.ins c fs)=>if T.contains (c,f)then(match pk fs f with
   | some x=>.ok (.val x) s
   | none=>.stuck)else .stuck
  | _=>.stuck
def xg(T:List (String×String))(f:String)(fo fv:State→Res RV)(s:State):Res Fl:=(ev fv s).bind fun v s=>(ev fo s).bind fun o s=>
 match bG v s with
 | .ok x s=>match ob s o with
  | some (.ins c fs)=>if T.contains (c,f)&&decide (fs.length<1000)then .ok .nx (wr o (.ins c (sU f x fs)) s)else .stuck
  | _=>.stuck
 | _=>.stuck
def jR(T:List (String×String))(f:String)(op:Bop)(fo fv:State→Res RV)(s:State):Res Fl:=
 match Az op with
 | none=>.stuck
 | some g=>(ev fo s).bind fun o s=>match ob s o with
  | some (.ins c fs)=>if T.contains (c,f)&&decide (fs.length<1000)then(match pk fs f with
   | some (.d (.int a))=>(ev fv s).bind fun y s=>match dv s y,ob s o with
    | some (.int b),some (.ins c' fs')=>if c'=c∧fs'.length<1000 then .ok .nx (wr o (.ins c (sU f (.d (.int (g a b))) fs')) s)else .stuck
    | _,_=>.stuck
   | _=>.stuck)else .stuck
  | _=>.stuck
def p8(K:PySem.W.Frag)(cA:String→Addr)(T:List (String×String)):Prop:=∀ c f,(c,f)∈T→Cls K (cA c)∧NoAttr K (cA c) (Str.ofString f)
section
variable{C:Cst}{Z Z' Zc:Hp}{loc loc':List Addr}{s s':State}{sv sv':L2.St}{H H':Hp}
variable{X:Cx}{e a b c o v:Expr}{es:List Expr}{p p2 pos pos' apos pt:Pos}{f fa fb fc fo fi fv:State→Res RV}{fs:State→Res (List RV)}
theorem BC{T:List (String×String)}:∀ {fs:List (String×D)} {ws:List (Str×V)} {f:String} {d:D},hM C.cA Z fs ws→pk fs f=some d→∃ v,ws.lookup (Str.ofString f)=some v∧aL C.cA Z d v
 | [],ws,f,d,h,e=>by cases e
 | (g,x)::fs,ws,f,d,⟨v,r,e1,q,t⟩,e=>by
  subst e1
  unfold pk at e
  rw[List.find?_cons]at e
  by_cases hg:g=f
  ·subst hg
   simp at e
   subst e
   exact⟨v,by simp[List.lookup],q⟩
  ·simp[hg]at e
   have hne:((Str.ofString f)==(Str.ofString g))=false:=beq_eq_false_iff_ne.mpr fun z=>hg (nH z.symm)
   obtain⟨v2,h1,h2⟩:=BC (T:=T) (f:=f) (d:=d) t (by unfold pk;simpa using e)
   exact⟨v2,by rw[List.lookup,hne];exact h1,h2⟩
theorem uR:∀ {fs:List (String×Val)} {ws:List (Str×V)} {f:String} {d:Val},dE C.cA Z loc fs ws→pk fs f=some d→∃ v,ws.lookup (Str.ofString f)=some v∧bh C.cA Z loc d v
 | [],ws,f,d,h,e=>by cases e
 | (g,x)::fs,ws,f,d,⟨v,r,e1,q,t⟩,e=>by
  subst e1
  unfold pk at e
  rw[List.find?_cons]at e
  by_cases hg:g=f
  ·subst hg
   simp at e
   subst e
   exact⟨v,by simp[List.lookup],q⟩
  ·simp[hg]at e
   have hne:((Str.ofString f)==(Str.ofString g))=false:=beq_eq_false_iff_ne.mpr fun z=>hg (nH z.symm)
   obtain⟨v2,h1,h2⟩:=uR (f:=f) (d:=d) t (by unfold pk;simpa using e)
   exact⟨v2,by rw[List.lookup,hne];exact h1,h2⟩
theorem zJ:∀ {fs:List (String×D)} {ws:List (Str×V)} {m:String},hM C.cA Z fs ws→(fs.map (·.1)).contains m=false→ws.lookup (Str.ofString m)=none
 | [],ws,m,h,e=>by rw[show ws=_ from h];rfl
 | (g,x)::fs,ws,m,⟨v,r,e1,q,t⟩,e=>by
  subst e1
  simp only[List.map_cons,List.contains_cons,Bool.or_eq_false_iff]at e
  have hne:((Str.ofString m)==(Str.ofString g))=false:=beq_eq_false_iff_ne.mpr fun z=>by
   have:=nH z
   have e1:=e.1
   rw[this]at e1
   simp at e1
  rw[List.lookup,hne]
  exact zJ t e.2
theorem yJ:∀ {fs:List (String×Val)} {ws:List (Str×V)} {m:String},dE C.cA Z loc fs ws→(fs.map (·.1)).contains m=false→ws.lookup (Str.ofString m)=none
 | [],ws,m,h,e=>by rw[show ws=_ from h];rfl
 | (g,x)::fs,ws,m,⟨v,r,e1,q,t⟩,e=>by
  subst e1
  simp only[List.map_cons,List.contains_cons,Bool.or_eq_false_iff]at e
  have hne:((Str.ofString m)==(Str.ofString g))=false:=beq_eq_false_iff_ne.mpr fun z=>by
   have:=nH z
   have e1:=e.1
   rw[this]at e1
   simp at e1
  rw[List.lookup,hne]
  exact yJ t e.2
theorem xt{f:String}{x:Val}{v:V}(q:bh C.cA Z loc x v):∀ {fs:List (String×Val)} {ws:List (Str×V)},dE C.cA Z loc fs ws→dE C.cA Z loc (sU f x fs) (putF (Str.ofString f) v ws)
 | [],ws,h=>by rw[show ws=_ from h];exact⟨v,[],rfl,q,rfl⟩
 | (g,y)::fs,ws,⟨w,r,e1,q1,t⟩=>by
  subst e1
  unfold sU putF
  by_cases hg:g=f
  ·rw[if_pos hg,if_pos (by rw[hg])]
   exact⟨v,r,rfl,q,t⟩
  ·rw[if_neg hg,if_neg (fun z=>hg (nH z))]
   exact⟨w,_,rfl,q1,xt q t⟩
theorem CI:∀ {fs:List (String×Val)} {ws:List (Str×V)},dE C.cA Z loc fs ws→fs.length=ws.length
 | [],ws,h=>by rw[show ws=_ from h];rfl
 | (g,y)::fs,ws,⟨w,r,e1,q1,t⟩=>by rw[e1,List.length_cons,List.length_cons,CI t]
theorem SR.ins(r:SR C Z loc s sv H){rv:RV}{v:V}{c:String}{fl:List String}{m:String}(q:aY C Z loc s sv H rv v)(e:s7 s rv=some (c,fl))(hm:fl.contains m=false):∃ a dx ws,v=.ref a∧H a=some (.ins (C.cA c) dx ws)∧ws.lookup (Str.ofString m)=none:=by
 unfold s7 at e
 split at e
 ·rename_i c' fs e1
  cases e
  obtain⟨a,dx,ws,rfl,z,q1⟩:=r.dv q e1
  exact⟨a,dx,ws,rfl,(r.zh a _ z).at rfl,zJ q1 hm⟩
 ·cases e
 ·split at e
  ·rename_i c' fs e1
   cases e
   obtain⟨a,rfl,_,dx,ws,h1,h2⟩:=r.ob q e1
   exact⟨a,dx,ws,rfl,h1,yJ h2 hm⟩
  ·cases e
theorem JE{T:List (String×String)}{n:String}(F:p8 X.K C.cA T)(he:PE X e (ai C f))(hb:attributeBase e (Str.ofString n) X.env (eval e X.env)=eval e X.env):PE X (.Attribute e (Str.ofString n) pos) (ai C (jf T n f)):=by
 refine aQ (pe_fld he hb) fun sv H Q ⟨Z,loc,s,r,q⟩=>?_
 refine(ai.m8 r q).imp fun v H1 ⟨Z1,l1,s1,y,g1,r1,st1,q1,h1⟩=>?_
 split at h1
 ·rename_i c fs e1
  split at h1
  ·rename_i hT
   split at h1
   ·rename_i d e2
    obtain⟨a,dx,ws,rfl,z,q2⟩:=r1.dv q1 e1
    obtain⟨w,l,qw⟩:=BC (T:=T) q2 e2
    obtain⟨f1,f2⟩:=F c n (by simpa using hT)
    exact⟨a,C.cA c,dx,ws,w,rfl,(r1.zh a _ z).at rfl,f1,f2,l,h1.aH r1 qw⟩
   ·exact h1.elim
  ·exact h1.elim
 ·exact h1.elim
 ·split at h1
  ·rename_i c fs e1
   split at h1
   ·rename_i hT
    split at h1
    ·rename_i x e2
     obtain⟨a,rfl,_,dx,ws,z,q2⟩:=r1.ob q1 e1
     obtain⟨w,l,qw⟩:=uR q2 e2
     obtain⟨f1,f2⟩:=F c n (by simpa using hT)
     exact⟨a,C.cA c,dx,ws,w,rfl,z,f1,f2,l,h1 Z1 l1 H1 w (Ext.refl _ _) r1 qw⟩
    ·exact h1.elim
   ·exact h1.elim
  ·exact h1.elim
theorem Hm{T:List (String×String)}{n:String}(F:p8 X.K C.cA T)(ho:PE X o (ai C fo))(hv:PE X v (ai C fv))(hc:g8 v=true):PS X (.Assign [.Attribute o (Str.ofString n) pos'] v pos) (cq C (xg T n fo fv)):=by
 refine fw (ps_fld ho hv (qT hc)) fun D sv H ⟨Z,loc,s,r,q⟩=>?_
 refine(ai.v3 r q).imp fun x H1 ⟨Z1,l1,s1,y,g1,r1,st1,q1,h1⟩=>?_
 refine(ai.v3 r1 h1).imp fun u H2 ⟨Z2,l2,s2,y2,g2,r2,st2,q2,h2⟩=>?_
 have q1':=q1.mono (s':=s2) (H':=H2) g2 st1
 cases e1:bG y s2 with
 | stuck=>rw[e1]at h2;exact h2.elim
 | exc x s4=>rw[e1]at h2;exact h2.elim
 | ok z s4=>
  rw[e1]at h2
  dsimp only at h2
  obtain⟨Z4,g4,r4,q4⟩:=r2.bG q1' e1
  split at h2
  ·rename_i c fs e5
   split at h2
   ·rename_i hT
    simp only[Bool.and_eq_true,decide_eq_true_eq]at hT
    have q2':=q2.mono (s':=s4) (H':=H2) g4 st2
    obtain⟨a,rfl,_,dx,ws,hz,qf⟩:=r4.ob q2' e5
    obtain⟨f1,f2⟩:=F c n (by simpa using hT.1)
    refine⟨a,C.cA c,dx,ws,rfl,hz,f1,f2,by rw[←CI qf];exact hT.2,?_⟩
    have r5:=r4.write (o':=.ins c (sU n z fs)) (u:=.ins (C.cA c) dx (putF (Str.ofString n) x ws)) q2' e5 rfl (by simp) (fun x w z=>by rw[hz]at z;cases z) ⟨dx,_,upd_same,xt q4 qf⟩
    exact bg.nx (bg.ext h2 g4) r5
   ·exact h2.elim
  ·exact h2.elim
theorem Dk{M:Mode C X}{k:Nat}{f D:Addr}{fd:FuncData}{ps:List Str}{sp:Sp}{m:Str}{ta:TE}{t:TA}{pl:Sem Bool}(he:PE X o ta)(c:Cls X.K D)(hm:Meth X.K D m f)(F:FnOk X.prog X.w X.K X.mg X.base M.CX k f fd ps sp)(hr:Room k X.A)(hb:Binds X.K fd ps [])(ha:PA X (e::es) t)
  (hst:starEach (e::es) X.env=(false,eval e X.env)::starEach es X.env) (hpl:(backTo pos (starEach es X.env)).any (·.1)=false)
  (ht:eval (.Call (.Attribute o m apos) (e::es) [] pos) X.env=(do
   let ov ←eval o X.env
   standAt apos.atName
   let (f,first) ←holding [ov] (getMethod ov m pl)
   callWith pos f first (backTo pos (starEach (e::es) X.env)) (backToKw pos (keywordEach [] X.env)))):
  PE X (.Call (.Attribute o m apos) (e::es) [] pos) (fun σ H Q=>ta σ H fun x H1=>∃ a dx fs,x=.ref a∧H1 a=some (.ins D dx fs)∧fs.lookup m=none∧t σ H1 fun vs H2=>sp (x::vs) H2 Q (M.E σ)):=by
 refine⟨fun pins s σ H Q I h=>?_⟩
 refine PySem.W.methodCall_KW (pl:=pl) (thn (he.run pins s σ H _ I h) fun u s1 ⟨x,H1,I1,rx,a,dx,fs,ex,ea,l,q⟩=>?_) ht
 subst ex
 obtain rfl:u=Value.ref a:=rx
 refine getmeth_ok I1 ea c hm l ?_
 refine PySem.W.callWith_K (first:=[.ref a]) (h₀:=X.base) I.ok.mod.kin hm.kp (thn (ha.run pos pins s1 σ H1 _ I1 q) fun us s2 ⟨vs,H2,I2,r,q2⟩=>⟨I2.kIn,?_⟩) hst hpl
 exact run_fnS (us:=.ref a::us) (vs:=.ref a::vs) F hr hb (M.hx σ) I2 (.cons rfl r) q2
theorem Cj{M:Mode C X}{k:Nat}{f D:Addr}{fd:FuncData}{ps:List Str}{sp:Sp}{m:Str}{ta:TE}{pl:Sem Bool}(he:PE X o ta)(c:Cls X.K D)(hm:Meth X.K D m f)(F:FnOk X.prog X.w X.K X.mg X.base M.CX k f fd ps sp)(hr:Room k X.A)(hb:Binds X.K fd ps [])
  (ht:eval (.Call (.Attribute o m apos) [] [] pos) X.env=(do
   let ov ←eval o X.env
   standAt apos.atName
   let (f,first) ←holding [ov] (getMethod ov m pl)
   callWith pos f first (backTo pos (starEach [] X.env)) (backToKw pos (keywordEach [] X.env)))):
  PE X (.Call (.Attribute o m apos) [] [] pos) (fun σ H Q=>ta σ H fun x H1=>∃ a dx fs,x=.ref a∧H1 a=some (.ins D dx fs)∧fs.lookup m=none∧sp [x] H1 Q (M.E σ)):=by
 refine⟨fun pins s σ H Q I h=>?_⟩
 refine PySem.W.methodCall_KW (pl:=pl) (thn (he.run pins s σ H _ I h) fun u s1 ⟨x,H1,I1,rx,a,dx,fs,ex,ea,l,q⟩=>?_) ht
 subst ex
 obtain rfl:u=Value.ref a:=rx
 refine getmeth_ok I1 ea c hm l ?_
 exact PySem.W.callWith_K0 (first:=[.ref a]) I1.kIn hm.kp (run_fnS (us:=[.ref a]) (vs:=[.ref a]) F hr hb (M.hx σ) I1 (.cons rfl .nil) q)
end
end Vw
namespace Vw
open PySem L2 PyProof.Rows
section
variable{C:Cst}{Z Z' Zc:Hp}{loc loc':List Addr}{s s':State}{sv sv':L2.St}{H H':Hp}
variable{X:Cx}{e a b c o v:Expr}{es:List Expr}{p p2 pos pos' apos pt:Pos}{f fa fb fc fo fi fv:State→Res RV}{fs:State→Res (List RV)}
theorem bS.Mm{fs:State→Res (List RV)}{k:List RV→State→Res RV}{Q:VK}{R:List V→Hp→Prop}(r:SR C Z loc s sv H)(h:EPost C Z loc sv ((fs s).bind k) Q)
  (hq:∀ vs H1 Z1 loc1 s1 xs,Ext Z loc Z1 loc1→SR C Z1 loc1 s1 sv H1→fN C Z1 loc1 s1 sv H1 xs vs→EPost C Z1 loc1 sv (k xs s1) Q→R vs H1):bS C fs sv H R:=by
 refine⟨Z,loc,s,r,?_⟩
 cases e:fs s with
 | stuck=>rw[e]at h;exact h
 | exc x s1=>rw[e]at h;exact h
 | ok xs s1=>
  rw[e]at h
  simp only[Res.bind]at h
  exact fun Z' l' H' vs g r' q'=>hq vs H' Z' l' s1 xs g r' q' (EPost.ext h g)
theorem Ju{M:Mode C X}{k:Nat}{fA:Addr}{fd:FuncData}{ps:List Str}{cl m:String}{g:Fn}{pl:Sem Bool}(he:PE X o (ai C fo))(c:Cls X.K (C.cA cl))(hm:Meth X.K (C.cA cl) (Str.ofString m) fA)(F:FnOk X.prog X.w X.K X.mg X.base M.CX k fA fd ps (bz C.cA ps.length g))(hr:Room k X.A)(hb:Binds X.K fd ps [])(ha:PA X (e::es) (bS C fs))
  (hs:(e::es).all notStar=true)
  (ht:eval (.Call (.Attribute o (Str.ofString m) apos) (e::es) [] pos) X.env=(do
   let ov ←eval o X.env
   standAt apos.atName
   let (f,first) ←holding [ov] (getMethod ov (Str.ofString m) pl)
   callWith pos f first (backTo pos (starEach (e::es) X.env)) (backToKw pos (keywordEach [] X.env)))):
  PE X (.Call (.Attribute o (Str.ofString m) apos) (e::es) [] pos) (ai C (d6 M.call cl m ps.length fo fs g)):=by
 have hs':=hs
 simp only[List.all_cons,Bool.and_eq_true]at hs
 refine aQ (Dk (M:=M) he c hm F hr hb ha (aX hs.1) (c5 hs.2) ht) fun sv H Q ⟨Z,loc,s,r,q⟩=>?_
 refine(ai.m8 r q).imp fun v H1 ⟨Z1,l1,s1,y,g1,r1,st1,q1,h1⟩=>?_
 split at h1
 ·rename_i c' fl x e1
  split at h1
  ·rename_i hc
   obtain⟨a,dx,ws,rfl,hz,hl⟩:=r1.ins q1 e1 hc.2
   rw[hc.1]at hz
   refine⟨a,dx,ws,rfl,hz,hl,bS.Mm r1 h1 fun vs H2 Z2 l2 s2 xs g2 r2 q2 h2=>?_⟩
   have q1':bh C.cA Z2 l2 x (.ref a):=bh.mono g2 x q1
   cases e2:aD xs s2 with
   | stuck=>rw[e2]at h2;exact h2.elim
   | exc x s3=>exact absurd e2 dJ
   | ok args s3=>
    rw[e2]at h2
    simp only[Res.bind]at h2
    obtain⟨Z3,g3,r3,q3⟩:=r2.aD q2 e2
    split at h2
    ·rename_i hn
     exact M.sp (args:=x::args) r3 ⟨.ref a,vs,rfl,bh.mono g3 x q1',q3⟩ (by simpa using hn) (EPost.ext h2 g3)
    ·exact h2.elim
  ·exact h1.elim
 ·exact h1.elim
theorem Io{M:Mode C X}{k:Nat}{fA:Addr}{fd:FuncData}{ps:List Str}{cl m:String}{g:Fn}{pl:Sem Bool}(he:PE X o (ai C fo))(c:Cls X.K (C.cA cl))(hm:Meth X.K (C.cA cl) (Str.ofString m) fA)(F:FnOk X.prog X.w X.K X.mg X.base M.CX k fA fd ps (bz C.cA ps.length g))(hr:Room k X.A)(hb:Binds X.K fd ps [])
  (ht:eval (.Call (.Attribute o (Str.ofString m) apos) [] [] pos) X.env=(do
   let ov ←eval o X.env
   standAt apos.atName
   let (f,first) ←holding [ov] (getMethod ov (Str.ofString m) pl)
   callWith pos f first (backTo pos (starEach [] X.env)) (backToKw pos (keywordEach [] X.env)))):
  PE X (.Call (.Attribute o (Str.ofString m) apos) [] [] pos) (ai C (d6 M.call cl m ps.length fo (aj []) g)):=by
 refine aQ (Cj (M:=M) he c hm F hr hb ht) fun sv H Q ⟨Z,loc,s,r,q⟩=>?_
 refine(ai.m8 r q).imp fun v H1 ⟨Z1,l1,s1,y,g1,r1,st1,q1,h1⟩=>?_
 split at h1
 ·rename_i c' fl x e1
  split at h1
  ·rename_i hc
   obtain⟨a,dx,ws,rfl,hz,hl⟩:=r1.ins q1 e1 hc.2
   rw[hc.1]at hz
   refine⟨a,dx,ws,rfl,hz,hl,?_⟩
   simp only[aj,Res.bind,aD]at h1
   split at h1
   ·rename_i hn
    exact M.sp (args:=[x]) r1 ⟨.ref a,[],rfl,q1,rfl⟩ (by simpa using hn) h1
   ·exact h1.elim
  ·exact h1.elim
 ·exact h1.elim
theorem Dz{M:Mode C X}{k:Nat}{f D:Addr}{fd:FuncData}{ps:List Str}{sp:Sp}{x:Str}{t:TA}(Mk':Mk X.K D f)(F:FnOk X.prog X.w X.K X.mg X.base M.CX k f fd ps sp)(hr:Room (k+1) X.A)(hg:Gl X x)(hm:X.mg x=some (.ref D))(hb:Binds X.K fd ps [])
  (ha:PA X (e::es) t) (hdb:(x==("__debug__":Str))=false) (he:starEach (e::es) X.env=(false,eval e X.env)::starEach es X.env) (hpl:(backTo pos (starEach es X.env)).any (·.1)=false):
  PE X (.Call (.Name x p) (e::es) [] pos) (fun σ H Q=>t σ H fun vs H1=>∀ y dx,H1 y=none→H1 dx=none→dx≠y→sp (.ref y::vs) (upd (upd H1 dx (.own y)) y (.ins D dx [])) (fun v H2=>v=.non∧Q (.ref y) H2) (M.E σ)):=by
 refine⟨fun pins s σ H Q I h=>?_⟩
 refine wpAny_Call_Name_kw (ld_glob I hg hm ?_ hdb)
 refine PySem.W.callWith_K (h₀:=X.base) I.ok.mod.kin Mk'.kp (thn (ha.run pos pins s σ H _ I h) fun us s1 ⟨vs,H1,I1,r,hq⟩=>⟨I1.kIn,?_⟩) he hpl
 have hq1:=hq (s1.heap.objs.size+1) s1.heap.objs.size (I1.hok.fresh (Nat.le_succ _)) (I1.hok.fresh (Nat.le_refl _)) (Nat.ne_of_lt (Nat.lt_succ_self _))
 have I2:=Inv.made (C:=D) I1
 have r2:Vals (V.ref (s1.heap.objs.size+1)::vs) (Value.ref (s1.heap.objs.size+1)::us):=.cons rfl r
 have hl:(Value.ref (s1.heap.objs.size+1)::us++[]).length=ps.length:=by
  have e:=r2.length
  rw[F.len _ _ _ _ hq1]at e
  rw[List.append_nil]
  exact e.symm
 have hbb:=hb _ (Value.ref (s1.heap.objs.size+1)::us) I2.kIn hl
 rw[List.append_nil]at hbb
 refine wpAny_call (make_map (f:=f) I1.kIn Mk'.makes Mk'.init (beq_iff_eq.mp Mk'.fn) (codeAny_mono (F.run _ X.stack _ _ ⟨Value.ref (s1.heap.objs.size+1)::us,[]⟩ (Value.ref (s1.heap.objs.size+1)::us) _ _ (M.E σ) (hr.make D us [])
  (I2.env0.make D us []) hbb r2 hq1) fun r s' hq'=>?_))
 cases r with
 | error e=>exact M.hx σ pins _ _ e s' I2 hq'
 | ok fl=>
  cases fl with
  | ret u=>
   obtain⟨v,H',I3,rv,ev,q3⟩:=I2.after hq'
   subst ev
   exact⟨rv,⟨V.ref (s1.heap.objs.size+1),H',I3,rfl,q3⟩⟩
  | next=>exact False.elim hq'
  | brk=>exact False.elim hq'
  | cont=>exact False.elim hq'
theorem J8{M:Mode C X}{cl:String}{n:Nat}{g:Fn}{args:List Val}{vs:List V}{Q:VK}(r:SR C Z loc s sv H)(q:aB C.cA Z loc args vs)(hn:args.length+1=n)
  (h:EPost C Z loc sv (GI s.st.length (M.call g (.r s.st.length::args) ⟨s.sg,s.st++[.ins cl []]⟩)) Q):
  ∀ y dx,H y=none→H dx=none→dx≠y→bz C.cA n g (.ref y::vs) (upd (upd H dx (.own y)) y (.ins (C.cA cl) dx [])) (fun v H2=>v=.non∧Q (.ref y) H2) (M.E sv):=by
 intro y dx hy hdx ne
 have hy':upd H dx (.own y) y=none:=by rw[upd_ne (Ne.symm ne)];exact hy
 have r1:=(r.grow (bp (o:=.own y) hdx)).grow (bp (o:=.ins (C.cA cl) dx []) hy')
 have fr:Free C Z loc s sv y:=r.free hy
 obtain⟨g1,r2,q2⟩:=r1.alloc (o:=.ins cl []) (by simp) ⟨dx,[],upd_same,rfl⟩ fr
 refine M.sp (args:=.r s.st.length::args) r2 ⟨.ref y,vs,rfl,q2,aB.mono g1 args q⟩ (by simpa using hn) ?_
 have h:=EPost.ext h g1
 cases e:M.call g (.r s.st.length::args) ⟨s.sg,s.st++[.ins cl []]⟩with
 | stuck=>rw[e]at h;exact h
 | exc x s2=>rw[e]at h;exact h
 | ok rv s2=>
  rw[e]at h
  cases rv with
  | own i=>exact h.elim
  | new o=>exact h.elim
  | val x=>
   cases x with
   | r n=>exact h.elim
   | tp l=>exact h.elim
   | d d=>
    cases d with
    | non=>
     intro Z' l' H' v g' r' q'
     exact⟨q',h Z' l' H' _ g' r' (bh.mono g' _ q2)⟩
    | _=>exact h.elim
theorem Le{M:Mode C X}{k:Nat}{fA:Addr}{fd:FuncData}{ps:List Str}{cl:String}{g:Fn}(Mk':Mk X.K (C.cA cl) fA)(F:FnOk X.prog X.w X.K X.mg X.base M.CX k fA fd ps (bz C.cA ps.length g))(hr:Room (k+1) X.A)(hg:Gl X (Str.ofString cl))(hm:X.mg (Str.ofString cl)=some (.ref (C.cA cl)))(hb:Binds X.K fd ps [])
  (ha:PA X (e::es) (bS C fs)) (hdb:((Str.ofString cl)==("__debug__":Str))=false) (hs:(e::es).all notStar=true):PE X (.Call (.Name (Str.ofString cl) p) (e::es) [] pos) (ai C (Ek M.call cl ps.length fs g)):=by
 have hs':=hs
 simp only[List.all_cons,Bool.and_eq_true]at hs
 refine aQ (Dz (M:=M) Mk' F hr hg hm hb ha hdb (aX hs.1) (c5 hs.2)) fun sv H Q h=>(bS.at h).imp fun vs H1 ⟨Z,loc,s,xs,r,q,h⟩=>?_
 cases e1:aD xs s with
 | stuck=>rw[e1]at h;exact h.elim
 | exc x s1=>exact absurd e1 dJ
 | ok args s1=>
  rw[e1]at h
  simp only[Res.bind]at h
  obtain⟨Z1,g1,r1,q1⟩:=r.aD q e1
  split at h
  ·rename_i hn
   exact J8 (M:=M) r1 q1 hn (EPost.ext h g1)
  ·exact h.elim
theorem GB{T:List (String×String)}{n:String}(op:Bop)(F:p8 X.K C.cA T)(ho:PE X o (ai C fo))(hv:PE X v (ai C fv)):PS X (.AugAssign (.Attribute o (Str.ofString n) pos') op.py v pos) (cq C (jR T n op fo fv)):=by
 cases ha:Az op with
 | none=>
  refine fw ps_never fun D sv H ⟨Z,loc,s,r,q⟩=>?_
  unfold jR at q
  rw[ha]at q
  exact q.elim
 | some g=>
  have hp:InOp X op.py (ipI g):=by
   cases op<;> simp[Az]at ha
   ·subst ha;exact ip_add
   ·subst ha;exact ip_sub
  refine fw (ps_fldaug ho hv hp) fun D sv H ⟨Z,loc,s,r,q⟩=>?_
  unfold jR at q
  rw[ha]at q
  refine(ai.v3 r q).imp fun u H1 ⟨Z1,l1,s1,y,g1,r1,st1,q1,h1⟩=>?_
  split at h1
  ·rename_i c fs e2
   split at h1
   ·rename_i hT
    simp only[Bool.and_eq_true,decide_eq_true_eq]at hT
    split at h1
    ·rename_i a e3
     obtain⟨ad,rfl,_,dx,ws,hz,qf⟩:=r1.ob q1 e2
     obtain⟨f1,f2⟩:=F c n (by simpa using hT.1)
     obtain⟨w,l,qw⟩:=uR qf e3
     refine⟨ad,C.cA c,dx,ws,w,rfl,hz,f1,f2,l,(ai.v3 r1 h1).imp fun b H2 ⟨Z2,l2,s2,y2,g2,r2,st2,q2,h2⟩=>?_⟩
     have q1':=q1.mono (s':=s2) (H':=H2) g2 st1
     split at h2
     ·rename_i bi c' fs' e4 e5
      split at h2
      ·rename_i hc
       obtain⟨ad',h3,_,dx',ws',hz',qf'⟩:=r2.ob q1' e5
       cases h3
       refine⟨a,bi,qw,r2.dv q2 e4,dx',ws',?_,by rw[←CI qf'];exact hc.2,?_⟩
       ·rw[←hc.1];exact hz'
       ·have r5:=r2.write (o':=.ins c (sU n (.d (.int (g a bi))) fs')) (u:=.ins (C.cA c) dx' (putF (Str.ofString n) (.int (g a bi)) ws')) q1' e5 rfl (by simp) (fun x w z=>by rw[hz']at z;cases z) ⟨dx',_,upd_same,xt (x:=.d (.int (g a bi))) rfl qf'⟩
        exact bg.nx h2 r5
      ·exact h2.elim
     ·exact h2.elim
    ·exact h1.elim
   ·exact h1.elim
  ·exact h1.elim
end
end Vw
namespace Vw
open PySem L2 PyProof.Rows
section
variable{C:Cst}{X:Cx}{e a b c o v:Expr}{es:List Expr}{p p2 pos pos' apos pt:Pos}{f fa fb fc fo fi fv:State→Res RV}{fs:State→Res (List RV)}{cA:String→Addr}
theorem jU{k n:Nat}{fA:Addr}{fd:FuncData}{ps:List Str}{cl m:String}{g:Fn}{pl:Sem Bool}(hC:C.cA=cA)(M:Mode C X)(c:Cls X.K (cA cl))(hm:Meth X.K (cA cl) (Str.ofString m) fA)(F:FnOk X.prog X.w X.K X.mg X.base M.CX k fA fd ps (bz cA n g))(hr:Room k X.A)(hb:Binds X.K fd ps [])(hn:ps.length=n)(he:PE X o (ai C fo))(ha:PA X (e::es) (bS C fs))
  (hs:(e::es).all notStar=true)
  (ht:eval (.Call (.Attribute o (Str.ofString m) apos) (e::es) [] pos) X.env=(do
   let ov ←eval o X.env
   standAt apos.atName
   let (f,first) ←holding [ov] (getMethod ov (Str.ofString m) pl)
   callWith pos f first (backTo pos (starEach (e::es) X.env)) (backToKw pos (keywordEach [] X.env)))):
  PE X (.Call (.Attribute o (Str.ofString m) apos) (e::es) [] pos) (ai C (d6 M.call cl m n fo fs g)):=by
 subst hC hn
 exact Ju he c hm F hr hb ha hs ht
theorem tX{k n:Nat}{fA:Addr}{fd:FuncData}{ps:List Str}{cl m:String}{g:Fn}{pl:Sem Bool}(hC:C.cA=cA)(M:Mode C X)(c:Cls X.K (cA cl))(hm:Meth X.K (cA cl) (Str.ofString m) fA)(F:FnOk X.prog X.w X.K X.mg X.base M.CX k fA fd ps (bz cA n g))(hr:Room k X.A)(hb:Binds X.K fd ps [])(hn:ps.length=n)(he:PE X o (ai C fo))
  (ht:eval (.Call (.Attribute o (Str.ofString m) apos) [] [] pos) X.env=(do
   let ov ←eval o X.env
   standAt apos.atName
   let (f,first) ←holding [ov] (getMethod ov (Str.ofString m) pl)
   callWith pos f first (backTo pos (starEach [] X.env)) (backToKw pos (keywordEach [] X.env)))):
  PE X (.Call (.Attribute o (Str.ofString m) apos) [] [] pos) (ai C (d6 M.call cl m n fo (aj []) g)):=by
 subst hC hn
 exact Io he c hm F hr hb ht
theorem La{k n:Nat}{fA:Addr}{fd:FuncData}{ps:List Str}{cl:String}{g:Fn}(hC:C.cA=cA)(M:Mode C X)(Mk':Mk X.K (cA cl) fA)(F:FnOk X.prog X.w X.K X.mg X.base M.CX k fA fd ps (bz cA n g))(hr:Room (k+1) X.A)(hg:Gl X (Str.ofString cl))(hm:X.mg (Str.ofString cl)=some (.ref (cA cl)))(hb:Binds X.K fd ps [])(hn:ps.length=n)
  (ha:PA X (e::es) (bS C fs)) (hdb:((Str.ofString cl)==("__debug__":Str))=false) (hs:(e::es).all notStar=true):PE X (.Call (.Name (Str.ofString cl) p) (e::es) [] pos) (ai C (Ek M.call cl n fs g)):=by
 subst hC hn
 exact Le Mk' F hr hg hm hb ha hdb hs
theorem jc{T:List (String×String)}{n:String}(hC:C.cA=cA)(F:p8 X.K cA T)(he:PE X e (ai C f))(hb:attributeBase e (Str.ofString n) X.env (eval e X.env)=eval e X.env):PE X (.Attribute e (Str.ofString n) pos) (ai C (jf T n f)):=by
 subst hC
 exact JE F he hb
theorem BW{T:List (String×String)}{n:String}(hC:C.cA=cA)(F:p8 X.K cA T)(ho:PE X o (ai C fo))(hv:PE X v (ai C fv))(hc:g8 v=true):PS X (.Assign [.Attribute o (Str.ofString n) pos'] v pos) (cq C (xg T n fo fv)):=by
 subst hC
 exact Hm F ho hv hc
theorem n9{T:List (String×String)}{n:String}(hC:C.cA=cA)(F:p8 X.K cA T)(ho:PE X o (ai C fo))(hv:PE X v (ai C fv)):PS X (.AugAssign (.Attribute o (Str.ofString n) pos') .Add v pos) (cq C (jR T n .add fo fv)):=by
 subst hC
 exact GB .add F ho hv
theorem EZ{k n:Nat}{fA:Addr}{fd:FuncData}{ps:List Str}{x:Str}{g:Fn}(hC:C.cA=cA)(F:FnOk X.prog X.w X.K X.mg X.base (L2.CX X.prog X.w) k fA fd ps (bz cA n g))(hr:Room k X.A)(hg:Gl X x)(hm:X.mg x=some (.ref fA))(hk:PySem.W.keepIn X.K (.ref fA)=true)
  (hb:Binds X.K fd ps []) (hn:ps.length=n) (ha:PA X (e::es) (bS C fs)) (hdb:(x==("__debug__":Str))=false) (hs:(e::es).all notStar=true):
  PE X (.Call (.Name x p) (e::es) [] pos) (ai C (bR n fs g)):=by
 subst hC hn
 exact B6 F hr hg hm hk hb L2.passL ha hdb hs
end
abbrev BE:Type:=He.AlD×Bool
def mF(K:PySem.W.Frag)(x:String):Addr:=He.ga K (Str.ofString x)
def G5(K:PySem.W.Frag)(N:List String)(T:String):Bool:=N.all fun c=>match pZ N c T with
 | some b=>decide (PySem.W.exmOne K (.ref (mF K c)) (.ref (mF K T))=some b)
 | none=>true
theorem CL{N:List String}{c T:String}{b:Bool}(h:pZ N c T=some b):c∈N:=by
 unfold pZ at h
 split at h
 ·rename_i hc;simpa using hc
 ·cases h
theorem G3{K:PySem.W.Frag}{N:List String}{T:String}(h:G5 K N T=true):EM N K (mF K) T (.ref (mF K T)):=fun c b e=>by
 have:=List.all_eq_true.mp h c (CL e)
 rw[e]at this
 exact of_decide_eq_true this
def C5(K:PySem.W.Frag)(T:List (String×String)):Bool:=T.all fun p=>(He.Fa.cls (Str.ofString p.1)).ok K&&decide (PySem.W.findIn K (.ref (mF K p.1)) (Str.ofString p.2)=some none)
theorem FC{K:PySem.W.Frag}{T:List (String×String)}(h:C5 K T=true):p8 K (mF K) T:=fun c f hc=>by
 obtain⟨q1,q2⟩:=Bool.and_eq_true_iff.mp (List.all_eq_true.mp h (c,f) hc)
 have q3:=of_decide_eq_true q2
 exact⟨He.cls_ok q1,q3⟩
def CS(K:PySem.W.Frag)(C:Addr):Bool:=(match K.lookup C with
  | some ⟨.type "type",_,.cls cd,sl⟩=>(match cd.mro,sl.toList with
   | .ref C'::bm,[_,_,_,_,some (.builtin n),_]=>C'==C&&n=="ValueError.__new__"&& !cd.hasDel&&PySem.HandSPX.refsVE bm&&cd.hasDict
   | _,_=>false)
  | _=>false)&&(decide (PySem.W.findIn K (.ref C) "__setattr__"=some (some (.builtin "object.__setattr__")))&&(decide (PySem.W.subIn K (.ref C) (.type "BaseException")=some true)&&(decide (PySem.W.typeIn K (.ref C)=some (.type "type"))&&PySem.W.keepIn K (.ref C))))
theorem ER{K:PySem.W.Frag}{C:Addr}(h:CS K C=true):OexC K C:=by
 unfold CS at h
 obtain⟨h1,h⟩:=Bool.and_eq_true_iff.mp h
 obtain⟨h2,h⟩:=Bool.and_eq_true_iff.mp h
 obtain⟨h3,h⟩:=Bool.and_eq_true_iff.mp h
 obtain⟨h4,h5⟩:=Bool.and_eq_true_iff.mp h
 refine⟨?_,of_decide_eq_true h2,of_decide_eq_true h3,of_decide_eq_true h4,h5⟩
 split at h1
 ·rename_i dd cd sl ho
  split at h1
  ·rename_i C' bm k0 k1 k2 k3 n k5 hm hs
   simp only[Bool.and_eq_true,beq_iff_eq,Bool.not_eq_true']at h1
   obtain⟨⟨⟨⟨rfl,rfl⟩,hdel⟩,hv⟩,hd⟩:=h1
   obtain⟨nm,bs,mro,ns,qn,hdd,sn,sub,ab,col,del⟩:=cd
   dsimp only at hm hdel hd
   subst hm hdel hd
   have hsl:sl= #[k0,k1,k2,k3,some (.builtin "ValueError.__new__"),k5]:=by
    obtain⟨l⟩:=sl
    simp only at hs
    rw[hs]
   subst hsl
   exact⟨nm,qn,ns,bs,bm,sn,sub,ab,col,dd,k0,k1,k2,k3,k5,ho,hv⟩
  ·cases h1
 ·cases h1
def Kz(K:PySem.W.Frag)(x:String):Bool:=CS K (mF K x)&&(decide (PySem.W.findIn K (.ref (mF K x)) "place"=some none)&&(decide (PySem.W.findIn K (.ref (mF K x)) "__init__"=some (some (.ref (He.ma K (mF K x) "__init__"))))&&decide (PySem.W.typeIn K (.ref (He.ma K (mF K x) "__init__"))=some (.type "function"))))
def KH(K:PySem.W.Frag)(x:String):Bool:=(He.Fa.exc (Str.ofString x)).ok K
theorem Fq{K:PySem.W.Frag}{x:String}(h:KH K x=true):ExF K (mF K x):=by
 obtain⟨a,b,c,d⟩:=He.exc_ok h
 exact⟨a,b,c,d⟩
end Vw
namespace L2
open PySem PySem.Spec PyProof.Rows
end L2
namespace Vw
open PySem L2 PyProof.Rows
def KL(x y:RV)(s:State):Res RV:=
 match lv s x,dv s y with
 | some l,some (.int k)=>if-(2^63)≤k∧k<2^63∧l.length*k.toNat≤sizeLine then .ok (.new (.lst (List.replicate k.toNat l).flatten)) s else .stuck
 | _,_=>.stuck
def KQ(x y:RV)(s:State):Res RV:=
 match dv s x,dv s y with
 | some (.bl a),some (.bl b)=>aH (.bl (decide (a=b))) s
 | _,_=>.stuck
def Jk(x y:RV)(s:State):Res RV:=
 match dv s x,dv s y with
 | some (.bl a),some (.bl b)=>aH (.bl (!decide (a=b))) s
 | _,_=>.stuck
def IL(f:State→Res RV)(s:State):Res RV:=(ev f s).bind fun r s=>
 match dv s r with
 | some (.str t)=>if t.length≤sizeLine then aH (.str t.reverse) s else .stuck
 | _=>match lv s r with
  | some l=>.ok (.new (.lst l.reverse)) s
  | none=>.stuck
section
variable{C:Cst}{Z Z' Zc:Hp}{loc loc':List Addr}{s s':State}{sv sv':L2.St}{H H':Hp}
variable{X:Cx}{e a b c o v:Expr}{es:List Expr}{p p2 pos pos' apos pt:Pos}{f fa fb fc fo fi fv:State→Res RV}{fs:State→Res (List RV)}{cA:String→Addr}
theorem eK(hC:C.cA=cA){t:Tg}{tg it:Expr}{b:List Stmt}{sb:State→Res Fl}{src:State→Res (List Val)}(hp:PassesOwn (model X.prog X.w) X.A X.env X.xe)(hc:X.calm=true)(hi:PI X tg it (jC C src))
  (hg:∀ C':Cst,C'.cA=cA→C'.W=C.W→PG X tg (n3 C' t)) (hb:∀ C':Cst,C'.cA=cA→C'.W=C.W→PSs X b (cq C' sb)) (hs:cg it=true):PS X (.For tg it b [] pos) (cq C (de t src sb)):=
 II hp hc hi (fun C' h=>hg C' (h.ca.trans hC) h.w) (fun C' h=>hb C' (h.ca.trans hC) h.w) hs
theorem I5{N:List String}{T:String}{x:Str}{cv:Value}{body suite:List Stmt}{b₀:Stmt}{np:Pos}{f u:State→Res Fl}(hC:C.cA=cA)(hs:X.stack=X.env::X.outer)(hf:X.env.frame=some X.env.locals)(hc:Names X x cv)(em:EM N X.K cA T cv)(tk:Takes X C.W)
  (hb:∀ (C':Cst) (pn:List (Addr×Obj)) (xe:Value→Shared→Prop),C'.cA=cA→Takes (X.tr pn xe) C'.W→PassesOwn (model X.prog X.w) X.A X.env xe→PSs (X.tr pn xe) body (cq C' f))
  (hsu:∀ (a:Addr) (oe:Obj) (cls:Value) (d:Option Addr) (pn:List (Addr×Obj)),L2.Zc cls d oe→(∃ vs,oe.data=.fields vs)→PSs (X.suite a ((a,oe)::pn)) (b₀::suite) (cq C u)):
  PS X (.Try body [.ExceptHandler (some (.Name x np)) none (b₀::suite) pos'] [] [] pos) (cq C (rV N T f u)):=by
 subst hC
 exact J5 hs hf hc em tk hb hsu
theorem BB{b₀:Stmt}{suite:List Stmt}:PSs X (b₀::suite) (cq C (fun _=>.stuck)):=by
 refine⟨fun pins s sv H D I ⟨_,_,_,_,h⟩=>h.elim⟩
end
def DV:CXT:=fun outer H s E u s'=>∃ P w,L2.CX P w outer H s E u s'
theorem F8(H:Hp)(s:Shared)(e:Value)(s':Shared)(h:DV [] H s (fun _ _ _=>False) e s'):False:=by
 obtain⟨P,w,h⟩:=h
 obtain⟨_,_,_,_,_,_,_,_,_,_,_,_,z⟩:=h
 exact z.elim
theorem GO{P:Program}{w:World}{K:PySem.W.Frag}{mg:Str→Option Value}{base:Heap}{k:Nat}{f:Addr}{fd:FuncData}{ps:List Str}{sp:Sp}(F:FnOk P w K mg base (L2.CX P w) k f fd ps sp):FnOk P w K mg base DV k f fd ps sp:=
 ⟨F.len,fun A outer s H args us vs Q E hr e0 b r h=>codeAny_mono (F.run A outer s H args us vs Q E hr e0 b r h) fun r s' q=>by
  cases r with
  | error e=>exact⟨P,w,q⟩
  | ok fl=>cases fl<;> exact q⟩
end Vw
namespace Vw
open PySem L2
section
variable{C:Cst}{Z Z':Hp}{loc loc':List Addr}{s s':State}{sv sv':L2.St}{H H':Hp}
def nL(s:State)(x:RV):Option (List Val):=
 match x with
 | .new (.lst m)=>some m
 | _=>match ob s x with
  | some (.lst m)=>some m
  | _=>none
def uE(o:RV)(rs:List RV)(s:State):Res RV:=
 match rs with
 | [x]=>match nL s x,ob s o with
  | some m,some (.lst l)=>if l.length+m.length≤sizeLine then .ok (.val (.d .non)) (wr o (.lst (l++m)) s)else .stuck
  | _,_=>.stuck
 | _=>.stuck
def Lh(fo fe:State→Res RV)(s:State):Res RV:=(ev fo s).bind fun o s=>if eI s o then(fe s).bind fun x s=>uE o [x] s else .stuck
def uU(rs:List RV)(s:State):Res RV:=
 match rs with
 | [x]=>match dv s x with
  | some (.int i)=>aH (.int i) s
  | some (.bl k)=>aH (.int (if k then 1 else 0)) s
  | _=>.stuck
 | _=>.stuck
theorem uI:nC C uU (fun xs H Q=>(∃ i,xs=[.int i]∧Q (.int i) H)∨∃ k,xs=[.bl k]∧Q (.int (if k then 1 else 0)) H):=by
 intro Z loc s sv H rs vs Q r q h
 unfold uU at h
 split at h
 ·split at h
  ·rename_i i e
   obtain⟨v,rfl,rfl⟩:=zP r q e
   exact .inl ⟨i,rfl,h.aH r rfl⟩
  ·rename_i k e
   obtain⟨v,rfl,rfl⟩:=zP r q e
   exact .inr ⟨k,rfl,h.aH r rfl⟩
  ·exact h.elim
 ·exact h.elim
@[simp] theorem Kv(o x:RV)(s:State):uE o [x] s=(match nL s x,ob s o with
  | some m,some (.lst l)=>if l.length+m.length≤sizeLine then .ok (.val (.d .non)) (wr o (.lst (l++m)) s)else .stuck
  | _,_=>.stuck):=id rfl
@[simp] theorem Mi(fo fe:State→Res RV)(s:State):Lh fo fe s=(ev fo s).bind fun o s=>if eI s o then(fe s).bind fun x s=>uE o [x] s else .stuck:=id rfl
@[simp] theorem NK(m:List Val)(s:State):nL s (.new (.lst m))=some m:=id rfl
end
end Vw
namespace Vw
open PySem L2 PyProof.Rows
def jK(f:Val→Option D):List Val→Option (List D)
 | []=>some []
 | x::l=>match f x,jK f l with
  | some d,some ds=>some (d::ds)
  | _,_=>none
def Ao(f:Val→Option D):List (String×Val)→Option (List (String×D))
 | []=>some []
 | (k,x)::l=>match f x,Ao f l with
  | some d,some ds=>some ((k,d)::ds)
  | _,_=>none
def x4(f:Val→Option D):Ob→Option D
 | .lst l=>(jK f l).map .lst
 | .ins c fs=>(Ao f fs).map (.ins c)
 | _=>none
def frz:Nat→State→Val→Option D
 | 0,_,v=>match v with
  | .d x=>some x
  | _=>none
 | n+1,s,v=>match v with
  | .d x=>some x
  | .tp l=>(jK (frz n s) l).map .tup
  | .r m=>match s.st[m]? with
   | some o=>x4 (frz n s) o
   | none=>none
def td(n:Nat)(s:State)(r:RV):Option D:=
 match ib s r with
 | .val v=>frz n s v
 | .own i=>match s.sg[i]? with
  | some (some (.own o))=>x4 (frz n s) o
  | _=>none
 | _=>none
def kj(n:Nat)(s:State):List RV→Option (List D)
 | []=>some []
 | r::rs=>match td n s r,kj n s rs with
  | some d,some ds=>some (d::ds)
  | _,_=>none
def lW(m n:Nat)(fs:State→Res (List RV))(g:Fn)(s:State):Res RV:=(fs s).bind fun rs s=>match kj m s rs with
 | some ds=>if ds.length=n then(match g (ds.map .d) []with
  | .ok (.val (.d x)) _=>if scal x then .ok (.val (.d x)) s else .stuck
  | _=>.stuck)else .stuck
 | none=>.stuck
section
variable{C:Cst}{Z Z' Zc:Hp}{loc loc':List Addr}{s s':State}{sv sv':L2.St}{H H':Hp}
variable{X:Cx}{e a b c o:Expr}{es:List Expr}{p pos apos:Pos}{f fa fb fc fo fi fv:State→Res RV}
theorem GoodZ.add(g:GoodZ Z H Zc){a:Addr}{u:HO}(z:Z a=none)(h1:H a=some u)(h4:nh u=false):∃ Zd,Same Zc Zd∧GoodZ Z H Zd∧Zd a=some u:=by
 cases ez:Zc a with
 | none=>
  refine⟨upd Zc a u,bp ez,⟨g.up.trans (bp ez),fun b w hb=>?_⟩,upd_same⟩
  by_cases hba:b=a
  ·subst hba
   rw[upd_same]at hb
   cases hb
   exact .inr ⟨h1,h4⟩
  ·rw[upd_ne hba]at hb
   exact g.at_ b w hb
 | some w=>
  have hw:w=u:=by
   rcases g.at_ a w ez with q | ⟨q,_⟩
   ·rw[z]at q;cases q
   ·rw[h1]at q;cases q;rfl
  subst hw
  exact⟨Zc,Same.refl _,g,ez⟩
def Fz(C:Cst)(Z:Hp)(loc:List Addr)(H:Hp)(f:Val→Option D):Prop:=∀ (Zc:Hp) (x:Val) (v:V) (d:D),GoodZ Z H Zc→bh C.cA Z loc x v→f x=some d→∃ Zd,Same Zc Zd∧GoodZ Z H Zd∧aL C.cA Zd d v
theorem uS{f:Val→Option D}(hf:Fz C Z loc H f):∀ {Zc:Hp} {l:List Val} {vs:List V} {ds:List D},GoodZ Z H Zc→aB C.cA Z loc l vs→jK f l=some ds→∃ Zd,Same Zc Zd∧GoodZ Z H Zd∧br C.cA Zd ds vs
 | Zc,[],vs,ds,g,h,e=>by cases e;exact⟨Zc,Same.refl _,g,h⟩
 | Zc,x::l,vs,ds,g,⟨v,t,e1,q,h⟩,e=>by
  unfold jK at e
  split at e
  ·rename_i d ds' e2 e3
   cases e
   obtain⟨Z1,s1,g1,r1⟩:=hf Zc x v d g q e2
   obtain⟨Z2,s2,g2,r2⟩:=uS hf g1 h e3
   exact⟨Z2,s1.trans s2,g2,v,t,e1,aL.mono s2 d r1,r2⟩
  ·cases e
theorem zi{f:Val→Option D}(hf:Fz C Z loc H f):∀ {Zc:Hp} {l:List (String×Val)} {vs:List (Str×V)} {ds:List (String×D)},GoodZ Z H Zc→dE C.cA Z loc l vs→Ao f l=some ds→∃ Zd,Same Zc Zd∧GoodZ Z H Zd∧hM C.cA Zd ds vs
 | Zc,[],vs,ds,g,h,e=>by cases e;exact⟨Zc,Same.refl _,g,h⟩
 | Zc,(k,x)::l,vs,ds,g,⟨v,t,e1,q,h⟩,e=>by
  unfold Ao at e
  split at e
  ·rename_i d ds' e2 e3
   cases e
   obtain⟨Z1,s1,g1,r1⟩:=hf Zc x v d g q e2
   obtain⟨Z2,s2,g2,r2⟩:=zi hf g1 h e3
   exact⟨Z2,s1.trans s2,g2,v,t,e1,aL.mono s2 d r1,r2⟩
  ·cases e
theorem zG{f:Val→Option D}(hf:Fz C Z loc H f){o:Ob}{a:Addr}{d:D}(g:GoodZ Z H Zc)(cell:Cell C.cA Z loc H a o)(z:Z a=none)(e:x4 f o=some d):∃ Zd,Same Zc Zd∧GoodZ Z H Zd∧aL C.cA Zd d (.ref a):=by
 cases o with
 | lst l=>
  obtain⟨ds,e1,rfl⟩:=Option.map_eq_some_iff.mp e
  obtain⟨xs,h1,h2⟩:=cell
  obtain⟨Z1,s1,g1,r1⟩:=uS hf g h2 e1
  obtain⟨Z2,s2,g2,h3⟩:=g1.add z h1 rfl
  exact⟨Z2,s1.trans s2,g2,a,xs,rfl,.inl h3,br.mono s2 ds r1⟩
 | ins c fs=>
  obtain⟨ds,e1,rfl⟩:=Option.map_eq_some_iff.mp e
  obtain⟨dx,xs,h1,h2⟩:=cell
  obtain⟨Z1,s1,g1,r1⟩:=zi hf g h2 e1
  obtain⟨Z2,s2,g2,h3⟩:=g1.add z h1 rfl
  exact⟨Z2,s1.trans s2,g2,a,dx,xs,rfl,h3,hM.mono s2 ds r1⟩
 | dic k l=>cases e
 | dit k l=>cases e
 | gone=>cases e
theorem tS(r:SR C Z loc s sv H):∀ n:Nat,Fz C Z loc H (frz n s)
 | 0=>fun Zc x v d g q e=>by
  cases x with
  | d y=>cases e;exact⟨Zc,Same.refl _,g,aL.mono g.up _ q⟩
  | r m=>cases e
  | tp l=>cases e
 | n+1=>fun Zc x v d g q e=>by
  cases x with
  | d y=>cases e;exact⟨Zc,Same.refl _,g,aL.mono g.up _ q⟩
  | r m=>
   have e':(match s.st[m]? with
    | some o=>x4 (frz n s) o
    | none=>none)=some d:=e
   split at e'
   ·rename_i o h1
    obtain⟨a,h2,rfl⟩:=q
    have ne:o≠ .gone:=fun z=>by subst z;cases e'
    obtain⟨c1,c2⟩:=r.cl m a o h2 h1 ne
    exact zG (tS r n) g c1 c2 e'
   ·cases e'
  | tp l=>
   have e':(jK (frz n s) l).map D.tup=some d:=e
   obtain⟨ds,e1,rfl⟩:=Option.map_eq_some_iff.mp e'
   obtain⟨a,vs,rfl,h1,h2⟩:=q
   obtain⟨Z1,s1,g1,r1⟩:=uS (tS r n) g h2 e1
   exact⟨Z1,s1,g1,a,vs,rfl,g1.up _ _ h1,r1⟩
theorem SR.td(r:SR C Z loc s sv H)(n:Nat)(g:GoodZ Z H Zc){rv:RV}{v:V}{d:D}(h:aY C Z loc s sv H rv v)(e:Vw.td n s rv=some d):∃ Zd,Same Zc Zd∧GoodZ Z H Zd∧aL C.cA Zd d v:=by
 have q:=r.ib h
 unfold Vw.td at e
 split at e
 ·rename_i x e1
  rw[e1]at q
  exact tS r n Zc x v d g q e
 ·rename_i i e1
  rw[e1]at q
  split at e
  ·rename_i o e2
   obtain⟨a,h1,h2,h3,h4,_⟩:=r.ow i _ e2
   rw[show sv[i]? =some (some v)from q]at h1
   cases h1
   exact zG (tS r n) g h3 h4 e
  ·cases e
 ·cases e
theorem SR.kj(r:SR C Z loc s sv H)(n:Nat):∀ {Zc:Hp} {rs:List RV} {vs:List V} {ds:List D},GoodZ Z H Zc→fN C Z loc s sv H rs vs→Vw.kj n s rs=some ds→∃ Zd,Same Zc Zd∧GoodZ Z H Zd∧br C.cA Zd ds vs
 | Zc,[],vs,ds,g,h,e=>by cases e;exact⟨Zc,Same.refl _,g,h⟩
 | Zc,x::l,vs,ds,g,⟨v,t,e1,st,q,h⟩,e=>by
  unfold Vw.kj at e
  split at e
  ·rename_i d ds' e2 e3
   cases e
   obtain⟨Z1,s1,g1,r1⟩:=r.td n g q e2
   obtain⟨Z2,s2,g2,r2⟩:=SR.kj r n g1 h e3
   exact⟨Z2,s1.trans s2,g2,v,t,e1,aL.mono s2 d r1,r2⟩
  ·cases e
theorem CH{g:Fn}{m n:Nat}{rs:List RV}{ds:List D}{vs:List V}{Q:VK}(r:SR C Z loc s sv H)(q:fN C Z loc s sv H rs vs)(e:kj m s rs=some ds)(hn:ds.length=n)
  (h:EPost C Z loc sv (match g (ds.map .d) []with | .ok (.val (.d x)) _=>if scal x then .ok (.val (.d x)) s else .stuck | _=>.stuck) Q):bz C.cA n g vs H Q E0:=by
 obtain⟨Zc,_,gz,q1⟩:=r.kj m (GoodZ.refl) q e
 refine⟨dC H Zc [],C.H0,Zc,[],ds.map .d,[],r.look gz _,p7 q1,by simpa using hn,?_⟩
 split at h
 ·rename_i x s1 e1
  rw[e1]
  split at h
  ·rename_i p
   exact fun Z' l' H' v g r' q'=>h Z loc H' v (Ext.refl _ _) (r.looked gz g r') (xB (Z:=Z) p q')
  ·exact h.elim
 ·exact h.elim
theorem zy{m:Nat}{CX:CXT}{k n:Nat}{fA:Addr}{fd:FuncData}{ps:List Str}{x:Str}{g:Fn}{fs:State→Res (List RV)}{cA:String→Addr}(hC:C.cA=cA)(F:FnOk X.prog X.w X.K X.mg X.base CX k fA fd ps (bz cA n g))(hr:Room k X.A)(hg:Gl X x)(hm:X.mg x=some (.ref fA))(hk:PySem.W.keepIn X.K (.ref fA)=true)
  (hb:Binds X.K fd ps []) (hx:Passes CX X E0) (hn:ps.length=n) (ha:PA X (e::es) (bS C fs)) (hdb:(x==("__debug__":Str))=false) (hs:(e::es).all notStar=true):
  PE X (.Call (.Name x p) (e::es) [] pos) (ai C (lW m n fs g)):=by
 subst hn hC
 have hs':=hs
 simp only[List.all_cons,Bool.and_eq_true]at hs
 refine aQ (pe_call F hr hg hm hk hb .nil hx ha hdb (aX hs.1) (c5 hs.2)) fun sv H Q h=>(bS.at h).imp fun vs H1 ⟨Z,loc,s,xs,r,q,h⟩=>?_
 rw[List.append_nil]
 split at h
 ·rename_i ds e1
  split at h
  ·rename_i hn
   exact CH r q e1 hn h
  ·exact h.elim
 ·exact h.elim
end
end Vw
namespace Vw
open PySem L2 PyProof.Rows
end Vw
namespace Vw
open PySem L2 PyProof.Rows
def kW:List Val→Option (List D)
 | []=>some []
 | .d x::r=>(kW r).map (x:: ·)
 | _::_=>none
def vq(r:Res RV)(s:State):Res RV:=
 match r with
 | .ok (.val (.d x)) _=>.ok (.val (.d x)) s
 | .ok (.new o) _=>if o.toD.isSome then .ok (.new o) s else .stuck
 | .exc x _=>.exc x s
 | _=>.stuck
def uJ(r:Res RV)(s:State):Res RV:=
 match r with
 | .ok (.val (.d x)) _=>.ok (.val (.d x)) s
 | .ok (.new o) _=>if o.toD.isSome then .ok (.new o) s else .stuck
 | _=>.stuck
def sm(n:Nat)(fs:State→Res (List RV))(g:Fn)(s:State):Res RV:=(fs s).bind fun rs s=>(aD rs s).bind fun args s=>match kW args with
 | some ds=>if ds.length=n then uJ (g (ds.map .d) []) s else .stuck
 | none=>.stuck
def uh(n:Nat)(fs:State→Res (List RV))(g:Fn)(s:State):Res RV:=(fs s).bind fun rs s=>(aD rs s).bind fun args s=>match kW args with
 | some ds=>if ds.length=n then vq (g (ds.map .d) []) s else .stuck
 | none=>.stuck
theorem oE:∀ {l:List Val} {ds:List D},kW l=some ds→l=ds.map .d
 | [],ds,h=>by cases h;rfl
 | .d x::r,ds,h=>by
  obtain⟨t,e,rfl⟩:=Option.map_eq_some_iff.mp h
  rw[List.map_cons,←oE e]
 | .r n::r,ds,h=>by cases h
 | .tp l::r,ds,h=>by cases h
section
variable{C:Cst}{Z Z' Zc:Hp}{loc loc' l':List Addr}{s s':State}{sv sv':L2.St}{H H':Hp}
variable{X:Cx}{e a b c o:Expr}{es:List Expr}{p pos apos:Pos}{f fa fb fc fo fi fv:State→Res RV}
theorem vo{cA:String→Addr}:∀ {ds:List D} {vs:List V},aB cA Z loc (ds.map .d) vs→aB cA Z loc' (ds.map .d) vs
 | [],vs,h=>h
 | d::ds,vs,⟨v,t,e,q,h⟩=>⟨v,t,e,q,vo h⟩
theorem tN{cA:String→Addr}:∀ {l:List Val} {vs:List V} {ds:List D},toDs l=some ds→aB cA Z loc l vs→aB cA Z loc' l vs
 | [],vs,ds,e,h=>h
 | .d x::l,vs,ds,e,⟨v,t,e1,q,h⟩=>by
  obtain⟨t',e',_⟩:=Option.map_eq_some_iff.mp e
  exact⟨v,t,e1,q,tN e' h⟩
 | .r n::l,vs,ds,e,h=>by cases e
 | .tp m::l,vs,ds,e,h=>by cases e
theorem rE{cA:String→Addr}:∀ {l:List (K0×Val)} {vs:List (Key×V)} {ds:List (K0×D)},toDK l=some ds→cj cA Z loc l vs→cj cA Z loc' l vs
 | [],vs,ds,e,h=>h
 | (k,.d x)::l,vs,ds,e,⟨v,t,e1,q,h⟩=>by
  obtain⟨t',e',_⟩:=Option.map_eq_some_iff.mp e
  exact⟨v,t,e1,q,rE e' h⟩
 | (k,.r n)::l,vs,ds,e,h=>by cases e
 | (k,.tp m)::l,vs,ds,e,h=>by cases e
theorem rG{cA:String→Addr}:∀ {l:List (List K0×Val)} {vs:List (List Key×V)} {ds:List (List K0×D)},toDK l=some ds→cz cA Z loc l vs→cz cA Z loc' l vs
 | [],vs,ds,e,h=>h
 | (k,.d x)::l,vs,ds,e,⟨v,t,e1,q,h⟩=>by
  obtain⟨t',e',_⟩:=Option.map_eq_some_iff.mp e
  exact⟨v,t,e1,q,rG e' h⟩
 | (k,.r n)::l,vs,ds,e,h=>by cases e
 | (k,.tp m)::l,vs,ds,e,h=>by cases e
theorem rq{cA:String→Addr}:∀ {l:List (String×Val)} {vs:List (Str×V)} {ds:List (String×D)},toDK l=some ds→dE cA Z loc l vs→dE cA Z loc' l vs
 | [],vs,ds,e,h=>h
 | (k,.d x)::l,vs,ds,e,⟨v,t,e1,q,h⟩=>by
  obtain⟨t',e',_⟩:=Option.map_eq_some_iff.mp e
  exact⟨v,t,e1,q,rq e' h⟩
 | (k,.r n)::l,vs,ds,e,h=>by cases e
 | (k,.tp m)::l,vs,ds,e,h=>by cases e
theorem De{cA:String→Addr}{a:Addr}:∀ {o:Ob} {d:D},o.toD=some d→Cell cA Z loc H a o→Cell cA Z loc' H a o
 | .lst l,d,e,⟨xs,h,q⟩=>by
  obtain⟨ds,e1,_⟩:=Option.map_eq_some_iff.mp e
  exact⟨xs,h,tN e1 q⟩
 | .dic false l,d,e,⟨ws,h,q⟩=>by
  obtain⟨ds,e1,_⟩:=Option.map_eq_some_iff.mp e
  exact⟨ws,h,rE e1 q⟩
 | .dit false l,d,e,⟨ws,h,q⟩=>by
  obtain⟨ds,e1,_⟩:=Option.map_eq_some_iff.mp e
  exact⟨ws,h,rG e1 q⟩
 | .ins c l,d,e,⟨dx,ws,h,q⟩=>by
  obtain⟨ds,e1,_⟩:=Option.map_eq_some_iff.mp e
  exact⟨dx,ws,h,rq e1 q⟩
 | .dic true l,d,e,_=>by cases e
 | .dit true l,d,e,_=>by cases e
 | .gone,d,e,_=>by cases e
theorem SR.iG(r:SR C Z loc s sv H){E:XK}{st:List Ob}(g:Ext Z [] Z' l')(r':SR (da C.cA (dC H Z []) C.H0 E) Z' l' ⟨[],st⟩ [] H'):SR C Z' loc s sv H':=by
 have gz:Ext Z loc Z' loc:=⟨g.1,[],by simp⟩
 have z0:∀ {a:Addr} {u:HO},Z a=none→H a=some u→Z' a=none∧H' a=some u:=fun {a u} h1 h2=>by
  have f:=(lp (H:=H) (loc:=[]) h1 (by simp)).trans h2
  exact⟨(r'.jM (a:=a) f).1,r'.fr a u f⟩
 have ne:∀ {a:Addr},H a≠none→H' a≠none:=fun {a} h=>by
  cases eh:H a with
  | none=>exact absurd eh h
  | some u=>
   cases ez:Z a with
   | none=>rw[(z0 ez eh).2];simp
   | some w=>exact qE (r'.zh a w (g.1 a w ez))
 refine⟨fun a o h=>?_,r'.zh,fun a o h=>?_,r'.lk,r.ln,r.nd,fun a h=>⟨ne (r.lh a h).1,(r.lh a h).2⟩,fun n a o h1 h2 h3=>?_,fun i x h=>?_,fun i o h=>?_,r.oi,r.ls⟩
 ·exact(z0 (r.jM h).1 (r.fr a o h)).2
 ·cases e:C.Fr a with
  | none=>rfl
  | some u=>rw[(z0 (r.jM e).1 (r.fr a u e)).1]at h;cases h
 ·obtain⟨q1,q2⟩:=r.cl n a o h1 h2 h3
  cases eh:H a with
  | none=>exact absurd eh (gb h3 q1)
  | some u=>
   obtain⟨w1,w2⟩:=z0 q2 eh
   exact⟨(q1.at (w2.trans eh.symm)).mono gz (Same.refl _),w1⟩
 ·obtain⟨v,q1,q2⟩:=r.vl i x h
  exact⟨v,q1,bh.mono gz x q2⟩
 ·obtain⟨a,q1,q2,q3,q4,q5,q6⟩:=r.ow i o h
  cases eh:H a with
  | none=>exact absurd eh (gb q2 q3)
  | some u=>
   obtain⟨w1,w2⟩:=z0 q4 eh
   exact⟨a,q1,q2,(q3.at (w2.trans eh.symm)).mono gz (Same.refl _),w1,q5,q6⟩
theorem aY.iG(r:SR C Z loc s sv H){E:XK}{st:List Ob}(g:Ext Z [] Z' l')(r':SR (da C.cA (dC H Z []) C.H0 E) Z' l' ⟨[],st⟩ [] H'){o:Ob}{v:V}(ho:o.toD.isSome=true)(q:aY (da C.cA (dC H Z []) C.H0 E) Z' l' ⟨[],st⟩ [] H' (.new o) v):aY C Z' loc s sv H' (.new o) v:=by
 obtain⟨a,h1,h2,h3,h4⟩:=q
 obtain⟨d,hd⟩:=Option.isSome_iff_exists.mp ho
 have za:Z a=none:=by
  cases e:Z a with
  | none=>rfl
  | some w=>have:=g.1 a w e;rw[h4.z]at this;cases this
 have ha:H a=none:=by
  have:=h4.f
  exact(lp (H:=H) (loc:=[]) za (by simp)).symm.trans this
 refine⟨a,h1,h2,De hd h3,h4.z,?_,fun z=>(r.lh a z).1 ha,fun i o h e=>?_⟩
 ·cases e:C.Fr a with
  | none=>rfl
  | some u=>have:=r.fr a u e;rw[ha]at this;cases this
 ·obtain⟨b,q1,q2,q3,q4,q5,q6⟩:=r.ow i o h
  rw[e]at q1
  cases q1
  exact gb q2 q3 ha
theorem SR.Ib(r:SR C Z loc s sv H)(E:XK):SR (da C.cA (dC H Z []) C.H0 E) Z [] ⟨[],[]⟩ [] H:=r.look GoodZ.refl E
theorem HE{g:Fn}{n:Nat}{ds:List D}{vs:List V}{Q:VK}(r:SR C Z loc s sv H)(q:aB C.cA Z loc (ds.map .d) vs)(hn:ds.length=n)(h:EPost C Z loc sv (uJ (g (ds.map .d) []) s) Q):bz C.cA n g vs H Q E0:=by
 refine⟨dC H Z [],C.H0,Z,[],ds.map .d,[],r.Ib _,vo q,by simpa using hn,?_⟩
 unfold uJ at h
 cases e:g (ds.map .d) []with
 | stuck=>rw[e]at h;exact h
 | exc x s1=>rw[e]at h;exact h.elim
 | ok rv s1=>
  rw[e]at h
  cases rv with
  | own i=>exact h.elim
  | val x=>
   cases x with
   | d x=>exact fun Z' l' H' v g r' q'=>h Z' loc H' v ⟨g.1,[],by simp⟩ (r.iG g r') q'
   | r n=>exact h.elim
   | tp l=>exact h.elim
  | new o=>
   dsimp only at h
   split at h
   ·rename_i ho
    exact fun Z' l' H' v g r' q'=>h Z' loc H' v ⟨g.1,[],by simp⟩ (r.iG g r') (aY.iG r g r' ho q')
   ·exact h.elim
theorem FD{g:Fn}{n:Nat}{ds:List D}{vs:List V}{Q:VK}(r:SR C Z loc s sv H)(q:aB C.cA Z loc (ds.map .d) vs)(hn:ds.length=n)(h:EPost C Z loc sv (vq (g (ds.map .d) []) s) Q):bz C.cA n g vs H Q (WE C.W sv):=by
 refine⟨dC H Z [],C.H0,Z,[],ds.map .d,[],r.Ib _,vo q,by simpa using hn,?_⟩
 unfold vq at h
 cases e:g (ds.map .d) []with
 | stuck=>rw[e]at h;exact h
 | exc x s1=>
  rw[e]at h
  exact fun Z' l' H' c d g r' q'=>h Z' loc H' c d ⟨g.1,[],by simp⟩ (r.iG g r') q'
 | ok rv s1=>
  rw[e]at h
  cases rv with
  | own i=>exact h.elim
  | val x=>
   cases x with
   | d x=>exact fun Z' l' H' v g r' q'=>h Z' loc H' v ⟨g.1,[],by simp⟩ (r.iG g r') q'
   | r n=>exact h.elim
   | tp l=>exact h.elim
  | new o=>
   dsimp only at h
   split at h
   ·rename_i ho
    exact fun Z' l' H' v g r' q'=>h Z' loc H' v ⟨g.1,[],by simp⟩ (r.iG g r') (aY.iG r g r' ho q')
   ·exact h.elim
theorem Aw{CX:CXT}{k n:Nat}{fA:Addr}{fd:FuncData}{ps:List Str}{x:Str}{g:Fn}{fs:State→Res (List RV)}{cA:String→Addr}(hC:C.cA=cA)(F:FnOk X.prog X.w X.K X.mg X.base CX k fA fd ps (bz cA n g))(hr:Room k X.A)(hg:Gl X x)(hm:X.mg x=some (.ref fA))(hk:PySem.W.keepIn X.K (.ref fA)=true)
  (hb:Binds X.K fd ps []) (hx:Passes CX X E0) (hn:ps.length=n) (ha:PA X (e::es) (bS C fs)) (hdb:(x==("__debug__":Str))=false) (hs:(e::es).all notStar=true):
  PE X (.Call (.Name x p) (e::es) [] pos) (ai C (sm n fs g)):=by
 subst hn hC
 have hs':=hs
 simp only[List.all_cons,Bool.and_eq_true]at hs
 refine aQ (pe_call F hr hg hm hk hb .nil hx ha hdb (aX hs.1) (c5 hs.2)) fun sv H Q h=>(bS.at h).imp fun vs H1 ⟨Z,loc,s,xs,r,q,h⟩=>?_
 rw[List.append_nil]
 cases e1:aD xs s with
 | stuck=>rw[e1]at h;exact h.elim
 | exc x s1=>exact absurd e1 dJ
 | ok args s1=>
  rw[e1]at h
  simp only[Res.bind]at h
  obtain⟨Z1,g1,r1,q1⟩:=r.aD q e1
  split at h
  ·rename_i ds e2
   split at h
   ·rename_i hn
    exact HE r1 (oE e2▸q1) hn (EPost.ext h g1)
   ·exact h.elim
  ·exact h.elim
theorem Cy{k n:Nat}{fA:Addr}{fd:FuncData}{ps:List Str}{x:Str}{g:Fn}{fs:State→Res (List RV)}{cA:String→Addr}(hC:C.cA=cA)(tk:Takes X C.W)(F:FnOk X.prog X.w X.K X.mg X.base (L2.CX X.prog X.w) k fA fd ps (bz cA n g))(hr:Room k X.A)(hg:Gl X x)(hm:X.mg x=some (.ref fA))(hk:PySem.W.keepIn X.K (.ref fA)=true)
  (hb:Binds X.K fd ps []) (hn:ps.length=n) (ha:PA X (e::es) (bS C fs)) (hdb:(x==("__debug__":Str))=false) (hs:(e::es).all notStar=true):
  PE X (.Call (.Name x p) (e::es) [] pos) (ai C (uh n fs g)):=by
 subst hn hC
 have hs':=hs
 simp only[List.all_cons,Bool.and_eq_true]at hs
 refine aQ (pe_callS F hr hg hm hk hb (fun σ=>passAt tk σ) ha hdb (aX hs.1) (c5 hs.2)) fun sv H Q h=>(bS.at h).imp fun vs H1 ⟨Z,loc,s,xs,r,q,h⟩=>?_
 cases e1:aD xs s with
 | stuck=>rw[e1]at h;exact h.elim
 | exc x s1=>exact absurd e1 dJ
 | ok args s1=>
  rw[e1]at h
  simp only[Res.bind]at h
  obtain⟨Z1,g1,r1,q1⟩:=r.aD q e1
  split at h
  ·rename_i ds e2
   split at h
   ·rename_i hn
    exact FD r1 (oE e2▸q1) hn (EPost.ext h g1)
   ·exact h.elim
  ·exact h.elim
def Kt(i:Nat)(s:State):State:=match jb i s with
 | .ok _ s'=>s'
 | _=>s
theorem SR.fz(r:SR C Z loc s sv H)(i:Nat):∃ Z',Ext Z loc Z' loc∧SR C Z' loc (Kt i s) sv H:=by
 unfold Kt
 cases e:Vw.jb i s with
 | exc x s1=>exact⟨Z,Ext.refl _ _,r⟩
 | stuck=>exact⟨Z,Ext.refl _ _,r⟩
 | ok x s1=>
  have e':=e
  unfold Vw.jb at e'
  split at e'
  ·rename_i o ho
   obtain⟨a,h1,_⟩:=r.ow i o ho
   obtain⟨Z',g,r',_⟩:=r.jb h1 e
   exact⟨Z',g,r'⟩
  ·rename_i x' hx
   cases e'
   exact⟨Z,Ext.refl _ _,r⟩
  ·cases e'
end
end Vw
namespace Vw
open PySem L2 PyProof.Rows
def Ba(s:State):Res RV:=.ok (.new (.dic false [])) s
def iK(a b:List Nat):Bool:= !hX b a
def jS(l:List (List Nat)):List (List Nat):=l.mergeSort iK
def uX:List (K0×Val)→Option (List (List Nat))
 | []=>some []
 | (.s n,_)::r=>(uX r).map (n:: ·)
 | _::_=>none
def qG(rs:List RV)(s:State):Res RV:=
 match rs with
 | [x]=>match (kN s x).bind uX with
  | some ns=>if ns.length<64 then .ok (.new (.lst ((jS ns).map fun n=>.d (.str n)))) s else .stuck
  | none=>.stuck
 | _=>.stuck
section
variable{C:Cst}{Z Z' Zc:Hp}{loc loc' l':List Addr}{s s':State}{sv sv':L2.St}{H H':Hp}
variable{X:Cx}{e a b c o:Expr}{es:List Expr}{p pos apos cpos:Pos}{f fa fb fc fo fi fv fk fd:State→Res RV}
theorem Iq:PE X (.Dict [] [] pos) (ai C Ba):=aQ pe_dnewK fun sv H Q ⟨Z,loc,s,r,h⟩=>fun p hp=>by
 have h:EPost C Z loc sv (.ok (.new (.dic false [])) s) Q:=h
 exact h.new r hp (by simp) ⟨[],upd_same,rfl⟩
theorem wa(a b c:List Nat):iK a b=true→iK b c=true→iK a c=true:=by
 unfold iK hX
 simp only[Bool.not_eq_true',decide_eq_false_iff_not,List.not_lt]
 exact fun h h2=>List.le_trans h h2
theorem BG(a b:List Nat):(iK a b||iK b a)=true:=by
 unfold iK hX
 simp only[Bool.or_eq_true,Bool.not_eq_true',decide_eq_false_iff_not,List.not_lt]
 exact List.le_total a b
theorem yl{a b:List Nat}(h:iK a b=true)(h2:iK b a=true):a=b:=by
 unfold iK hX at h h2
 simp only[Bool.not_eq_true',decide_eq_false_iff_not,List.not_lt]at h h2
 exact List.le_antisymm h h2
theorem y0(l:List (List Nat)):(jS l).Pairwise fun a b=>iK a b=true:=List.pairwise_mergeSort wa BG l
theorem kY(l:List (List Nat)):(jS l).Perm l:=List.mergeSort_perm l iK
theorem CW{l m:List (List Nat)}(h:m.Perm l)(h2:m.Pairwise fun a b=>iK a b=true):m=jS l:=
 List.Perm.eq_of_pairwise (fun a b _ _ h1 h2=>yl h1 h2) h2 (y0 l) (h.trans (kY l).symm)
def rH(t:List Nat):Str:=⟨t.toArray⟩
theorem wd:∀ (ys:List Str) (x:Str),risingS x ys=true→(x::ys).Pairwise fun a b=>iK a.cps.toList b.cps.toList=true
 | [],x,h=>List.pairwise_singleton _ _
 | y::ys,x,h=>by
  unfold risingS at h
  obtain⟨h1,h2⟩:=Bool.and_eq_true_iff.mp h
  have ih:=wd ys y h2
  have hxy:iK x.cps.toList y.cps.toList=true:=by
   unfold iK hX
   rw[ltCps_eq]at h1
   exact h1
  refine List.pairwise_cons.mpr ⟨fun z hz=>?_,ih⟩
  rcases List.mem_cons.mp hz with rfl | hz
  ·exact hxy
  ·exact wa _ _ _ hxy ((List.pairwise_cons.mp ih).1 z hz)
theorem AH{ys:List Str}(h:sortedS ys=true):ys.Pairwise fun a b=>iK a.cps.toList b.cps.toList=true:=by
 cases ys with
 | nil=>exact List.Pairwise.nil
 | cons x r=>exact wd r x h
theorem sorted_strs{ts:List (List Nat)}{ys:List Str}(hp:ys.Perm (ts.map rH))(h:sortedS ys=true):ys=(jS ts).map rH:=by
 have e:ys=(ys.map fun y=>y.cps.toList).map rH:=by
  rw[List.map_map]
  have:(rH∘fun(y:Str)=>y.cps.toList)=id:=funext fun y=>by cases y;rfl
  rw[this,List.map_id]
 have e2:ys.map (fun y=>y.cps.toList)=jS ts:=by
  refine CW ?_ ?_
  ·have:=hp.map fun(y:Str)=>y.cps.toList
   rw[List.map_map]at this
   have i:((fun(y:Str)=>y.cps.toList)∘rH)=id:=funext fun y=>by simp[rH]
   rw[i,List.map_id]at this
   exact this
  ·rw[List.pairwise_map]
   exact AH h
 rw[e,e2]
theorem tQ:∀ (ts:List (List Nat)),aB C.cA Z loc (ts.map fun t=>.d (.str t)) ((ts.map rH).map V.str)
 | []=>rfl
 | t::ts=>⟨.str (rH t),_,rfl,rfl,tQ ts⟩
theorem zI:∀ {l:List (K0×Val)} {ns:List (List Nat)} {ws:List (Key×V)},uX l=some ns→cj C.cA Z loc l ws→ws.map (·.1)=(ns.map rH).map Sum.inr
 | [],ns,ws,e,h=>by cases e;rw[show ws=_ from h];rfl
 | (.s n,x)::l,ns,ws,e,⟨v,t,e1,q,h⟩=>by
  obtain⟨ns',e2,rfl⟩:=Option.map_eq_some_iff.mp e
  rw[e1,List.map_cons,zI e2 h];rfl
 | (.i n,x)::l,ns,ws,e,h=>by cases e
theorem AF:nC C qG (fun xs H Q=>∃ (a:Addr) (kvs:List (Key×V)) (ks:List Str),xs=[.ref a]∧Rd H a (.dK kvs)∧kvs.map (·.1)=ks.map Sum.inr∧ks.length<64∧∀ ys p,ys.Perm ks→sortedS ys=true→H p=none→Q (.ref p) (upd H p (.lst (ys.map V.str)))):=by
 intro Z loc s sv H rs vs Q r q h
 unfold qG at h
 split at h
 ·obtain⟨v,t,rfl,st,q1,q2⟩:=q
  cases q2
  split at h
  ·rename_i ns e
   split at h
   ·rename_i hl
    obtain⟨l,e1,e2⟩:=Option.bind_eq_some_iff.mp e
    obtain⟨a,ws,rfl,h1,h2⟩:=r.kN q1 e1
    refine⟨a,ws,ns.map rH,rfl,h1,zI e2 h2,by simpa using hl,fun ys p h3 h4 np=>?_⟩
    rw[sorted_strs h3 h4]
    exact h.new r np (by simp) ⟨_,upd_same,tQ _⟩
   ·exact h.elim
  ·exact h.elim
 ·exact h.elim
end
end Vw
namespace Vw
open PySem L2 PyProof.Rows
end Vw
namespace L2
open PySem PySem.Spec PyProof.Rows
end L2
namespace Vw
open PySem L2 PyProof.Rows
end Vw
namespace Vw
open PySem L2 PyProof.Rows
def Ep:HO→Prop
 | .frz _ _=>False
 | _=>True
structure GoodY (Z H:Hp) (L:Addr→Prop) (Zc:Hp):Prop where
 up:Same Z Zc
 at_:∀ (a:Addr) (o:HO),Zc a=some o→Z a=some o∨(Z a=none∧Rz H a o∧L a∧Ep o)
section
variable{C:Cst}{Z Z' Zc Zd:Hp}{loc loc' l':List Addr}{L:Addr→Prop}{s s':State}{sv sv':L2.St}{H H':Hp}
variable{X:Cx}{e a b c o:Expr}{es:List Expr}{p pos apos:Pos}{f fa fb fc fo fi fv:State→Res RV}
theorem GoodY.refl:GoodY Z H L Z:=⟨Same.refl _,fun a o h=>.inl h⟩
theorem Hk{a:Addr}{u w:HO}(h1:Rz H a u)(h2:Rz H a w)(n1:Ep u)(n2:Ep w):w=u:=by
 rcases h1 with h1 | ⟨_,o1,h1⟩
 ·rcases h2 with h2 | ⟨_,o2,h2⟩
  ·rw[h1]at h2;cases h2;rfl
  ·rw[h1]at h2;cases h2;exact n1.elim
 ·rcases h2 with h2 | ⟨_,o2,h2⟩
  ·rw[h1]at h2;cases h2;exact n2.elim
  ·rw[h1]at h2;cases h2;rfl
theorem GoodY.add(g:GoodY Z H L Zc){a:Addr}{u:HO}(z:Z a=none)(h1:Rz H a u)(hl:L a)(hn:Ep u):∃ Zd,Same Zc Zd∧GoodY Z H L Zd∧Zd a=some u:=by
 cases ez:Zc a with
 | none=>
  refine⟨upd Zc a u,bp ez,⟨g.up.trans (bp ez),fun b w hb=>?_⟩,upd_same⟩
  by_cases hba:b=a
  ·subst hba
   rw[upd_same]at hb
   cases hb
   exact .inr ⟨z,h1,hl,hn⟩
  ·rw[upd_ne hba]at hb
   exact g.at_ b w hb
 | some w=>
  have hw:w=u:=by
   rcases g.at_ a w ez with q | ⟨_,q,_,n⟩
   ·rw[z]at q;cases q
   ·exact Hk h1 q hn n
  subst hw
  exact⟨Zc,Same.refl _,g,ez⟩
theorem SR.Ja(r:SR C Z loc s sv H)(k:Same Z Zd)(hn:∀ a u,Zd a=some u→Z a=some u∨(Rz H a u∧C.Fr a=none∧a∉loc∧∀ (i:Nat) (o:Ob),s.sg[i]? =some (some (.own o))→sv[i]? ≠some (some (.ref a)))):SR C Zd loc s sv H:=by
 have g:Ext Z loc Zd loc:=⟨k,[],by simp⟩
 refine⟨r.fr,fun a o h=>(hn a o h).elim (r.zh a o) fun q=>q.1,fun a o h=>(hn a o h).elim (r.zf a o) fun q=>q.2.1,r.lk,r.ln,r.nd,r.lh,fun n a o h1 h2 h3=>?_,fun i x h=>?_,fun i o h=>?_,r.oi,r.ls⟩
 ·obtain⟨q1,q2⟩:=r.cl n a o h1 h2 h3
  refine⟨q1.mono g (Same.refl _),?_⟩
  cases e:Zd a with
  | none=>rfl
  | some u=>
   rcases hn a u e with q | ⟨_,_,q,_⟩
   ·rw[q2]at q;cases q
   ·exact absurd (List.mem_of_getElem? h1) q
 ·obtain⟨v,q1,q2⟩:=r.vl i x h
  exact⟨v,q1,bh.mono g x q2⟩
 ·obtain⟨a,q1,q2,q3,q4,q5,q6⟩:=r.ow i o h
  refine⟨a,q1,q2,q3.mono g (Same.refl _),?_,q5,q6⟩
  cases e:Zd a with
  | none=>rfl
  | some u=>
   rcases hn a u e with q | ⟨_,_,_,q⟩
   ·rw[q4]at q;cases q
   ·exact absurd q1 (q i o h)
end
end Vw
namespace SrtO
open PySem PyProof.Rows Srt
section
variable{prog:Program}{w:World}{A:Around}{E:Value→Shared→Prop}{s:Shared}
def C3(h:Heap)(v:Value)(x:Int):Prop:=∃ a o t u n,v=.ref a∧h.get? a=some o∧o.cls=.type "tuple"∧o.data=.seq #[.int x t,u] n
theorem C3.keeps{h h':Heap}{v:Value}{x:Int}(p:C3 h v x)(k:∀ b o,h.get? b=some o→o.cls=.type "tuple"→h'.get? b=some o):C3 h' v x:=by
 obtain⟨a,o,t,u,n,e,ho,hc,hd⟩:=p
 exact⟨a,o,t,u,n,e,k _ _ ho hc,hc,hd⟩
end
end SrtO
namespace L2
open PySem PySem.Spec PyProof.Rows
end L2
namespace Vw
open PySem L2 PyProof.Rows
end Vw
namespace Vw
open PySem L2 PyProof.Rows
end Vw
namespace L2
open PySem PySem.Spec PyProof.Rows
end L2
namespace Vw
open PySem L2 PyProof.Rows
end Vw
namespace Vw
open PySem L2 PyProof.Rows
def Ak(ex:PySem.W.Frag→Bool)(as:List Addr)(fa:List He.Fa)(fn:List He.DefD)(g:Addr→Option Obj):BE:=(He.obsD fa fn (He.frG g as),qD (He.frG g as)&&ex (He.frG g as))
def DW(ex:PySem.W.Frag→Bool)(as:List Addr)(fa:List He.Fa)(fn:List He.DefD):PySem.W.Hook where
 α:=BE
 obs:=fun s=>Ak ex as fa fn s.heap.get?
 val:=fun _=>(He.valD fn,true)
 says:=fun _ h=>∃ K:PySem.W.Frag,K.In h∧He.SaysD fa fn K∧qD K=true∧ex K=true
 of:=fun _ _ e=>⟨_,He.frG_in,congrArg (fun z:BE=>z.1) e,Bool.and_eq_true_iff.mp (congrArg (fun z:BE=>z.2) e)⟩
 keeps:=fun _ _ _ ⟨K,hK,c⟩ k=>⟨K,PySem.W.Frag.In.keeps hK k,c⟩
theorem F0{ex:PySem.W.Frag→Bool}{as:List Addr}{fa:List He.Fa}{fn:List He.DefD}{g:Addr→Option Obj}{s:Shared}(h:∀ a,g a=s.heap.get? a):Ak ex as fa fn g=(DW ex as fa fn).obs s:=by
 have e:g=s.heap.get? :=funext h
 rw[e]<;> rfl
theorem ou{α β γ:Type}{e:Option α}{f:α→β}{g:α→γ}{b:β}{c:γ}(h1:e.map f=some b)(h2:e.map g=some c):e.map (fun s=>(f s,g s))=some (b,c):=by
 cases e with
 | none=>cases h1
 | some s=>rw[Option.map_some]at *;cases h1;cases h2;rfl
theorem u5{α:Type}{e:Option α}{f g:α→Bool}(h1:e.map f=some true)(h2:e.map g=some true):e.map (fun s=>f s&&g s)=some true:=by
 cases e with
 | none=>cases h1
 | some s=>rw[Option.map_some]at *;rw[Option.some.inj h1,Option.some.inj h2];rfl
theorem Dl{α:Type}{e:Option α}{ex:PySem.W.Frag→Bool}{as:List Addr}{fa:List He.Fa}{fn:List He.DefD}{g:α→Addr→Option Obj}(h1:e.map (fun s=>fa.all fun f=>f.ok (He.frG (g s) as))=some true)(h2:e.map (fun s=>fn.all fun d=>d.ok (He.frG (g s) as))=some true)
  (h3:e.map (fun s=>fn.map fun d=>He.fnW (He.frG (g s) as) d.at_)=some (fn.map He.DefD.val)) (h4:e.map (fun s=>qD (He.frG (g s) as))=some true) (h5:e.map (fun s=>ex (He.frG (g s) as))=some true):e.map (fun s=>Ak ex as fa fn (g s))=some (He.valD fn,true):=
 ou (ou (u5 h1 h2) h3) (u5 h4 h5)
end Vw
namespace K33
open PySem L2 PyProof.Rows Vw
def top(i:Nat):Stmt:=PySem.Challenge.pw_findcourt_k33_deeds_written.main.body.getD i (.Pass ⟨0,0,0,0⟩)
def FU(s:Stmt):List Stmt:=match s with
 | .ClassDef _ _ _ b _ _ _ _ _ _ _=>b
 | _=>[]
def dz(i j:Nat):Stmt:=(FU (top i)).getD j (.Pass ⟨0,0,0,0⟩)
def DT:List String:=["FindError","NoField","NoLine"]
def fT:List (String×String):=[("FieldReader","line"),("FieldReader","at")]
def oS:He.DefD:=⟨("_law_draws",none),"_law_draws","_law_draws",defArgs (top 19),defBody (top 19),defScope (top 19),[],[]⟩
def rM:He.DefD:=⟨("_law_pop",none),"_law_pop","_law_pop",defArgs (top 20),defBody (top 20),defScope (top 20),[],[]⟩
def oQ:He.DefD:=⟨("_law_names",none),"_law_names","_law_names",defArgs (top 22),defBody (top 22),defScope (top 22),[],[]⟩
def qi:He.DefD:=⟨("_law_text",none),"_law_text","_law_text",defArgs (top 23),defBody (top 23),defScope (top 23),[],[]⟩
def lR:He.DefD:=⟨("_law_document",none),"_law_document","_law_document",defArgs (top 24),defBody (top 24),defScope (top 24),[],[]⟩
def nU:He.DefD:=⟨("_law_number",none),"_law_number","_law_number",defArgs (top 25),defBody (top 25),defScope (top 25),[],[]⟩
def pU:He.DefD:=⟨("_law_deed",none),"_law_deed","_law_deed",defArgs (top 26),defBody (top 26),defScope (top 26),[],[]⟩
def o9:He.DefD:=⟨("_law_copy",none),"_law_copy","_law_copy",defArgs (top 28),defBody (top 28),defScope (top 28),[],[]⟩
def pO:He.DefD:=⟨("_law_line",none),"_law_line","_law_line",defArgs (top 27),defBody (top 27),defScope (top 27),[],[]⟩
def oU:He.DefD:=⟨("show_field",none),"show_field","show_field",defArgs (top 10),defBody (top 10),defScope (top 10),[],[]⟩
def mm:He.DefD:=⟨("show_document",none),"show_document","show_document",defArgs (top 11),defBody (top 11),defScope (top 11),[],[]⟩
def qh:He.DefD:=⟨("show_deed",none),"show_deed","show_deed",defArgs (top 12),defBody (top 12),defScope (top 12),[],[]⟩
def gY:He.DefD:=⟨("FieldReader",some "__init__"),"__init__","FieldReader.__init__",defArgs (dz 15 0),defBody (dz 15 0),defScope (dz 15 0),[],[]⟩
def gG:He.DefD:=⟨("FieldReader",some "next_name"),"next_name","FieldReader.next_name",defArgs (dz 15 3),defBody (dz 15 3),defScope (dz 15 3),[],[]⟩
def zo:He.DefD:=⟨("sure",none),"sure","sure",defArgs (top 13),defBody (top 13),defScope (top 13),[],[]⟩
def iJ:He.DefD:=⟨("FieldReader",some "ahead"),"ahead","FieldReader.ahead",defArgs (dz 15 1),defBody (dz 15 1),defScope (dz 15 1),[],[]⟩
def ju:He.DefD:=⟨("FieldReader",some "eat"),"eat","FieldReader.eat",defArgs (dz 15 2),defBody (dz 15 2),defScope (dz 15 2),[],[]⟩
def gF:He.DefD:=⟨("FieldReader",some "next_text"),"next_text","FieldReader.next_text",defArgs (dz 15 4),defBody (dz 15 4),defScope (dz 15 4),[],[]⟩
def fV:He.DefD:=⟨("FieldReader",some "next_field"),"next_field","FieldReader.next_field",defArgs (dz 15 5),defBody (dz 15 5),defScope (dz 15 5),[],[]⟩
def um:He.DefD:=⟨("is_name",none),"is_name","is_name",defArgs (top 7),defBody (top 7),defScope (top 7),[],[]⟩
def jt:He.DefD:=⟨("look_at_document",none),"look_at_document","look_at_document",defArgs (top 8),defBody (top 8),defScope (top 8),[],[]⟩
def lO:He.DefD:=⟨("read_document",none),"read_document","read_document",defArgs (top 16),defBody (top 16),defScope (top 16),[],[]⟩
def pC:He.DefD:=⟨("number_of",none),"number_of","number_of",defArgs (top 14),defBody (top 14),defScope (top 14),[],[]⟩
def pG:He.DefD:=⟨("read_deed",none),"read_deed","read_deed",defArgs (top 17),defBody (top 17),defScope (top 17),[],[]⟩
def oV:He.DefD:=⟨("_law_alike",none),"_law_alike","_law_alike",defArgs (top 21),defBody (top 21),defScope (top 21),[],[]⟩
def B3:He.DefD:=⟨("law",none),"law","law",defArgs (top 29),defBody (top 29),defScope (top 29),[],[]⟩
def qq:He.DefD:=⟨("NoField",some "__init__"),"__init__","NoField.__init__",defArgs (dz 2 0),defBody (dz 2 0),defScope (dz 2 0),[],[]⟩
def vR:List He.DefD:=[oS,rM,oQ,qi,lR,nU,pU,o9,pO,oU,mm,qh,gY,gG,zo,iJ,ju,gF,fV,um,jt,lO,pC,pG,oV,B3,qq]
def EF:List He.Fa:=[.glo "_law_draws",.glo "_law_pop",.glo "_law_names",.glo "_law_text",.glo "_law_document",.glo "_law_number",.glo "_law_deed",.glo "_law_copy",.glo "_law_line",.glo "show_field",.glo "show_document",.glo "show_deed",.meth "FieldReader" "next_name",.glo "sure",.meth "FieldReader" "ahead",.meth "FieldReader" "eat",.meth "FieldReader" "next_text",.meth "FieldReader" "next_field",.glo "is_name",.glo "look_at_document",.glo "read_document",.glo "number_of",.glo "read_deed",.glo "_law_alike",.glo "law",.free "all",.free "bool",.free "enumerate",.free "int",.free "isinstance",.free "len",.free "list",.free "range",.free "sorted",.free "str",.free "tuple",.str "FIGURES" "0123456789",.str "LETTERS" "abcdefghijklmnopqrstuvwxyz",.glo "FieldReader",.glo "NoField",.glo "NoLine",.exc "NoLine",.cls "FieldReader",.mkr "FieldReader"]
def Ko(K:PySem.W.Frag):List Bool:=[G5 K DT "NoField",Kz K "NoField",C5 K fT]
def BS(K:PySem.W.Frag):Bool:=(Ko K).all id
theorem F7{K:PySem.W.Frag}(h:BS K=true)(i:Nat){b:Bool}(e:(Ko K)[i]? =some b):b=true:=List.all_eq_true.mp h b (List.mem_of_getElem? e)
abbrev Rr:PySem.W.OpenRow:=PySem.W.OpenLaw.row PySem.Challenge.rw_findcourt_k33_deeds_written
def A2:List Addr:=[3,176,183,195,202,207,214,221,233,228,77,82,89,117,138,96,124,131,145,152,63,70,166,103,171,190,240,41,155,44,56,24,175,182,194,201,206,213,220,232,227,76,81,88,116,137,95,123,130,144,151,62,69,165,102,170,189,239,40,154,43,55,23,172,173,174,177,178,179,180,181,191,192,193,196,197,198,199,200,203,204,205,208,209,210,211,212,215,216,217,218,219,229,230,231,222,223,224,225,226,71,72,73,74,75,78,79,80,83,84,85,86,87,111,112,113,114,115,132,133,134,135,136,90,91,92,93,94,118,119,120,121,122,125,126,127,128,129,139,140,141,142,143,146,147,148,149,150,59,60,61,64,65,66,67,68,160,161,162,163,164,97,98,99,100,101,167,168,169,184,185,186,187,188,234,235,236,237,238,35,36,37,38,39]
abbrev hk:PySem.W.Hook:=DW BS A2 EF vR
def GV(s:PySem.W.SharedT):BE:=Ak BS A2 EF vR (HandSHeadRun.getT s)
theorem JM(s:PySem.W.SharedT):GV s=hk.obs s.abs:=F0 (HandSHeadRun.getT_eq s)
theorem yQ{α β γ:Type}{e:Option α}{f:α→β}{g:α→γ}{b:β}{c:γ}(h:e.map (fun s=>(f s,g s))=some (b,c)):e.map f=some b∧e.map g=some c:=by
 cases e with
 | none=>cases h
 | some s=>exact⟨congrArg some (congrArg Prod.fst (Option.some.inj h)),congrArg some (congrArg Prod.snd (Option.some.inj h))⟩
abbrev vQ:Program:=PySem.W.view Rr.prog [29]
noncomputable abbrev eE(w:World)(os:OsState):=HandSHeadRun.endF (HandSHeadRun.stepQ (HandSHeadRun.denQ HandSHeadRun.tabQ) Rr.prog w) 6000 Rr.prog w os
noncomputable abbrev kF(s:PySem.W.SharedT):PySem.W.Frag:=He.frG (HandSHeadRun.getT s) A2
theorem IY(w:World)(os:OsState):(eE w os).map (fun s=>(HandSHeadRun.looksF Rr.prog (PySem.W.boot_heap w.params) s.abs,(HandSHeadRun.seenQ vQ ["FindError","NoField","NoLine","LETTERS","FIGURES","is_name","look_at_document","show_field","show_document","show_deed","sure","number_of","FieldReader","read_document","read_deed","_law_draws","_law_pop","_law_alike","_law_names","_law_text","_law_document","_law_number","_law_deed","_law_line","_law_copy"] (importedModules Rr.prog.main.body) (fun s=>PySem.W.xlAt vQ [] s&&PySem.W.recOk Rr.toRowW.records s) s.abs,(qD (kF s),BS (kF s)))))=some (true,(PySem.W.openGood vQ ["FindError","NoField","NoLine","LETTERS","FIGURES","is_name","look_at_document","show_field","show_document","show_deed","sure","number_of","FieldReader","read_document","read_deed","_law_draws","_law_pop","_law_alike","_law_names","_law_text","_law_document","_law_number","_law_deed","_law_line","_law_copy"],(true,true))):=by kernel_rfl
theorem JP(w:World)(os:OsState):(eE w os).map (fun s=>EF.all fun f=>f.ok (kF s))=some true:=by kernel_rfl
theorem GR(w:World)(os:OsState):(eE w os).map (fun s=>(vR.take 13).all fun d=>d.ok (kF s))=some true:=by kernel_rfl
theorem G1(w:World)(os:OsState):(eE w os).map (fun s=>(vR.drop 13).all fun d=>d.ok (kF s))=some true:=by kernel_rfl
theorem IQ(w:World)(os:OsState):(eE w os).map (fun s=>vR.all fun d=>d.ok (kF s))=some true:=by
 have h:=u5 (GR w os) (G1 w os)
 simp only[←List.all_append,List.take_append_drop]at h
 exact h
theorem IE(w:World)(os:OsState):(eE w os).map (fun s=>vR.map fun d=>He.fnW (kF s) d.at_)=some (vR.map He.DefD.val):=by kernel_rfl
theorem run(w:World):HandSHeadRun.RunEq Rr (PySem.W.view Rr.prog [29]) hk GV 6000 ["FindError","NoField","NoLine","LETTERS","FIGURES","is_name","look_at_document","show_field","show_document","show_deed","sure","number_of","FieldReader","read_document","read_deed","_law_draws","_law_pop","_law_alike","_law_names","_law_text","_law_document","_law_number","_law_deed","_law_line","_law_copy"] w:=by
 intro os
 obtain⟨a,b⟩:=yQ (IY w os)
 obtain⟨b,c⟩:=yQ b
 obtain⟨c,d⟩:=yQ c
 exact ou a (ou b (Dl (g:=HandSHeadRun.getT) (JP w os) (IQ w os) (IE w os) c d))
open PySem.W PySem.Calls in
theorem early(hc:WalkO (view (OpenLaw.row PySem.Challenge.rw_findcourt_k33_deeds_written).prog [29]) ["FindError","NoField","NoLine","LETTERS","FIGURES","is_name","look_at_document","show_field","show_document","show_deed","sure","number_of","FieldReader","read_document","read_deed","_law_draws","_law_pop","_law_alike","_law_names","_law_text","_law_document","_law_number","_law_deed","_law_line","_law_copy"] (XL (view (OpenLaw.row PySem.Challenge.rw_findcourt_k33_deeds_written).prog [29]) []) hk.says (OpenLaw.row PySem.Challenge.rw_findcourt_k33_deeds_written).toRowW (HandSHeadRun.topDef (OpenLaw.row PySem.Challenge.rw_findcourt_k33_deeds_written).prog 29) [] fun f vs=>PySem.call f vs):PySem.Challenge.rw_findcourt_k33_deeds_written.Holds:=by
 w_on;o_law
 refine HandSHeadRun.head_any (r:=OpenLaw.row PySem.Challenge.rw_findcourt_k33_deeds_written) (q:=view (OpenLaw.row PySem.Challenge.rw_findcourt_k33_deeds_written).prog [29]) (H:=hk) (ob:=GV) (M:=6000) (loose:=["FindError","NoField","NoLine","LETTERS","FIGURES","is_name","look_at_document","show_field","show_document","show_deed","sure","number_of","FieldReader","read_document","read_deed","_law_draws","_law_pop","_law_alike","_law_names","_law_text","_law_document","_law_number","_law_deed","_law_line","_law_copy"]) (d:=HandSHeadRun.topDef (OpenLaw.row PySem.Challenge.rw_findcourt_k33_deeds_written).prog 29) (kwd:=[]) JM
  (by kernel_rfl) (fun s=>by kernel_rfl) run (by kernel_rfl) (by kernel_rfl) (by kernel_rfl) (by rfl) (by first | assumption | decide+kernel) (by decide+kernel) ⟨rfl,rfl,rfl,rfl,rfl,by decide+kernel⟩ ?hw hc
 case hw=>w_witness2
end K33
namespace L2
open PySem PySem.Spec PyProof.Rows
end L2
namespace Vw
open PySem L2 PyProof.Rows
end Vw
namespace Vw
open PySem L2 PyProof.Rows
end Vw
namespace L2
open PySem PySem.Spec PyProof.Rows
section
variable{P:Program}{w:World}{K:Type}[DecidableEq K]{knd:PySem.KeyKind P w K}{key:Value→K}
def DP(knd:PySem.KeyKind P w K)(key:Value→K)(h:Heap)(a:Addr)(S:K→Bool)(n:Nat):Prop:=
 ∃ o es ep t,h.get? a=some o∧o.ExactSet∧o.data=.set es ep t∧ElemsOf knd es.toList∧(es.toList.map fun e=>key e.2).Nodup∧(∀ k,S k=true↔k∈es.toList.map fun e=>key e.2)∧
  es.size<scanBound∧t.fits es.size=true∧es.size=n∧Ris t.place.toList∧(w.params.followText "set-order"=true∨t.led=true)
variable{A:Around}{E:Value→Shared→Prop}{s:Shared}{a:Addr}{S:K→Bool}{n:Nat}{h h':Heap}
theorem DP.at(R:DP knd key h a S n)(k:∀ o,h.get? a=some o→h'.get? a=some o):DP knd key h' a S n:=by
 obtain⟨o,es,ep,t,ho,r⟩:=R
 exact⟨o,es,ep,t,k o ho,r⟩
end
end L2
namespace L2
open PySem PySem.Spec PyProof.Rows
end L2
namespace Vw
open PySem L2 PyProof.Rows
end Vw
namespace L2
open PySem PySem.Spec PyProof.Rows
end L2
namespace L2
open PySem PySem.Spec PyProof.Rows
end L2
namespace Vw
open PySem L2 PyProof.Rows
end Vw
namespace L2
open PySem PySem.Spec PyProof.Rows
end L2
namespace Vw
open PySem L2 PyProof.Rows
end Vw
namespace Vw
open PySem L2 PyProof.Rows
end Vw
namespace L2
open PySem PySem.Spec PyProof.Rows
section
variable{P:Program}{w:World}{A:Around}{E:Value→Shared→Prop}{s:Shared}{κ:Type}[DecidableEq κ]{knd:KeyKind P w κ}
def Aq(knd:KeyKind P w κ)(L:List (Addr×List κ)):List (Int×Value):=L.map fun p=>(tupleKeyHash knd p.2,Value.ref p.1)
structure GSet (knd:KeyKind P w κ) (h:Heap) (a:Addr) (L:List (Addr×List κ)) (es:Array (Int×Value)) (ep:Nat) (t:SetTable):Prop where
 o:∃ o,h.get? a=some o∧o.ExactSet∧o.data=.set es ep t
 r:es.toList=Aq knd L
 b:TabOk t (L.map fun p=>tupleKeyHash knd p.2)
 n:(L.map (·.2)).Nodup
 k:∀ p∈L,IsTupleKey knd h p.2 p.1
 l:w.params.followText "set-order"=true∨t.led=true
 m:L.length*5<t.mask*3
 f:L.length<64
variable{a:Addr}{L:List (Addr×List κ)}{es:Array (Int×Value)}{ep:Nat}{t:SetTable}
theorem Bz(h:es.toList=Aq knd L):es.size=L.length:=by
 have q:=congrArg List.length h
 simpa [Aq]using q
theorem GG(h1:TabOk t (L.map fun p=>tupleKeyHash knd p.2))(h2:es.size=L.length)(h3:es.size≤t.mask):t.fits es.size=true:=by
 have z:=h1.sz
 rw[List.length_map]at z
 have key:t.place.size=es.size∧t.place.size+t.dummies.size≤t.mask:=by
  rw[h1.dm]
  exact⟨z.trans h2.symm,by show t.place.size+0≤t.mask;omega⟩
 unfold SetTable.fits SetTable.fill
 simp only[Bool.and_eq_true,beq_iff_eq,decide_eq_true_eq]
 rw[h1.dm]at key ⊢
 exact⟨key.1,key.2⟩
theorem GSet.fits(R:GSet knd s.heap a L es ep t):t.fits es.size=true:=by
 have h2:=Bz R.r
 have h3:=R.m
 exact GG R.b h2 (by omega)
end
end L2
namespace L2
open PySem PySem.Spec PyProof.Rows
end L2
namespace L2
open PySem PySem.Spec PyProof.Rows
end L2
namespace SrtO
open PySem PyProof.Rows Srt L2
section
variable{prog:Program}{w:World}{A:Around}{E:Value→Shared→Prop}{s:Shared}
def C9(h:Heap)(v:Value)(x:PySem.Str×PySem.Str):Prop:=∃ a o t u n,v=.ref a∧h.get? a=some o∧o.cls=.type "tuple"∧o.data=.seq #[.str x.1 t,.str x.2 u] n
theorem C9.keeps{h h':Heap}{v:Value}{x:PySem.Str×PySem.Str}(p:C9 h v x)(k:∀ b o,h.get? b=some o→o.cls=.type "tuple"→h'.get? b=some o):C9 h' v x:=by
 obtain⟨a,o,t,u,n,e,ho,hc,hd⟩:=p
 exact⟨a,o,t,u,n,e,k _ _ ho hc,hc,hd⟩
end
end SrtO
namespace L2
open PySem PySem.Spec PyProof.Rows
end L2
namespace Vw
open PySem L2 PyProof.Rows
end Vw
namespace Vw
open PySem L2 PyProof.Rows
end Vw
namespace Vw
open PySem L2 PyProof.Rows
end Vw
namespace Vw
open PySem L2 PyProof.Rows
end Vw
namespace Vw
open PySem L2 PyProof.Rows
end Vw
namespace Vw
open PySem L2 PyProof.Rows
end Vw
namespace L2
open PySem PySem.Spec PyProof.Rows
end L2
namespace Vw
open PySem L2 PyProof.Rows
end Vw
namespace Vw
open PySem L2 PyProof.Rows
def NM(x:Str):Prop:=(x==("__debug__":Str))=false∧(x==("__classdict__":Str))=false
section
variable{C:Cst}{X:Cx}{e a b:Expr}{es:List Expr}{pos:Pos}{f fa fb:State→Res RV}{fr:List (State→Res RV)}
theorem va{i:Nat}{x:Str}(n:NM x)(hN:X.N[i]? =some x:=by exact rfl)(hv:X.env.scope.names.lookup x=some .local:=by exact rfl):PE X (.Name x pos) (ai C (ae i)):=v_var hN (.inl hv) n.1 n.2
theorem vb{i:Nat}{x:Str}(n:NM x)(hN:X.N[i]? =some x:=by exact rfl)(hv:X.env.scope.names.lookup x=some .cell:=by exact rfl):PE X (.Name x pos) (ai C (ae i)):=v_var hN (.inr (.inl hv)) n.1 n.2
theorem vi{i:Int}{j:Nat}:PE X (.Constant (.int i) j pos) (ai C (fD (.int i))):=qB pe_int fun _=>rfl
theorem vt{i:Bool}{j:Nat}:PE X (.Constant (.bool i) j pos) (ai C (fD (.bl i))):=qB pe_bl fun _=>rfl
theorem vc(h:PE X e (ai C f))(hr:PA X es (bS C (aj fr)))(hs:notStar e=true:=by exact rfl):PA X (e::es) (bS C (aj (f::fr))):=HQ h hr hs
theorem tn{i:Nat}{x:Str}(hN:X.N.Nodup)(hi:X.N[i]? =some x:=by exact rfl)(hx:X.env.scope.names.lookup x=some .local:=by exact rfl):PG X (.Name x pos) (n3 C (.nm i)):=Jx hN hi (.inl hx) (.inr hx)
theorem vg{i:Nat}{x:Str}{p:Pos}(hN:X.N.Nodup)(h:PE X e (ai C f))(hi:X.N[i]? =some x:=by exact rfl)(hx:X.env.scope.names.lookup x=some .local:=by exact rfl)(hc:g8 e=true:=by exact rfl):PS X (.Assign [.Name x p] e pos) (cq C (aR i f)):=A0 hN hi (.inl hx) (.inr hx) h hc
theorem vx(hu:X.A.units+64<cLine)(ha:PE X a (ai C fa))(hb:PE X b (ai C fb))(hs:l9 b=true:=by exact rfl):PE X (.Subscript a b pos) (ai C (ao fa fb bZ)):=Lg hu ha hb hs
theorem fH{N P:List Str}{sc:Scope}(h1:sc.kind=.function:=by exact rfl)(h2:sc.isCoroutine=false:=by exact rfl)(h3:sc.isGenerator=false:=by exact rfl)(h4:N.Nodup:=by decide+kernel)(h5:N.take P.length=P:=by exact rfl)(h6:∀ x∈P,sc.names.lookup x=some .local∨sc.names.lookup x=some .cell:=by decide+kernel)(h7:∀ y∈sc.names,y.2≠ .free:=by decide+kernel):FnScope N P sc:=⟨h1,h2,h3,h4,h5,h6,h7⟩
end
end Vw
namespace Vw
open PySem L2 PyProof.Rows
end Vw
namespace Vw
open PySem L2 PyProof.Rows
section
variable{C:Cst}{Z Z' Zc Zd:Hp}{loc loc' l':List Addr}{s s':State}{sv sv':L2.St}{H H':Hp}
variable{X:Cx}{e a b c o:Expr}{es:List Expr}{p pos apos:Pos}{f fa fb fc fo fi fv:State→Res RV}
def sB(f:State→Res RV)(k:D→State→Res (List Val))(s:State):Res (List Val):=(ev f s).bind fun r s1=>match ib s1 r with
 | .val (.r n)=>(match s1.st[n]? with
  | some (.dic true l)=>(match toDK l with
   | some ds=>k (.dic ds) s1
   | none=>.stuck)
  | _=>.stuck)
 | _=>(kI r s1).bind k
end
end Vw
namespace Vw
open PySem L2 PyProof.Rows
end Vw
namespace Vw
open PySem L2 PyProof.Rows
end Vw
namespace Vw
open PySem L2 PyProof.Rows
mutual
def gx:D→Bool
 | .non=>true
 | .bl _=>true
 | .int _=>true
 | .str _=>true
 | .tup l=>gM l
 | .lst l=>gM l
 | _=>false
def gM:List D→Bool
 | []=>true
 | d::r=>gx d&&gM r
end
def oc:D→Bool
 | .non=>true
 | .bl _=>true
 | .int _=>true
 | .str _=>true
 | _=>false
def lI:List D→Option (List D×List D)
 | []=>none
 | [.lst xs]=>if gM xs=true then some ([],xs)else none
 | d::r=>if oc d=true then(lI r).map fun p=>(d::p.1,p.2)else none
def pT(r:Res RV)(s:State):Res RV:=
 match r with
 | .ok (.val (.d (.tup ds))) _=>(match lI ds with
  | some p=>.ok (.val (.tp (p.1.map .d++[.r s.st.length]))) ⟨s.sg,s.st++[.lst (p.2.map .d)]⟩
  | none=>.ok (.val (.d (.tup ds))) s)
 | _=>.stuck
def AL:D→Bool
 | .str _=>true
 | _=>false
def qX(n:Nat)(fs:State→Res (List RV))(g:Fn)(s:State):Res RV:=(fs s).bind fun rs s=>(aD rs s).bind fun args s=>match kW args with
 | some ds=>if ds.length=n∧ds.all AL=true then pT (g (ds.map .d) []) s else .stuck
 | none=>.stuck
theorem BI:∀ {ds i xs:List D},lI ds=some (i,xs)→ds=i++[.lst xs]∧i.all oc=true∧gM xs=true
 | [],i,xs,h=>by simp[lI]at h
 | [d],i,xs,h=>by
  cases d with
  | lst ys=>
   unfold lI at h
   split at h
   ·rename_i hp
    cases h
    exact⟨rfl,rfl,hp⟩
   ·cases h
  | _=>simp[lI]at h
 | d::e::r,i,xs,h=>by
  have h:(if oc d=true then(lI (e::r)).map fun p=>(d::p.1,p.2)else none)=some (i,xs):=by
   cases d<;> exact h
  split at h
  ·rename_i ha
   obtain⟨⟨i',xs'⟩,h1,h2⟩:=Option.map_eq_some_iff.mp h
   cases h2
   obtain⟨e1,e2,e3⟩:=BI h1
   exact⟨by rw[e1];rfl,by simp only[List.all_cons,ha,e2];rfl,e3⟩
  ·cases h
section
variable{cA:String→Addr}{Z Z' Y:Hp}
mutual
theorem det:∀ {d d':D} {v:V},aL cA Z d v→aL cA Z d' v→gx d=true→gx d'=true→d=d'
 | .non,d',v,h,h',p,p'=>by
  have h:v=.non:=h
  subst h
  cases d'<;> first | rfl | (simp[aL]at h';done) | (simp[gx]at p';done)
 | .bl b,d',v,h,h',p,p'=>by
  have h:v=.bl b:=h
  subst h
  cases d'<;> first | (simp[aL]at h';subst h';rfl) | (simp[aL]at h';done) | (simp[gx]at p';done)
 | .int b,d',v,h,h',p,p'=>by
  have h:v=.int b:=h
  subst h
  cases d'<;> first | (simp[aL]at h';subst h';rfl) | (simp[aL]at h';done) | (simp[gx]at p';done)
 | .str b,d',v,h,h',p,p'=>by
  have h:v=.str ⟨b.toArray⟩:=h
  subst h
  cases d'<;> first | (simp[aL]at h';subst h';rfl) | (simp[aL]at h';done) | (simp[gx]at p';done)
 | .tup ds,d',v,⟨a,vs,e,z,q⟩,h',p,p'=>by
  subst e
  cases d' with
  | tup ds'=>
   obtain⟨a',vs',e',z',q'⟩:=h'
   cases e'
   rw[z]at z'
   cases z'
   rw[DQ q q' p p']
  | lst ds'=>
   obtain⟨a',vs',e',z',q'⟩:=h'
   cases e'
   rw[z]at z'
   rcases z' with z' | ⟨_,z'⟩<;> cases z'
  | non=>cases h'
  | bl b=>cases h'
  | int b=>cases h'
  | str b=>cases h'
  | _=>simp[gx]at p'
 | .lst ds,d',v,⟨a,vs,e,z,q⟩,h',p,p'=>by
  subst e
  cases d' with
  | tup ds'=>
   obtain⟨a',vs',e',z',q'⟩:=h'
   cases e'
   rw[z']at z
   rcases z with z | ⟨_,z⟩<;> cases z
  | lst ds'=>
   obtain⟨a',vs',e',z',q'⟩:=h'
   cases e'
   have:vs=vs':=by
    rcases z with z | ⟨_,z⟩<;> rcases z' with z' | ⟨_,z'⟩<;> rw[z]at z'<;> cases z'<;> rfl
   subst this
   rw[DQ q q' p p']
  | non=>cases h'
  | bl b=>cases h'
  | int b=>cases h'
  | str b=>cases h'
  | _=>simp[gx]at p'
 | .dic _,d',v,h,h',p,p'=>by simp[gx]at p
 | .dit _,d',v,h,h',p,p'=>by simp[gx]at p
 | .ins _ _,d',v,h,h',p,p'=>by simp[gx]at p
 | .exc _ _,d',v,h,h',p,p'=>by simp[gx]at p
theorem DQ:∀ {ds ds':List D} {vs:List V},br cA Z ds vs→br cA Z ds' vs→gM ds=true→gM ds'=true→ds=ds'
 | [],[],vs,h,h',p,p'=>rfl
 | [],d'::r',vs,h,⟨v,t,e,q,w⟩,p,p'=>by
  have h:vs=[]:=h
  rw[h]at e
  cases e
 | d::r,[],vs,⟨v,t,e,q,w⟩,h',p,p'=>by
  have h':vs=[]:=h'
  rw[h']at e
  cases e
 | d::r,d'::r',vs,⟨v,t,e,q,w⟩,⟨v',t',e',q',w'⟩,p,p'=>by
  rw[e]at e'
  cases e'
  simp only[gM,Bool.and_eq_true]at p p'
  rw[det q q' p.1 p'.1,DQ w w' p.2 p'.2]
end
def Kl(Z:Hp)(a:Addr)(vs:List V):Prop:=Z a=some (.lst vs)∨∃ o,Z a=some (.frz o (.lst vs))
mutual
theorem aL.less{a:Addr}{xs:List D}{ws:List V}(hl:aL cA Z (.lst xs) (.ref a))(ha:Kl Z a ws)(px:gM xs=true)(hY:∀ (b:Addr) (u:HO),b≠a→Z b=some u→Y b=some u):∀ {d:D} {v:V},aL cA Z d v→gx d=true→sizeOf d<sizeOf (D.lst xs)→aL cA Y d v
 | .non,v,h,p,n=>h
 | .bl _,v,h,p,n=>h
 | .int _,v,h,p,n=>h
 | .str _,v,h,p,n=>h
 | .tup ds,v,⟨b,vs,e,z,q⟩,p,n=>⟨b,vs,e,hY b _ (fun z'=>by
   rw[z']at z
   rcases ha with h | ⟨_,h⟩<;> rw[z]at h<;> cases h) z,br.less hl ha px hY q p (by simp at n ⊢;omega)⟩
 | .lst ds,v,⟨b,vs,e,z,q⟩,p,n=>⟨b,vs,e,by
   have ne:b≠a:=fun z'=>by
    subst z' e
    have:=det (d:=.lst ds) (d':=.lst xs) ⟨b,vs,rfl,z,q⟩ hl p px
    rw[this]at n
    omega
   exact z.elim (fun z=>.inl (hY b _ ne z)) (fun⟨o,z⟩=>.inr ⟨o,hY b _ ne z⟩),br.less hl ha px hY q p (by simp at n ⊢;omega)⟩
 | .dic _,v,h,p,n=>by simp[gx]at p
 | .dit _,v,h,p,n=>by simp[gx]at p
 | .ins _ _,v,h,p,n=>by simp[gx]at p
 | .exc _ _,v,h,p,n=>by simp[gx]at p
theorem br.less{a:Addr}{xs:List D}{ws:List V}(hl:aL cA Z (.lst xs) (.ref a))(ha:Kl Z a ws)(px:gM xs=true)(hY:∀ (b:Addr) (u:HO),b≠a→Z b=some u→Y b=some u):∀ {ds:List D} {vs:List V},br cA Z ds vs→gM ds=true→sizeOf ds<sizeOf (D.lst xs)→br cA Y ds vs
 | [],vs,h,p,n=>h
 | d::r,vs,⟨v,t,e,q,w⟩,p,n=>by
  simp only[gM,Bool.and_eq_true]at p
  have n1:sizeOf d<sizeOf (D.lst xs):=by simp at n ⊢;omega
  have n2:sizeOf r<sizeOf (D.lst xs):=by simp at n ⊢;omega
  exact⟨v,t,e,aL.less hl ha px hY q p.1 n1,br.less hl ha px hY w p.2 n2⟩
end
theorem E9{d:D}{v:V}(h:AL d=true)(q:aL cA Z d v):aL cA Y d v:=by
 cases d<;> first | exact q | cases h
theorem xO{loc:List Addr}:∀ {ds:List D} {vs:List V},ds.all AL=true→aB cA Z loc (ds.map .d) vs→aB cA Y [] (ds.map .d) vs
 | [],vs,h,q=>q
 | d::r,vs,h,⟨v,t,e,q,w⟩=>by
  simp only[List.all_cons,Bool.and_eq_true]at h
  exact⟨v,t,e,E9 h.1 q,xO h.2 w⟩
theorem Ck{d:D}{v:V}(h:oc d=true)(q:aL cA Z d v):aL cA Y d v:=by
 cases d<;> first | exact q | cases h
theorem tJ{x:D}:∀ {i:List D} {vs:List V},i.all oc=true→br cA Z (i++[x]) vs→∃ w,aL cA Z x w∧∀ {Y:Hp} {loc:List Addr} {y:Val},bh cA Y loc y w→aB cA Y loc (i.map .d++[y]) vs
 | [],vs,h,⟨v,t,e,q,w⟩=>⟨v,q,fun qy=>⟨v,t,e,qy,w⟩⟩
 | d::r,vs,h,⟨v,t,e,q,w⟩=>by
  simp only[List.all_cons,Bool.and_eq_true]at h
  obtain⟨u,h1,h2⟩:=tJ h.2 w
  exact⟨u,h1,fun qy=>⟨v,t,e,Ck h.1 q,h2 qy⟩⟩
end
section
variable{X:Cx}{CX:CXT}{k:Nat}{f:Addr}{fd:FuncData}{ps:List Str}{sp:Sp}{E:L2.St→XK}{x:Str}{p pos:Pos}{e:Expr}{es:List Expr}{t:TA}
def Dj(H1:Hp)(Q:VK):VK:=fun v H'=>Q v H'∨∃ d od u,H1 d=none∧H' d=some (.frz od u)∧Q v (upd H' d u)
def GX(sp:Sp)(E:L2.St→XK)(t:TA):TE:=fun σ H Q=>t σ H fun vs H1=>sp vs H1 (Dj H1 Q) (E σ)
theorem DI(F:FnOk X.prog X.w X.K X.mg X.base CX k f fd ps sp)(hr:Room k X.A)(hg:Gl X x)(hm:X.mg x=some (.ref f))(hk:PySem.W.keepIn X.K (.ref f)=true)(hb:Binds X.K fd ps [])(hx:∀ σ,PassesAt CX X σ (E σ))
  (ha:PA X (e::es) t) (hdb:(x==("__debug__":Str))=false) (he:starEach (e::es) X.env=(false,eval e X.env)::starEach es X.env) (hpl:(backTo pos (starEach es X.env)).any (·.1)=false):
  PE X (.Call (.Name x p) (e::es) [] pos) (GX sp E t):=by
 refine⟨fun pins s σ H Q I h=>?_⟩
 refine wpAny_Call_Name_kw (ld_glob I hg hm ?_ hdb)
 refine PySem.W.callWith_K (h₀:=X.base) I.ok.mod.kin hk (thn (ha.run pos pins s σ H _ I h) fun us s1 ⟨vs,H1,I1,r,q⟩=>⟨I1.kIn,?_⟩) he hpl
 refine thn (run_fnS F hr hb (hx σ) I1 r q) fun v s2 ⟨y,H2,I2,r2,q2⟩=>?_
 rcases q2 with q2 | ⟨d,od,u,z,zf,q2⟩
 ·exact⟨y,H2,I2,r2,q2⟩
 ·refine⟨y,_,I2.unlock zf fun o' u' e0=>?_,r2,q2⟩
  have:=I1.base.frzs d o' u' e0
  rw[z]at this
  cases this
end
section
variable{C:Cst}{Z Z' Zc:Hp}{loc loc' l':List Addr}{s s':State}{sv sv':L2.St}{H H':Hp}
variable{X:Cx}{e a b c o:Expr}{es:List Expr}{p pos apos:Pos}{f fa fb fc fo fi fv:State→Res RV}
def nZ:Hp:=fun _=>none
theorem SR.Ji(r:SR C Z loc s sv H)(E:XK):SR (da C.cA H C.H0 E) nZ [] ⟨[],[]⟩ [] H:=by
 refine⟨Same.refl _,fun a o h=>?_,fun a o h=>?_,r.lk,rfl,List.nodup_nil,fun a h=>?_,fun n a o h1=>?_,fun i x h=>?_,fun i o h=>?_,fun i j o o' a h1=>?_,rfl⟩
 all_goals first | (exact nomatch h) | (exact absurd h (by simp)) | (exact absurd h1 (by simp)) | (exfalso;simp[nZ]at h)
def jI(Z Z':Hp)(a:Option Addr):Hp:=fun b=>match Z b with
 | some u=>some u
 | none=>if some b=a then none else Z' b
theorem sJ{a:Option Addr}:Same Z (jI Z Z' a):=fun b u h=>by unfold jI;rw[h]
section
variable{E:XK}{st:State}(r:SR C Z loc s sv H)(r':SR (da C.cA H C.H0 E) Z' l' st [] H')
include r r'
theorem qU{b:Addr}{u:HO}(h:Z' b=some u):H b=none∧Z b=none:=by
 have h1:H b=none:=r'.zf b u h
 refine⟨h1,?_⟩
 cases e:Z b with
 | none=>rfl
 | some w=>exact absurd h1 (qE (r.zh b w e))
theorem yF{b:Addr}(h:H b=none):C.Fr b=none∧b∉loc∧∀ (i:Nat) (o:Ob),s.sg[i]? =some (some (.own o))→sv[i]? ≠some (some (.ref b)):=by
 refine⟨?_,fun z=>(r.lh b z).1 h,fun i o h1 h2=>?_⟩
 ·cases e:C.Fr b with
  | none=>rfl
  | some w=>have:=r.fr b w e;rw[h]at this;cases this
 ·obtain⟨a,q1,q2,q3,_⟩:=r.ow i o h1
  rw[h2]at q1
  cases q1
  exact gb q2 q3 h
theorem Cp(a:Option Addr):SR C (jI Z Z' a) loc s sv H':=by
 refine(r.grow r'.fr).Ja sJ fun b u h=>?_
 unfold jI at h
 split at h
 ·rename_i w e
  exact .inl (e.trans h)
 ·split at h
  ·cases h
  ·obtain⟨h1,_⟩:=qU r r' h
   obtain⟨q1,q2,q3⟩:=yF r r' h1
   exact .inr ⟨r'.zh b u h,q1,q2,q3⟩
end
theorem Dw{E:XK}{st:State}{ds:List D}{v:V}{Q:VK}(r:SR C Z loc s sv H)(r':SR (da C.cA H C.H0 E) Z' l' st [] H')(q:aL C.cA Z' (.tup ds) v)(h:EPost C Z loc sv (pT (.ok (.val (.d (.tup ds))) st) s) Q):Dj H Q v H':=by
 unfold pT at h
 dsimp only at h
 split at h
 ·rename_i p hp
  obtain⟨i,xs⟩:=p
  obtain⟨e1,e2,e3⟩:=BI hp
  subst e1
  obtain⟨t,vs,et,zt,q⟩:=q
  obtain⟨w,hw,hq⟩:=tJ e2 q
  obtain⟨a,ws,ea,za,qx⟩:=hw
  subst ea
  have na:H a=none∧Z a=none:=by
   rcases za with za | ⟨_,za⟩<;> exact qU r r' za
  have sr:SR C (jI Z Z' (some a)) loc s sv H':=Cp r r' (some a)
  have hY:∀ (b:Addr) (u:HO),b≠a→Z' b=some u→jI Z Z' (some a) b=some u:=fun b u hb hz=>by
   unfold jI
   rw[(qU r r' hz).2]
   dsimp only
   rw[if_neg (fun z=>hb (Option.some.inj z)),hz]
  have za0:jI Z Z' (some a) a=none:=by
   unfold jI
   rw[na.2]
   dsimp only
   rw[if_pos rfl]
  have qx':br C.cA (jI Z Z' (some a)) xs ws:=br.less (xs:=xs) ⟨a,ws,rfl,za,qx⟩ za e3 hY qx e3 (by simp)
  obtain⟨f1,f2,f3⟩:=yF r r' na.1
  have fin:∀ H2,SR C (jI Z Z' (some a)) loc s sv H2→H2 a=some (.lst ws)→Q v H2:=fun H2 s2 h2=>by
   have fr:Free C (jI Z Z' (some a)) loc s sv a:=⟨za0,f1,f2,f3⟩
   obtain⟨g3,r3,q3⟩:=s2.alloc (a:=a) (o:=.lst (xs.map .d)) (by simp) ⟨ws,h2,cZ.mpr qx'⟩ fr
   refine h _ _ H2 v ((Ext.z sJ).trans g3) r3 ⟨t,vs,et,?_,hq q3⟩
   exact hY t _ (fun z=>by
    rw[z]at zt
    rcases za with za | ⟨_,za⟩<;> rw[zt]at za<;> cases za) zt
  rcases za with za | ⟨od,za⟩
  ·exact .inl (fin H' sr ((r'.zh a _ za).at rfl))
  ·have hf:H' a=some (.frz od (.lst ws)):=(r'.zh a _ za).at rfl
   refine .inr ⟨a,od,_,na.1,hf,fin _ ?_ upd_same⟩
   refine⟨fun b w q=>?_,fun b w q=>?_,sr.zf,fun b w u q=>?_,sr.ln,sr.nd,fun b q=>⟨?_,(sr.lh b q).2⟩,fun n b ob h1 h2 h3=>?_,sr.vl,fun j ob q=>?_,sr.oi,sr.ls⟩
   ·have hb:b≠a:=fun z=>by rw[z,f1]at q;cases q
    rw[upd_ne hb];exact sr.fr b w q
   ·have hb:b≠a:=fun z=>by rw[z,za0]at q;cases q
    unfold Rz
    rw[upd_ne hb];exact sr.zh b w q
   ·have q':=r.lk b w u q
    have hb:b≠a:=fun z=>by rw[z,na.1]at q';cases q'
    rw[upd_ne hb];exact sr.lk b w u q
   ·have hb:b≠a:=fun z=>f2 (z▸q)
    rw[upd_ne hb];exact(sr.lh b q).1
   ·have hb:b≠a:=fun z=>f2 (z▸List.mem_of_getElem? h1)
    obtain⟨q1,q2⟩:=sr.cl n b ob h1 h2 h3
    exact⟨q1.at (upd_ne hb),q2⟩
   ·obtain⟨b,w1,w2,w3,w4⟩:=sr.ow j ob q
    have hb:b≠a:=fun z=>f3 j ob q (z▸w1)
    exact⟨b,w1,w2,w3.at (upd_ne hb),w4⟩
 ·refine .inl (h _ loc H' v (Ext.z sJ) (Cp r r' none) ?_)
  exact aL.mono (fun b u hz=>by
   unfold jI
   rw[(qU r r' hz).2]
   dsimp only
   rw[if_neg (fun z=>by cases z),hz]) _ q
theorem F6{g:Fn}{n:Nat}{ds:List D}{vs:List V}{Q:VK}(r:SR C Z loc s sv H)(q:aB C.cA Z loc (ds.map .d) vs)(hn:ds.length=n)(ht:ds.all AL=true)(h:EPost C Z loc sv (pT (g (ds.map .d) []) s) Q):bz C.cA n g vs H (Dj H Q) (WE C.W sv):=by
 refine⟨H,C.H0,nZ,[],ds.map .d,[],r.Ji _,xO ht q,by simpa using hn,?_⟩
 cases e:g (ds.map .d) []with
 | stuck=>rw[e]at h;exact h
 | exc x s1=>rw[e]at h;exact h.elim
 | ok rv s1=>
  rw[e]at h
  cases rv with
  | own i=>exact h.elim
  | new o=>exact h.elim
  | val x=>
   cases x with
   | r n=>exact h.elim
   | tp l=>exact h.elim
   | d x=>
    cases x with
    | tup ds'=>exact fun Z' l' H' v g r' q'=>Dw r r' q' h
    | _=>exact h.elim
theorem Gz{k n:Nat}{fA:Addr}{fd:FuncData}{ps:List Str}{x:Str}{g:Fn}{fs:State→Res (List RV)}{cA:String→Addr}(hC:C.cA=cA)(tk:Takes X C.W)(F:FnOk X.prog X.w X.K X.mg X.base (L2.CX X.prog X.w) k fA fd ps (bz cA n g))(hr:Room k X.A)(hg:Gl X x)(hm:X.mg x=some (.ref fA))(hk:PySem.W.keepIn X.K (.ref fA)=true)
  (hb:Binds X.K fd ps []) (hn:ps.length=n) (ha:PA X (e::es) (bS C fs)) (hdb:(x==("__debug__":Str))=false) (hs:(e::es).all notStar=true):
  PE X (.Call (.Name x p) (e::es) [] pos) (ai C (qX n fs g)):=by
 subst hn hC
 have hs':=hs
 simp only[List.all_cons,Bool.and_eq_true]at hs
 refine aQ (DI F hr hg hm hk hb (fun σ=>passAt tk σ) ha hdb (aX hs.1) (c5 hs.2)) fun sv H Q h=>(bS.at h).imp fun vs H1 ⟨Z,loc,s,xs,r,q,h⟩=>?_
 cases e1:aD xs s with
 | stuck=>rw[e1]at h;exact h.elim
 | exc x s1=>exact absurd e1 dJ
 | ok args s1=>
  rw[e1]at h
  simp only[Res.bind]at h
  obtain⟨Z1,g1,r1,q1⟩:=r.aD q e1
  split at h
  ·rename_i ds e2
   split at h
   ·rename_i hn
    exact F6 r1 (oE e2▸q1) hn.1 hn.2 (EPost.ext h g1)
   ·exact h.elim
  ·exact h.elim
end
end Vw
namespace Vw
open PySem L2 PyProof.Rows
def zx(t:List Nat):Option Int:=match PySem.intText? ⟨t.toArray⟩with
 | some n=>if t.length≤640 then some n else none
 | none=>none
def xq(rs:List RV)(s:State):Res RV:=
 match rs with
 | [x]=>match dv s x with
  | some (.str t)=>(match zx t with
   | some n=>aH (.int n) s
   | none=>.stuck)
  | _=>.stuck
 | _=>.stuck
section
variable{C:Cst}{Z Z' Zc:Hp}{loc loc' l':List Addr}{s s':State}{sv sv':L2.St}{H H':Hp}
theorem Dg:nC C xq (fun xs H Q=>∃ a n,xs=[.str a]∧PySem.intText? a=some n∧a.length≤640∧Q (.int n) H):=by
 intro Z loc s sv H rs vs Q r q h
 unfold xq at h
 split at h
 ·split at h
  ·rename_i t e
   obtain⟨v,rfl,rfl⟩:=zP r q e
   split at h
   ·rename_i n hn
    unfold zx at hn
    split at hn
    ·rename_i m hm
     split at hn
     ·rename_i hl
      cases hn
      exact⟨_,n,rfl,hm,by simpa [Str.length]using hl,h.aH r rfl⟩
     ·cases hn
    ·cases hn
   ·exact h.elim
  ·exact h.elim
 ·exact h.elim
end
end Vw
namespace Vw
open PySem L2 PyProof.Rows
def sx(a b:List Nat):List (List Nat):=(Txt.split (Vw.st a) (Vw.st b)).map fun x=>x.cps.toList
def tT(o:RV)(rs:List RV)(s:State):Res RV:=
 match rs with
 | [x]=>match dv s o,dv s x with
  | some (.str a),some (.str b)=>if b≠[]∧a.length+2≤sizeLine then .ok (.new (.lst ((sx a b).map fun t=>.d (.str t)))) s else .stuck
  | _,_=>.stuck
 | _=>.stuck
def mC(a b:List Nat):List Nat×List Nat×List Nat:=((Txt.partition (Vw.st a) (Vw.st b)).1.cps.toList,(Txt.partition (Vw.st a) (Vw.st b)).2.1.cps.toList,(Txt.partition (Vw.st a) (Vw.st b)).2.2.cps.toList)
def iQ(o:RV)(rs:List RV)(s:State):Res RV:=
 match rs with
 | [x]=>match dv s o,dv s x with
  | some (.str a),some (.str b)=>if b≠[]∧a.length≤sizeLine then .ok (.val (fP [.d (.str (mC a b).1),.d (.str (mC a b).2.1),.d (.str (mC a b).2.2)])) s else .stuck
  | _,_=>.stuck
 | _=>.stuck
def qe(rs:List RV)(s:State):Res RV:=
 match rs with
 | [x]=>match lv s x with
  | some l=>.ok (.val (fP l)) s
  | none=>.stuck
 | _=>.stuck
def yi(x y z:List Nat):List Nat:=(Txt.replace (Vw.st x) (Vw.st y) (Vw.st z)).cps.toList
def tZ(i:Nat)(y z:List Nat)(s:State):Res RV:=match s.sg[i]? with
 | some (some (.v (.d (.str x))))=>if x.length+(x.length+1)*z.length≤16777216 then aH (.str (yi x y z)) s else .stuck
 | _=>.stuck
def sT(f:State→Res RV)(s:State):Res (List Val):=match ev f s with
 | .ok (.val (.tp l)) s'=>.ok l s'
 | _=>sD f itemsOf s
section
variable{C:Cst}{Z Z' Zc:Hp}{loc loc' l':List Addr}{s s':State}{sv sv':L2.St}{H H':Hp}
variable{X:Cx}{e a b c o tg:Expr}{es:List Expr}{p pos apos:Pos}{f fa fb fc fo fi fv:State→Res RV}
theorem xH(x:Str):(⟨x.cps.toList.toArray⟩:Str)=x:=by simp
theorem sI{cA:String→Addr}:∀ l:List Str,aB cA Z loc (l.map fun x=>Val.d (.str x.cps.toList)) (l.map V.str)
 | []=>rfl
 | x::l=>⟨_,_,rfl,by show V.str x=V.str _;rw[xH],sI l⟩
theorem B1:vS C tT (fun x xs H Q=>∃ a b,x=.str a∧xs=[.str b]∧(b.length==0)=false∧a.length+2≤sizeLine∧rNewStrs (Txt.split a b) H Q):=by
 intro Z loc s sv H o v rs vs Q r q qs h
 unfold tT at h
 split at h
 ·split at h
  ·rename_i a b e1 e2
   split at h
   ·rename_i hl
    have qa:v=.str ⟨a.toArray⟩:=r.dv q e1
    obtain⟨w,rfl,qb⟩:=zP r qs e2
    have qb:w=.str ⟨b.toArray⟩:=qb
    subst qa qb
    refine⟨_,_,rfl,rfl,?_,by simpa [Str.length]using hl.2,fun p np=>h.new r np (by simp) ⟨_,upd_same,?_⟩⟩
    ·cases b with
     | nil=>exact absurd rfl hl.1
     | cons c b=>simp[Str.length]
    ·unfold sx
     rw[List.map_map]
     exact sI _
   ·exact h.elim
  ·exact h.elim
 ·exact h.elim
theorem oN:vS C iQ (fun x xs H Q=>∃ a b,x=.str a∧xs=[.str b]∧(b.length==0)=false∧a.length≤sizeLine∧
  ∀ p,H p=none→Q (.ref p) (upd H p (.tup [.str (Txt.partition a b).1,.str (Txt.partition a b).2.1,.str (Txt.partition a b).2.2]))):=by
 intro Z loc s sv H o v rs vs Q r q qs h
 unfold iQ at h
 split at h
 ·split at h
  ·rename_i a b e1 e2
   split at h
   ·rename_i hl
    have qa:v=.str ⟨a.toArray⟩:=r.dv q e1
    obtain⟨w,rfl,qb⟩:=zP r qs e2
    have qb:w=.str ⟨b.toArray⟩:=qb
    subst qa qb
    refine⟨_,_,rfl,rfl,?_,by simpa [Str.length]using hl.2,fun p np=>h.tup r ?_ np⟩
    ·cases b with
     | nil=>exact absurd rfl hl.1
     | cons c b=>simp[Str.length]
    ·exact sI (Z:=Z) (loc:=loc) (cA:=C.cA) [_,_,_]
   ·exact h.elim
  ·exact h.elim
 ·exact h.elim
theorem v9(K:PySem.W.Frag):nC C qe (fun xs H Q=>∃ p ys,xs=[.ref p]∧((SqL K H p ys∧∀ l,H l=none→Q (.ref l) (upd H l (.tup ys)))∨(SqT K H p ys∧Q (.ref p) H))):=by
 intro Z loc s sv H rs vs Q r q h
 unfold qe at h
 split at h
 ·obtain⟨v,t,rfl,st,q1,q2⟩:=q
  cases q2
  split at h
  ·rename_i l e
   obtain⟨a,xs,rfl,h1,h2⟩:=r.lv q1 e
   exact⟨a,xs,rfl,.inl ⟨.inl h1,fun p np=>h.tup r h2 np⟩⟩
  ·exact h.elim
 ·exact h.elim
def rF(X:Cx)(e:Expr)(t:TE):Prop:=
 ∀ (pins:List (Addr×Obj)) (s:Shared) (σ:L2.St) (H:Hp) (Q:VK),Inv X pins σ H s→t σ H Q→wpAny (model X.prog X.w) X.A (eval e X.env) (fun u s'=>1≤s'.toks∧EP X pins σ Q u s') X.xe s
theorem yd{t t':TE}(h:rF X e t)(m:∀ sv H Q,t' sv H Q→t sv H Q):rF X e t':=fun pins s σ H Q I q=>h pins s σ H Q I (m _ _ _ q)
theorem DA{t t':TE}(h:PET X e t)(m:∀ sv H Q,t' sv H Q→t sv H Q):PET X e t':=fun pins s σ H Q k I q=>h pins s σ H Q k I (m _ _ _ q)
theorem EU{x:Str}{j:Nat}{pos:Pos}:rF X (.Constant (.str x) j pos) (tC (.str x)):=fun pins s σ H Q I h=>Calls.Constant_str ⟨Nat.le_add_left ..,.str x,H,I.tok _,⟨_,rfl⟩,h⟩
theorem HM{x:Str}{j:Nat}{pos:Pos}{t:List Nat}(ht:x=⟨t.toArray⟩):rF X (.Constant (.str x) j pos) (ai C (fD (.str t))):=
 yd EU fun sv H Q ⟨Z,loc,s,r,h⟩=>EPost.aH h r (by subst ht;rfl)
theorem Ga{op:Operator}{r:R2}{ta tb:TE}(ho:OpR X (binaryOp op) r)(ha:PE X a ta)(hb:rF X b tb):rF X (.BinOp a op b pos) (tOp r ta tb):=fun pins s σ H Q I h=>by
 refine wpAny_BinOp (thn (ha.run pins s σ H _ I h) fun v s1 ⟨x,H1,I1,r1,q1⟩=>?_)
 refine thn (hb pins s1 σ H1 _ I1 q1) fun u s2 ⟨hk,y,H2,I2,r2,q2⟩=>?_
 exact wpAny_mono (PySem.wpAny_toks_of hk (ho pins s2 σ H2 x y v u Q I2 r1 r2 q2)) (fun _ _ z=>z) fun _ _ z=>z.2
theorem Hx{op:Operator}{r:R2}{ta tb:TE}(ho:OpR X (binaryOp op) r)(ha:rF X a ta)(hb:PET X b tb):PE X (.BinOp a op b pos) (tOp r ta tb):=by
 refine⟨fun pins s σ H Q I h=>?_⟩
 refine wpAny_BinOp (thn (ha pins s σ H _ I h) fun v s1 ⟨hk,x,H1,I1,r1,q1⟩=>?_)
 refine thn (hb pins s1 σ H1 _ hk I1 q1) fun u s2 ⟨y,H2,I2,r2,q2⟩=>?_
 exact ho pins s2 σ H2 x y v u Q I2 r1 r2 q2
theorem Gm(ha:PE X a (ai C fa))(hb:rF X b (ai C fb)):rF X (.BinOp a .Add b pos) (ai C (ao fa fb (binop .add))):=by
 obtain⟨r,ho,hs⟩:=yZ (C:=C) (X:=X) .add
 exact yd (Ga ho ha hb) fun sv H Q h=>qV hs h
theorem F2(ha:rF X a (ai C fa))(hb:PET X b (ai C fb)):PE X (.BinOp a .Add b pos) (ai C (ao fa fb (binop .add))):=by
 obtain⟨r,ho,hs⟩:=yZ (C:=C) (X:=X) .add
 exact aQ (Hx ho ha hb) fun sv H Q h=>qV hs h
def JB(ik:Nat)(y z:Str):TE:=fun σ H Q=>∃ x,σ[ik]? =some (some (.str x))∧x.length+(x.length+1)*z.length≤16777216∧Q (.str (Txt.replace x y z)) H
theorem CK{ik:Nat}{kx y z:Str}{j0 j1:Nat}{p1 c0 c1 apos pos:Pos}(hNk:X.N[ik]? =some kx)(hvk:Vis X.env.scope kx)(hdk:(kx==("__debug__":Str))=false)(hck:(kx==("__classdict__":Str))=false)(hyz:(y==z)=false)
  (hst:starEach [.Constant (.str y) j0 c0,.Constant (.str z) j1 c1] X.env=[(false,eval (.Constant (.str y) j0 c0) X.env),(false,eval (.Constant (.str z) j1 c1) X.env)])
  (hbase:attributeBase (.Name kx p1) "replace" X.env (eval (.Name kx p1) X.env)=eval (.Name kx p1) X.env) (hline:(apos.endLine==pos.line)=true):
  PET X (.Call (.Attribute (.Name kx p1) "replace" apos) [.Constant (.str y) j0 c0,.Constant (.str z) j1 c1] [] pos) (JB ik y z):=by
 intro pins s σ H Q hk I h
 obtain⟨x,hx,hb,q⟩:=h
 refine PySem.Call_method2 hbase hst hline (raw_name hNk hvk I hx (fun v r=>?_) hdk hck)
 obtain⟨tx,e⟩:=r
 subst e
 refine⟨"str",_,F.plainAttrs_str,F.slot_str_replace,F.type_str_replace,typeIs_str _ _ _,(fun _ e=>nomatch e),Calls.callWith_builtin rfl (Calls.evalArgs_plain (Calls.spliced_cons ?_))⟩
 refine Calls.Constant_str ?_
 refine Calls.spliced_cons (Calls.Constant_str ?_)
 refine Calls.spliced_nil ?_
 exact PySem.SC.replace (by show s.toks≠0;omega) (by show s.toks+1≠0;omega) (by show s.toks≠s.toks+1;omega) hyz hb fun t' k=>⟨.str (Txt.replace x y z),H,I.tok k,⟨t',rfl⟩,q⟩
theorem GZ{ik:Nat}{kx y z:Str}{ty tz:List Nat}{j0 j1:Nat}{p1 c0 c1 apos pos:Pos}(hNk:X.N[ik]? =some kx)(hvk:Vis X.env.scope kx)(hdk:(kx==("__debug__":Str))=false)(hck:(kx==("__classdict__":Str))=false)(hyz:(y==z)=false)
  (hy:y=⟨ty.toArray⟩) (hz:z=⟨tz.toArray⟩)
  (hst:starEach [.Constant (.str y) j0 c0,.Constant (.str z) j1 c1] X.env=[(false,eval (.Constant (.str y) j0 c0) X.env),(false,eval (.Constant (.str z) j1 c1) X.env)])
  (hbase:attributeBase (.Name kx p1) "replace" X.env (eval (.Name kx p1) X.env)=eval (.Name kx p1) X.env) (hline:(apos.endLine==pos.line)=true):
  PET X (.Call (.Attribute (.Name kx p1) "replace" apos) [.Constant (.str y) j0 c0,.Constant (.str z) j1 c1] [] pos) (ai C (tZ ik ty tz)):=by
 subst hy hz
 refine DA (CK hNk hvk hdk hck hyz hst hbase hline) fun sv H Q ⟨Z,loc,s,r,h⟩=>?_
 unfold tZ at h
 split at h
 ·rename_i x e
  split at h
  ·rename_i hl
   obtain⟨v,h1,h2⟩:=r.vl ik _ e
   have h2:v=.str ⟨x.toArray⟩:=h2
   subst h2
   refine⟨_,h1,by simpa [Str.length]using hl,h.aH r ?_⟩
   show V.str _=V.str _
   unfold yi Vw.st
   rw[xH]
  ·exact h.elim
 ·exact h.elim
theorem Hw{K:PySem.W.Frag}{l:List Val}{a:Addr}{vs:List V}(hz:Z a=some (.tup vs))(q:aB C.cA Z loc l vs):
  WalkS C Z loc l (Itt K a) (fun H=>SqT K H a vs) (YAt vs):=by
 have hl:l.length=vs.length:=bu (loc:=loc) q
 refine⟨by rw[hl];exact walk_tup,fun Z' loc' s sv H g r=>?_,fun Z' loc' s sv H i x v H' g r hx y=>?_⟩
 ·exact .inl (.inl ((r.zh a _ (g.1 _ _ hz)).at rfl))
 ·obtain⟨rfl,y⟩:=y
  obtain⟨v',h1,h2⟩:=fF q hx
  rw[y]at h1
  cases h1
  exact⟨Z',Ext.refl _ _,lV.refl _ _,r,h2.mono g⟩
theorem I0(he:PE X e (ai C f)):PI X tg e (jC C (sT f)):=by
 refine qM (tc (pi_tup he) (kD he)) fun sv H R ⟨Z,loc,s,r,q⟩=>?_
 unfold sT at q
 cases e1:ev f s with
 | stuck=>rw[e1]at q;exact .inr ⟨Z,loc,s,r,q⟩
 | exc x s1=>rw[e1]at q;exact .inr ⟨Z,loc,s,r,q⟩
 | ok rv s1=>
  cases rv with
  | new o=>rw[e1]at q;exact .inr ⟨Z,loc,s,r,q⟩
  | own i=>rw[e1]at q;exact .inr ⟨Z,loc,s,r,q⟩
  | val y=>
   cases y with
   | d d=>rw[e1]at q;exact .inr ⟨Z,loc,s,r,q⟩
   | r n=>rw[e1]at q;exact .inr ⟨Z,loc,s,r,q⟩
   | tp l=>
    rw[e1]at q
    refine .inl ((ai.HC r e1).imp fun v H1 ⟨Z',l',g,r1,st,rv⟩=>?_)
    obtain⟨a,vs,rfl,hz,qv⟩:=rv
    have wk:=Hw (C:=C) (loc:=l') (K:=X.K) hz qv
    exact⟨a,rfl,⟨vs,wk.g Z' l' _ sv H1 (Ext.refl _ _) r1⟩,q Z' l' H1 C _ _ _ (CLe.refl C) g r1 wk⟩
end
end Vw
namespace K33
open PySem L2 PyProof.Rows Vw
abbrev fJ(K:PySem.W.Frag)(x q:Str)(st:Stmt)(f:Addr)(fd:FuncData):Prop:=FunD K x q (defArgs st) (defBody st) (defScope st) [] [] f fd
def jP:=aR 3 (ao (rJ (ae 0) .no (.ex (fD (.int 63)))) (dk [(ae 1)]) (binop .add))
def jA:=aR 4 (dk [])
def i5:=ao (ae 10) (fD (.int 100000)) (binop .fdiv)
def iY:=ah [(aR 9 (ao (ae 5) (bF (aj [(ae 6)]) cV) (binop .mod))),(b7 (aT (ao (ae 5) (ae 1) (aI .ge))) (ah [(cN (gK "list" (ae 4) (aj [(ao (ao (ae 6) (ae 9) bZ) (fD (.int 2147483587)) (binop .mod))]) bAppend eI))]) (ah [])),(uz (ae 6) (ae 9) (ao (ao (ae 6) (ae 9) bZ) (fD (.int 2147483587)) (binop .fdiv)))]
def jB:=b7 (aT (ao (ao (ao (ao (ae 3) (fD (.int 0)) bZ) (fD (.int 50000)) (binop .fdiv)) (fD (.int 2)) (binop .mod)) (fD (.int 1)) (aI .eq))) (ah [(aR 6 (jr [10] (.nm 10) (sD (ae 3) itemsOf) iq i5)),(de (.nm 5) (fq (aj [(ao (ae 1) (ae 2) (binop .add))]) ee) iY),(aP (ae 4))]) (ah [])
def jh:=ah [(aR 7 (ao (ao (ao (ao (ae 5) (ae 1) (binop .add)) (ao (ae 5) (ae 1) (binop .add)) (binop .mul)) (fD (.int 7919)) (binop .mul)) (fD (.int 104729)) (binop .add))),(aR 8 (ao (ao (ao (ao (ao (ae 3) (ao (ae 5) (bF (aj [(ae 3)]) cV) (binop .mod)) bZ) (fD (.int 2147483647)) (binop .mod)) (ae 7) (binop .add)) (fD (.int 48271)) (binop .mul)) (fD (.int 2147483647)) (binop .mod))),(aR 8 (ao (ao (ao (ae 8) (ae 8) (binop .mul)) (ao (fD (.int 69621)) (ae 5) (binop .mul)) (binop .add)) (fD (.int 2147483629)) (binop .mod))),(cN (gK "list" (ae 4) (aj [(ao (ao (ae 8) (ae 8) (binop .mul)) (fD (.int 2147483587)) (binop .mod))]) bAppend eI))]
def jL:=de (.nm 5) (fq (aj [(ae 2)]) ee) jh
def jw:=aP (ae 4)
def ja:=ah [jP,jA,jB,jL,jw]
def dZ:Fn:=cB 11 ja
def md:=b7 (aT (ao (ae 0) (dk []) (aI .eq))) (ah [(aP (fD (.int 0)))]) (ah [])
def l8:=aP (gK "list" (ae 0) (aj []) uy eI)
def kQ:=ah [md,l8]
def bq:Fn:=cB 1 kQ
def uw:=aR 1 (fD (.str (sS "abcdefghijklmnopqrstuvwxyz")))
def ux:=aR 2 Ba
def tq:=ao (ae 1) (ao (ao (ao (ae 4) (fD (.int 13)) (binop .fdiv)) (ao (ao (ae 6) (ae 6) (binop .mul)) (fD (.int 7)) (binop .mul)) (binop .add)) (fD (.int 26)) (binop .mod)) bZ
def ti:=ah [(aR 4 (bR 1 (aj [(ae 0)]) bq)),(aR 5 (gK "str" (fD (.str (sS ""))) (aj [(jr [6] (.nm 6) (fq (aj [(ao (fD (.int 1)) (ao (ae 4) (fD (.int 11)) (binop .mod)) (binop .add))]) ee) iq tq)]) m4 jW)),(uz (ae 2) (ao (ao (ae 1) (ao (ao (ae 4) (fD (.int 500)) (binop .fdiv)) (fD (.int 26)) (binop .mod)) bZ) (ae 5) (binop .add)) (fD (.bl true)))]
def u4:=de (.nm 3) (fq (aj [(ao (dk [(fD (.int 0)),(fD (.int 1)),(fD (.int 2)),(fD (.int 3)),(fD (.int 1)),(fD (.int 2))]) (ao (bR 1 (aj [(ae 0)]) bq) (fD (.int 6)) (binop .mod)) bZ)]) ee) ti
def uW:=aP (bF (aj [(ae 2)]) qG)
def qp:=ah [uw,ux,u4,uW]
def gP:Fn:=cB 7 qp
def kB:=aR 1 (fD (.str (sS " !\"#$&'()*+,-./0123456789:;<=>?@ABCDEFGHIJKLMNOPQRSTUVWXYZ[\\]^_`abcdefghijklmnopqrstuvwxyz{|}~")))
def ki:=aR 2 (fD (.str (sS "")))
def jH:=ah [(aR 4 (bR 1 (aj [(ae 0)]) bq)),(aR 5 (ao (dk [(ae 1),(fD (.str (sS "' a:"))),(fD (.str (sS "ab''")))]) (ao (ae 4) (fD (.int 3)) (binop .mod)) bZ)),(aR 2 (ao (ae 2) (ao (ae 5) (ao (ao (ae 4) (fD (.int 3)) (binop .fdiv)) (bF (aj [(ae 5)]) cV) (binop .mod)) bZ) (binop .add)))]
def kH:=de (.nm 3) (fq (aj [(ao (bR 1 (aj [(ae 0)]) bq) (fD (.int 10)) (binop .mod))]) ee) jH
def kL:=aP (ae 2)
def jV:=ah [kB,ki,kH,kL]
def gm:Fn:=cB 6 jV
def qg:=iA [(ae 1),(bR 1 (aj [(ae 0)]) gm)]
def rf:=aP (jr [1] (.nm 1) (sD (bR 1 (aj [(ae 0)]) gP) itemsOf) iq qg)
def mY:=ah [rf]
def cP:Fn:=cB 2 mY
def uf:=aR 2 (bR 1 (aj [(ae 1)]) bq)
def tm:=aR 3 (ao (rJ (ae 0) .no (.ex (fD (.int 63)))) (dk [(ae 2)]) (binop .add))
def sY:=aP (ao (dk [(ao (ao (ae 2) (fD (.int 4)) (binop .fdiv)) (fD (.int 10)) (binop .mod)),(ao (ao (ae 2) (fD (.int 4)) (binop .fdiv)) (fD (.int 4)) (binop .mod)),(ao (ao (ae 3) (ao (ao (ae 2) (fD (.int 4)) (binop .fdiv)) (bF (aj [(ae 3)]) cV) (binop .mod)) bZ) (ao (fD (.int 10)) (fD (.int 60)) (binop .pow)) (binop .mod)),(ao (ao (fD (.int 10)) (fD (.int 59)) (binop .pow)) (ae 2) (binop .add))]) (ao (ae 2) (fD (.int 4)) (binop .mod)) bZ)
def oW:=ah [uf,tm,sY]
def bT:Fn:=cB 4 oW
def wR:=aR 2 (bR 1 (aj [(ae 1)]) bq)
def wX:=aR 3 (ao (dk [(fD (.str (sS "put"))),(fD (.str (sS "change"))),(fD (.str (sS "take"))),(fD (.str (sS "stamp"))),(fD (.str (sS "drop"))),(fD (.str (sS "seal"))),(fD (.str (sS "pour"))),(fD (.str (sS "thin"))),(fD (.str (sS "pack"))),(fD (.str (sS "put"))),(fD (.str (sS "change")))]) (ao (ae 2) (fD (.int 11)) (binop .mod)) bZ)
def wC:=b7 (aT (ao (ae 3) (fD (.str (sS "put"))) (aI .eq))) (ah [(aP (iA [(ae 3),(bR 1 (aj [(ae 1)]) cP)]))]) (ah [])
def wL:=b7 (aT (ao (ae 3) (fD (.str (sS "change"))) (aI .eq))) (ah [(aP (iA [(ae 3),(bR 2 (aj [(ae 0),(ae 1)]) bT),(bR 1 (aj [(ae 1)]) cP)]))]) (ah [])
def wQ:=b7 (aT (ao (ae 3) (dk [(fD (.str (sS "stamp"))),(fD (.str (sS "seal"))),(fD (.str (sS "thin")))]) (aI .isin))) (ah [(aP (iA [(ae 3)]))]) (ah [])
def w8:=b7 (aT (ao (ae 3) (fD (.str (sS "pour"))) (aI .eq))) (ah [(aP (iA [(ae 3),(bR 2 (aj [(ae 0),(ae 1)]) bT),(bR 2 (aj [(ae 0),(ae 1)]) bT)]))]) (ah [])
def wy:=aP (iA [(ae 3),(bR 2 (aj [(ae 0),(ae 1)]) bT)])
def rK:=ah [wR,wX,wC,wL,wQ,w8,wy]
def gh:Fn:=cB 4 rK
def jQ:=G2 (aT (bE "list" (ae 1))) (bF (aj [(ae 1)]) mL) (ae 1)
def wo:=aP (bF (aj [(jr [1] (.nm 1) (sD (ae 0) itemsOf) iq jQ)]) qe)
def nz:=ah [wo]
def gj:Fn:=cB 2 nz
def wM:=aR 1 (ao (ae 0) (fD (.int 0)) bZ)
def u3:=ah [(aR 1 (ao (ao (ae 1) (ae 5) (binop .add)) (ao (dk [(fD (.str (sS ""))),(fD (.str (sS "'")))]) (bF (aj [(ao (ae 5) (fD (.str (sS "'"))) (aI .eq))]) uU) bZ) (binop .add)))]
def uL:=ah [(aR 1 (ao (ao (ao (ae 1) (fD (.str (sS " "))) (binop .add)) (ae 3) (binop .add)) (fD (.str (sS ":'"))) (binop .add))),(de (.nm 5) (sD (ae 4) itemsOf) u3),(aR 1 (ao (ae 1) (fD (.str (sS "'"))) (binop .add)))]
def uP:=ah [(b7 (aT (bE "int" (ae 2))) (ah [(aR 1 (ao (ao (ae 1) (fD (.str (sS " "))) (binop .add)) (bF (aj [(ae 2)]) ud) (binop .add)))]) (ah [(b7 (aT (ao (ae 2) (dk []) (aI .eq))) (ah [(aR 1 (ao (ae 1) (fD (.str (sS " none"))) (binop .add)))]) (ah [(de (.tp [(.nm 3),(.nm 4)]) (sD (ae 2) itemsOf) uL)]))]))]
def wW:=de (.nm 2) (sD (rJ (ae 0) (.ex (fD (.int 1))) .no) itemsOf) uP
def w0:=aP (ae 1)
def rD:=ah [wM,wW,w0]
def gp:Fn:=cB 6 rD
def vu:=aP (ao (ao (ao (ae 0) (fD (.str (sS ":'"))) (binop .add)) (tZ 1 (sS "'") (sS "''")) (binop .add)) (fD (.str (sS "'"))) (binop .add))
def pX:=ah [vu]
def gX:Fn:=cB 2 pX
def rn:=b7 (aT (ao (bF (aj [(ae 0)]) cV) (fD (.int 0)) (aI .eq))) (ah [(aP (fD (.str (sS "none"))))]) (ah [])
def pF:=bR 2 (aj [(ae 1),(ae 2)]) gX
def rp:=aP (gK "str" (fD (.str (sS " "))) (aj [(jr [1,2] (.tp [(.nm 1),(.nm 2)]) (sD (ae 0) itemsOf) iq pF)]) m4 jW)
def mZ:=ah [rn,rp]
def eT:Fn:=cB 3 mZ
def wq:=aR 1 (dk [(ao (ae 0) (fD (.int 0)) bZ)])
def uZ:=ah [(b7 (aT (bE "list" (ae 2))) (ah [(cN (gK "list" (ae 1) (aj [(bR 1 (aj [(ae 2)]) eT)]) bAppend eI))]) (ah [(cN (gK "list" (ae 1) (aj [(bF (aj [(ae 2)]) ud)]) bAppend eI))]))]
def wu:=de (.nm 2) (sD (rJ (ae 0) (.ex (fD (.int 1))) .no) itemsOf) uZ
def wN:=aP (gK "str" (fD (.str (sS " "))) (aj [(ae 1)]) m4 jW)
def rA:=ah [wq,wu,wN]
def gc:Fn:=cB 3 rA
def kU:=xg fT "line" (ae 0) (ae 1)
def kP:=xg fT "at" (ae 0) (fD (.int 0))
def hQ:=ah [kU,kP]
def ek:Fn:=cB 2 hQ
def kn:=aR 1 (jf fT "at" (ae 0))
def j9:=ah [(jR fT "at" .add (ae 0) (fD (.int 1)))]
def km:=oX ip (kE [(aT (ao (jf fT "at" (ae 0)) (bF (aj [(jf fT "line" (ae 0))]) cV) (aI .lt))),(aT (ao (ao (jf fT "line" (ae 0)) (jf fT "at" (ae 0)) bZ) (fD (.str (sS "abcdefghijklmnopqrstuvwxyz"))) (aI .isin)))]) j9
def kK:=aP (rJ (jf fT "line" (ae 0)) (.ex (ae 1)) (.ex (jf fT "at" (ae 0))))
def gW:=ah [kn,km,kK]
def dV:Fn:=cB 2 gW
def CQ:=b7 (fj (aT (ae 0))) (ah [(ql "NoLine")]) (ah [])
def Bh:=ah [CQ]
def dX:Fn:=cB 1 Bh
def nq:=aP (rJ (jf fT "line" (ae 0)) (.ex (jf fT "at" (ae 0))) (.ex (ao (jf fT "at" (ae 0)) (ae 1) (binop .add))))
def iX:=ah [nq]
def bA:Fn:=cB 2 iX
def oq:=cN (fu 1 (aj [(ao (d6 cW "FieldReader" "ahead" 2 (ae 0) (aj [(bF (aj [(ae 1)]) cV)]) bA) (ae 1) (aI .eq))]) dX)
def oh:=jR fT "at" .add (ae 0) (bF (aj [(ae 1)]) cV)
def jX:=ah [oq,oh]
def cG:Fn:=cB 2 jX
def kq:=cN (d6 eU "FieldReader" "eat" 2 (ae 0) (aj [(fD (.str (sS "'")))]) cG)
def kA:=aR 1 (dk [])
def j6:=ah [(cN (fu 1 (aj [(ao (d6 cW "FieldReader" "ahead" 2 (ae 0) (aj [(fD (.int 1))]) bA) (fD (.str (sS ""))) (aI .ne))]) dX)),(cN (gK "list" (ae 1) (aj [(d6 cW "FieldReader" "ahead" 2 (ae 0) (aj [(fD (.int 1))]) bA)]) bAppend eI)),(jR fT "at" .add (ae 0) (ao (fD (.int 1)) (bF (aj [(ao (d6 cW "FieldReader" "ahead" 2 (ae 0) (aj [(fD (.int 1))]) bA) (fD (.str (sS "'"))) (aI .eq))]) uU) (binop .add)))]
def ky:=oX ip (lB [(aT (ao (d6 cW "FieldReader" "ahead" 2 (ae 0) (aj [(fD (.int 1))]) bA) (fD (.str (sS "'"))) (aI .ne))),(aT (ao (d6 cW "FieldReader" "ahead" 2 (ae 0) (aj [(fD (.int 2))]) bA) (fD (.str (sS "''"))) (aI .eq)))]) j6
def kG:=cN (d6 eU "FieldReader" "eat" 2 (ae 0) (aj [(fD (.str (sS "'")))]) cG)
def kJ:=aP (gK "str" (fD (.str (sS ""))) (aj [(ae 1)]) m4 jW)
def gU:=ah [kq,kA,ky,kG,kJ]
def dU:Fn:=cB 2 gU
def kb:=aR 1 (d6 cW "FieldReader" "next_name" 1 (ae 0) (aj []) dV)
def j7:=cN (d6 eU "FieldReader" "eat" 2 (ae 0) (aj [(fD (.str (sS ":")))]) cG)
def j3:=aP (iA [(ae 1),(d6 eU "FieldReader" "next_text" 1 (ae 0) (aj []) dU)])
def gB:=ah [kb,j7,j3]
def cI:Fn:=cB 2 gB
def yS:=ao (ae 1) (fD (.str (sS "abcdefghijklmnopqrstuvwxyz"))) (aI .isin)
def y9:=aP (eg [(zq (fD (.int 0)) (bF (aj [(ae 0)]) cV) (fD (.int 12)) (aI .lt) (aI .le)),(bF (aj [(jr [1] (.nm 1) (sD (ae 0) itemsOf) iq yS)]) Au)])
def vD:=ah [y9]
def jZ:Fn:=cB 2 vD
def oC:=aR 1 (fD (.str (sS "")))
def nM:=ah [(b7 (lB [(fj (aT (bR 1 (aj [(ae 3)]) jZ))),(aT (ao (ae 3) (ae 1) (aI .le)))]) (ah [(qW "NoField" (ae 2))]) (ah [])),(aR 1 (ae 3))]
def oD:=de (.tp [(.nm 2),(.tp [(.nm 3),(.nm 4)])]) (sD (ae 0) mq) nM
def j4:=ah [oC,oD]
def dt:Fn:=cB 5 j4
def rg:=b7 (aT (ao (ae 0) (fD (.str (sS "none"))) (aI .eq))) (ah [(aP (dk []))]) (ah [])
def rj:=aR 1 (Ek cW "FieldReader" 2 (aj [(ae 0)]) ek)
def rm:=aR 2 (dk [(d6 eU "FieldReader" "next_field" 1 (ae 1) (aj []) cI)])
def qc:=ah [(cN (d6 eU "FieldReader" "eat" 2 (ae 1) (aj [(fD (.str (sS " ")))]) cG)),(cN (gK "list" (ae 2) (aj [(d6 eU "FieldReader" "next_field" 1 (ae 1) (aj []) cI)]) bAppend eI))]
def q9:=oX ip (aT (ao (jf fT "at" (ae 1)) (bF (aj [(ae 0)]) cV) (aI .lt))) qc
def pA:=ah [(cN (fu 1 (aj [(ae 2)]) dt))]
def rl:=rV DT "NoField" pA (fun _=>.stuck)
def rk:=aP (ae 2)
def mM:=ah [rg,rj,rm,q9,rl,rk]
def cu:Fn:=cB 3 mM
def wt:=cN (fu 1 (aj [(eg [(zq (fD (.int 0)) (bF (aj [(ae 0)]) cV) (fD (.int 60)) (aI .lt) (aI .le)),(jE [(ao (ao (ae 0) (fD (.int 0)) bZ) (fD (.str (sS "0"))) (aI .ne)),(ao (ae 0) (fD (.str (sS "0"))) (aI .eq))])])]) dX)
def vh:=ah [(cN (fu 1 (aj [(ao (ae 1) (fD (.str (sS "0123456789"))) (aI .isin))]) dX))]
def xb:=de (.nm 1) (sD (ae 0) itemsOf) vh
def wG:=aP (bF (aj [(ae 0)]) xq)
def rL:=ah [wt,xb,wG]
def eW:Fn:=cB 2 rL
def w5:=xp (.tp [(.nm 2),(.nm 3),(.nm 4)]) (gK "str" (ae 0) (aj [(fD (.str (sS " ")))]) iQ jW)
def wI:=b7 (aT (ao (ae 2) (fD (.str (sS "put"))) (aI .eq))) (ah [(aP (iA [(fD (.str (sS "put"))),(uh 1 (aj [(ae 4)]) cu)]))]) (ah [])
def wz:=b7 (aT (ao (ae 2) (fD (.str (sS "change"))) (aI .eq))) (ah [(xp (.tp [(.nm 5),(.nm 3),(.nm 6)]) (gK "str" (ae 4) (aj [(fD (.str (sS " ")))]) iQ jW)),(aP (iA [(fD (.str (sS "change"))),(fu 1 (aj [(ae 5)]) eW),(uh 1 (aj [(ae 6)]) cu)]))]) (ah [])
def wJ:=b7 (aT (ao (ae 0) (dk [(fD (.str (sS "stamp"))),(fD (.str (sS "seal"))),(fD (.str (sS "thin")))]) (aI .isin))) (ah [(aP (iA [(ae 0)]))]) (ah [])
def wV:=cN (fu 1 (aj [(ao (ae 2) (dk [(fD (.str (sS "take"))),(fD (.str (sS "drop"))),(fD (.str (sS "pack"))),(fD (.str (sS "pour")))]) (aI .isin))]) dX)
def vr:=bR 1 (aj [(ae 7)]) eW
def xa:=aR 1 (jr [7] (.nm 7) (sD (gK "str" (ae 4) (aj [(fD (.str (sS " ")))]) tT jW) itemsOf) iq vr)
def wD:=cN (fu 1 (aj [(ao (bF (aj [(ae 1)]) cV) (ao (fD (.int 1)) (bF (aj [(ao (ae 2) (fD (.str (sS "pour"))) (aI .eq))]) uU) (binop .add)) (aI .eq))]) dX)
def wx:=aP (bF (aj [(ao (dk [(ae 2)]) (ae 1) (binop .add))]) qe)
def rO:=ah [w5,wI,wz,wJ,wV,xa,wD,wx]
def gi:Fn:=cB 8 rO
def cb(rec:Fn):=b7 (aT (bE "str" (ae 1))) (ah [(aP (eg [(bE "str" (ae 0)),(ao (ae 0) (ae 1) (aI .eq))]))]) (ah [])
def c8(rec:Fn):=b7 (aT (bE "int" (ae 1))) (ah [(aP (eg [(bE "int" (ae 0)),(xn (bE "bool" (ae 0))),(ao (ae 0) (ae 1) (aI .eq))]))]) (ah [])
def fh(rec:Fn):=b7 (aT (bE "list" (ae 1))) (ah [(b7 (fj (aT (bE "list" (ae 0)))) (ah [(aP (fD (.bl false)))]) (ah []))]) (ah [(b7 (fj (aT (bE "tuple" (ae 0)))) (ah [(aP (fD (.bl false)))]) (ah []))])
def fB(rec:Fn):=b7 (aT (ao (bF (aj [(ae 0)]) cV) (bF (aj [(ae 1)]) cV) (aI .ne))) (ah [(aP (fD (.bl false)))]) (ah [])
def eP(rec:Fn):=ah [(b7 (fj (aT (mV 2 (aj [(ao (ae 0) (ae 2) bZ),(ao (ae 1) (ae 2) bZ)]) rec))) (ah [(aP (fD (.bl false)))]) (ah []))]
def fy(rec:Fn):=de (.nm 2) (fq (aj [(bF (aj [(ae 1)]) cV)]) ee) (eP rec)
def fg(rec:Fn):=aP (fD (.bl true))
def d3(rec:Fn):=ah [(cb rec),(c8 rec),(fh rec),(fB rec),(fy rec),(fg rec)]
def aE:Nat→Fn
 | 0=>fun _ _=>.stuck
 | k+1=>cB 3 (d3 (aE k))
def zj:=aR 1 (BK (bR 3 (aj [(ae 0),(fD (.int 2)),(fD (.int 90))]) dZ))
def iD:=ah [(b7 (aT (bE "list" (ae 9))) (ah [(cN (gK "list" (ae 9) (aj [(iA [(fD (.str (sS "zz"))),(fD (.str (sS "more")))])]) bAppend eI))]) (ah []))]
def yz:=ah [(aR 7 (sm 1 (aj [(ae 4)]) gc)),(aR 8 (qX 1 (aj [(ae 5)]) gi)),(b7 (lB [(fj (aT (lW 6 2 (aj [(ae 7),(ae 5)]) (aE 8)))),(fj (aT (lW 6 2 (aj [(ae 8),(ae 3)]) (aE 8)))),(aT (ao (ae 4) (ae 3) (aI .ne)))]) (ah [(aP (fD (.bl false)))]) (ah [])),(de (.nm 9) (sT (ae 8)) iD)]
def yX:=ah [(aR 3 (bR 2 (aj [(ae 0),(ae 1)]) gh)),(aR 4 (sm 1 (aj [(ae 3)]) gj)),(aR 5 (sm 1 (aj [(ae 3)]) gp)),(de (.nm 6) (fq (aj [(fD (.int 2))]) ee) yz)]
def zD:=de (.nm 2) (fq (aj [(fD (.int 2))]) ee) yX
def Fb:=aP (fD (.bl true))
def AK:=ah [zj,zD,Fb]
def ug:Fn:=cB 10 AK
end K33
namespace Sh
open PySem L2 PyProof.Rows Vw
def md:State→Res Fl:=(b7 (aT (ao (ae 0) (dk []) (aI .eq))) (ah [(aP (fD (.int 0)))]) (ah []))
def l8:State→Res Fl:=(aP (gK "list" (ae 0) (aj []) uy eI))
def kQ:State→Res Fl:=(ah [md,l8])
def bq:Fn:=cB 1 kQ
def vp:State→Res Fl:=(aP (fD (.str (sS " !\"#$&'()*+,-./0123456789:;<=>?@ABCDEFGHIJKLMNOPQRSTUVWXYZ[\\]^_`abcdefghijklmnopqrstuvwxyz{|}~"))))
def xM:State→Res Fl:=(ah [vp])
def yu:Fn:=cB 0 xM
def kB:State→Res Fl:=(aR 2 (bR 1 (aj [(ae 0)]) bq))
def ki:State→Res Fl:=(aR 3 (fD (.str (sS ""))))
def jH:State→Res Fl:=(ah [(aR 5 (bR 1 (aj [(ae 0)]) bq)),(aR 6 (ao (dk [(bR 0 (aj []) yu),(fD (.str (sS "abA19 "))),(fD (.str (sS "abzAZ09 ' ")))]) (ao (ae 5) (fD (.int 3)) (binop .mod)) bZ)),(aR 3 (ao (ae 3) (ao (ae 6) (ao (ao (ae 5) (fD (.int 3)) (binop .fdiv)) (bF (aj [(ae 6)]) cV) (binop .mod)) bZ) (binop .add)))])
def kH:State→Res Fl:=(de (.nm 4) (fq (aj [(ao (ae 2) (ao (ae 1) (fD (.int 1)) (binop .add)) (binop .mod))]) ee) jH)
def kL:State→Res Fl:=(aP (ae 3))
def jV:State→Res Fl:=(ah [kB,ki,kH,kL])
def gm:Fn:=cB 7 jV
def jP:State→Res Fl:=(aR 3 (ao (rJ (ae 0) .no (.ex (fD (.int 63)))) (dk [(ae 1)]) (binop .add)))
def jA:State→Res Fl:=(aR 4 (dk []))
def i5:State→Res RV:=(ao (ae 10) (fD (.int 100000)) (binop .fdiv))
def iY:State→Res Fl:=(ah [(aR 9 (ao (ae 5) (bF (aj [(ae 6)]) cV) (binop .mod))),(b7 (aT (ao (ae 5) (ae 1) (aI .ge))) (ah [(cN (gK "list" (ae 4) (aj [(ao (ao (ae 6) (ae 9) bZ) (fD (.int 2147483587)) (binop .mod))]) bAppend eI))]) (ah [])),(uz (ae 6) (ae 9) (ao (ao (ae 6) (ae 9) bZ) (fD (.int 2147483587)) (binop .fdiv)))])
def jB:State→Res Fl:=(b7 (aT (ao (ao (ao (ao (ae 3) (fD (.int 0)) bZ) (fD (.int 50000)) (binop .fdiv)) (fD (.int 2)) (binop .mod)) (fD (.int 1)) (aI .eq))) (ah [(aR 6 (jr [10] (.nm 10) (sD (ae 3) itemsOf) iq i5)),(de (.nm 5) (fq (aj [(ao (ae 1) (ae 2) (binop .add))]) ee) iY),(aP (ae 4))]) (ah []))
def jh:State→Res Fl:=(ah [(aR 7 (ao (ao (ao (ao (ae 5) (ae 1) (binop .add)) (ao (ae 5) (ae 1) (binop .add)) (binop .mul)) (fD (.int 7919)) (binop .mul)) (fD (.int 104729)) (binop .add))),(aR 8 (ao (ao (ao (ao (ao (ae 3) (ao (ae 5) (bF (aj [(ae 3)]) cV) (binop .mod)) bZ) (fD (.int 2147483647)) (binop .mod)) (ae 7) (binop .add)) (fD (.int 48271)) (binop .mul)) (fD (.int 2147483647)) (binop .mod))),(aR 8 (ao (ao (ao (ae 8) (ae 8) (binop .mul)) (ao (fD (.int 69621)) (ae 5) (binop .mul)) (binop .add)) (fD (.int 2147483629)) (binop .mod))),(cN (gK "list" (ae 4) (aj [(ao (ao (ae 8) (ae 8) (binop .mul)) (fD (.int 2147483587)) (binop .mod))]) bAppend eI))])
def jL:State→Res Fl:=(de (.nm 5) (fq (aj [(ae 2)]) ee) jh)
def jw:State→Res Fl:=(aP (ae 4))
def ja:State→Res Fl:=(ah [jP,jA,jB,jL,jw])
def dZ:Fn:=cB 11 ja
def cb(rec:Fn):State→Res Fl:=(b7 (aT (bE "str" (ae 1))) (ah [(aP (eg [(bE "str" (ae 0)),(ao (ae 0) (ae 1) (aI .eq))]))]) (ah []))
def c8(rec:Fn):State→Res Fl:=(b7 (aT (bE "int" (ae 1))) (ah [(aP (eg [(bE "int" (ae 0)),(xn (bE "bool" (ae 0))),(ao (ae 0) (ae 1) (aI .eq))]))]) (ah []))
def fh(rec:Fn):State→Res Fl:=(b7 (aT (bE "list" (ae 1))) (ah [(b7 (fj (aT (bE "list" (ae 0)))) (ah [(aP (fD (.bl false)))]) (ah []))]) (ah [(b7 (fj (aT (bE "tuple" (ae 0)))) (ah [(aP (fD (.bl false)))]) (ah []))]))
def fB(rec:Fn):State→Res Fl:=(b7 (aT (ao (bF (aj [(ae 0)]) cV) (bF (aj [(ae 1)]) cV) (aI .ne))) (ah [(aP (fD (.bl false)))]) (ah []))
def eP(rec:Fn):State→Res Fl:=(ah [(b7 (fj (aT (mV 2 (aj [(ao (ae 0) (ae 2) bZ),(ao (ae 1) (ae 2) bZ)]) rec))) (ah [(aP (fD (.bl false)))]) (ah []))])
def fy(rec:Fn):State→Res Fl:=(de (.nm 2) (fq (aj [(bF (aj [(ae 1)]) cV)]) ee) (eP rec))
def fg(rec:Fn):State→Res Fl:=(aP (fD (.bl true)))
def d3(rec:Fn):State→Res Fl:=(ah [(cb rec),(c8 rec),(fh rec),(fB rec),(fy rec),(fg rec)])
def aE:Nat→Fn
 | 0=>fun _ _=>.stuck
 | k+1=>cB 3 (d3 (aE k))
@[simp] theorem LZ(a b:List D)(s:State):oF (.val (.d (.lst a))) (.val (.d (.lst b))) s=(if a.length+b.length≤sizeLine then .ok (.new (.lst (a.map .d++b.map .d))) s else .stuck):=by
 show(if(a.map Val.d).length+(b.map Val.d).length≤sizeLine then _ else _)=_
 rw[List.length_map,List.length_map]
@[simp] theorem Fj(a b:List Nat)(s:State):oF (.val (.d (.str a))) (.val (.d (.str b))) s=(if a.length+b.length≤sizeLine then .ok (.val (.d (.str (a++b)))) s else .stuck):=id rfl
theorem BP{α:Type}(l:List α)(b:Nat):cy l none (some (b:Int))=l.take b:=by
 have h:=sA l 0 b
 simpa [cy,HT.sIx]using h
theorem Ac{n:Nat}{i:Int}(h0:0≤i)(h1:i<n):ixN n i=some i.toNat:=by
 unfold ixN
 rw[if_pos h0,if_pos h1]
@[simp] theorem Me(l:List D):iS (.lst l) (.lst [])=l.isEmpty:=by
 show PyData.eqv (.list (cU l)) (.list (cU []))=_
 cases l<;> simp[cU,PyData.eqv,PyData.eqvAll]
theorem IV{a b x:D}{g:Vw.Fn}{s s1 s2:State}{ra rb:RV}{fs:State→Res (List RV)}(h:fs s=.ok [ra,rb] s1)(h1:yT s1 ra=some a)(h2:yT s1 rb=some b)(hg:g [.d a,.d b] []=.ok (.val (.d x)) s2)(hx:scal x=true):
  mV 2 fs g s=.ok (.val (.d x)) s1:=by
 have e:nF s1 [ra,rb]=some [a,b]:=by simp[nF,h1,h2]
 unfold mV
 rw[h,Res.aa,e]
 have e2:g ([a,b].map Val.d) []=.ok (.val (.d x)) s2:=hg
 simp only[e2,hx,List.length_cons,List.length_nil,if_true]
mutual
def kM:D→Bool
 | .int _=>true
 | .str _=>true
 | .tup l=>decide (l.length≤100000)&&i9 l
 | .lst l=>decide (l.length≤100000)&&i9 l
 | _=>false
def i9:List D→Bool
 | []=>true
 | x::r=>kM x&&i9 r
end
theorem sj:∀ {l:List D} {k:Nat} (h:k<l.length),i9 l=true→kM l[k]=true
 | x::r,0,h,p=>by
  have p:kM x=true∧i9 r=true:=by simpa [i9]using p
  exact p.1
 | x::r,k+1,h,p=>by
  have p:kM x=true∧i9 r=true:=by simpa [i9]using p
  exact sj (l:=r) (by simpa using h) p.2
theorem sh:∀ {n:Nat} {l:List D} {k:Nat} (h:k<l.length),dg n l=true→dq n l[k]=true
 | n,x::r,0,h,p=>by
  have p:dq n x=true∧dg n r=true:=by simpa [dg]using p
  exact p.1
 | n,x::r,k+1,h,p=>by
  have p:dq n x=true∧dg n r=true:=by simpa [dg]using p
  exact sh (l:=r) (by simpa using h) p.2
theorem zl(rec:Vw.Fn)(d:D)(l:List D)(hd:d=.lst l∨d=.tup l)(hr:∀ k (h:k<l.length),∃ s,rec [.d l[k],.d l[k]] []=.ok (.val (.d (.bl true))) s):∀ (ks:List Nat) (x2:Option Sl),(∀ k∈ks,k<l.length)→
  ∃ y2,g9 (.nm 2) (eP rec) (ks.map fun(k:Nat)=>vI k) ⟨[sd d,sd d,x2],[]⟩=.ok .nx ⟨[sd d,sd d,y2],[]⟩
 | [],x2,_=>⟨x2,rfl⟩
 | k::ks,x2,h=>by
  have hk:=h k (by simp)
  obtain⟨s,hs⟩:=hr k hk
  have hat:atI l (k:Int)=some l[k]:=by rw[nX (by omega) (by omega)];simp[hk]
  have hev:aj [(ao (ae 0) (ae 2) bZ),(ao (ae 1) (ae 2) bZ)] ⟨[sd d,sd d,si k],[]⟩=.ok [.val (.d l[k]),.val (.d l[k])] ⟨[sd d,sd d,si k],[]⟩:=by
   rcases hd with rfl | rfl<;> simp[hat]
  have hl:=IV (g:=rec) hev (a:=l[k]) (b:=l[k]) (by rfl) (by rfl) hs rfl
  have hT:fj (aT (mV 2 (aj [(ao (ae 0) (ae 2) bZ),(ao (ae 1) (ae 2) bZ)]) rec)) ⟨[sd d,sd d,si k],[]⟩=.ok false ⟨[sd d,sd d,si k],[]⟩:=by
   rw[AA,AV,nt,hl]
   simp
  have key:eP rec ⟨[sd d,sd d,si k],[]⟩=.ok .nx ⟨[sd d,sd d,si k],[]⟩:=by
   have:b7 (fj (aT (mV 2 (aj [(ao (ae 0) (ae 2) bZ),(ao (ae 1) (ae 2) bZ)]) rec))) (ah [(aP (fD (.bl false)))]) (ah []) ⟨[sd d,sd d,si k],[]⟩=.ok .nx ⟨[sd d,sd d,si k],[]⟩:=by
    rw[yw,hT,Res.aa,if_neg (by simp),Bl]
   exact(fX this).trans (Bl _)
  obtain⟨y2,e⟩:=zl rec d l hd hr ks (si k) fun k hk=>h k (by simp[hk])
  refine⟨y2,?_⟩
  simp only[List.map_cons,yD,Im,List.set_cons_zero,List.set_cons_succ]
  rw[key,zN,e]
theorem vB(n:Nat)(d:D)(l:List D)(hd:d=.lst l∨d=.tup l)(hz:l.length≤100000)(hr:∀ k (h:k<l.length),∃ s,aE n [.d l[k],.d l[k]] []=.ok (.val (.d (.bl true))) s):
  ∃ s,aE (n+1) [.d d,.d d] []=.ok (.val (.d (.bl true))) s:=by
 generalize hg:aE n=rec at hr
 obtain⟨y2,e⟩:=zl rec d l hd hr (List.range l.length) none fun k hk=>List.mem_range.mp hk
 have hlen:∀ x2,aj [(bF (aj [(ae 1)]) cV)] ⟨[sd d,sd d,x2],[]⟩=.ok [.val (.d (.int l.length))] ⟨[sd d,sd d,x2],[]⟩:=fun x2=>by
  rcases hd with rfl | rfl<;> simp
 have t0:cb rec ⟨[sd d,sd d,none],[]⟩=.ok .nx ⟨[sd d,sd d,none],[]⟩:=by
  rcases hd with rfl | rfl<;> simp[cb,kl]
 have t1:c8 rec ⟨[sd d,sd d,none],[]⟩=.ok .nx ⟨[sd d,sd d,none],[]⟩:=by
  rcases hd with rfl | rfl<;> simp[c8,kl]
 have t2:fh rec ⟨[sd d,sd d,none],[]⟩=.ok .nx ⟨[sd d,sd d,none],[]⟩:=by
  rcases hd with rfl | rfl<;> simp[fh,kl]
 have t3:fB rec ⟨[sd d,sd d,none],[]⟩=.ok .nx ⟨[sd d,sd d,none],[]⟩:=by
  rcases hd with rfl | rfl<;> simp[fB]
 have t4:fy rec ⟨[sd d,sd d,none],[]⟩=.ok .nx ⟨[sd d,sd d,y2],[]⟩:=by
  have hsrc:fq (aj [(bF (aj [(ae 1)]) cV)]) ee ⟨[sd d,sd d,none],[]⟩=.ok ((List.range l.length).map fun(k:Nat)=>vI k) ⟨[sd d,sd d,none],[]⟩:=by
   rw[Bi,hlen,Res.aa,Be,Bg (by omega)]
  rw[fy,Eh,hsrc,Res.aa,e]
 have t5:fg rec ⟨[sd d,sd d,y2],[]⟩=.ok (.ret (.val (.d (.bl true)))) ⟨[sd d,sd d,y2],[]⟩:=by simp[fg]
 have hS:=(fX t0).trans ((fX t1).trans ((fX t2).trans ((fX t3).trans ((fX t4).trans (vn (r:=[]) t5)))))
 refine⟨⟨[],[]⟩,?_⟩
 rw[aE,hg]
 exact AU (n:=3) (b:=d3 rec) (args:=[.d d,.d d]) (st:=[]) rfl hS rfl
theorem tE(n:Nat)(d:D)(hd:(∃ i,d=.int i)∨∃ t,d=.str t):∃ s,aE (n+1) [.d d,.d d] []=.ok (.val (.d (.bl true))) s:=by
 generalize hg:aE n=rec
 have hp:dF d=true∧dq 0 d=true:=by rcases hd with⟨i,rfl⟩ | ⟨t,rfl⟩<;> exact⟨rfl,rfl⟩
 have heq:=yE 0 (by omega) hp.1 hp.2
 rcases hd with⟨i,rfl⟩ | ⟨t,rfl⟩
 ·have t0:cb rec ⟨[sd (.int i),sd (.int i),none],[]⟩=.ok .nx ⟨[sd (.int i),sd (.int i),none],[]⟩:=by simp[cb,kl]
  have t1:c8 rec ⟨[sd (.int i),sd (.int i),none],[]⟩=.ok (.ret (.val (.d (.bl true)))) ⟨[sd (.int i),sd (.int i),none],[]⟩:=by simp[c8,kl,xn]
  refine⟨⟨[],[]⟩,?_⟩
  rw[aE,hg]
  exact AU (n:=3) (b:=d3 rec) (args:=[.d (.int i),.d (.int i)]) (st:=[]) rfl ((fX t0).trans (vn t1)) rfl
 ·have t0:cb rec ⟨[sd (.str t),sd (.str t),none],[]⟩=.ok (.ret (.val (.d (.bl true)))) ⟨[sd (.str t),sd (.str t),none],[]⟩:=by simp[cb,kl,tj,heq]
  refine⟨⟨[],[]⟩,?_⟩
  rw[aE,hg]
  exact AU (n:=3) (b:=d3 rec) (args:=[.d (.str t),.d (.str t)]) (st:=[]) rfl (vn t0) rfl
theorem alike:∀ (n:Nat) (d:D),kM d=true→dq n d=true→∃ s,aE (n+1) [.d d,.d d] []=.ok (.val (.d (.bl true))) s
 | n,.int i,_,_=>tE n _ (.inl ⟨i,rfl⟩)
 | n,.str t,_,_=>tE n _ (.inr ⟨t,rfl⟩)
 | 0,.lst l,_,h=>by simp[dq]at h
 | 0,.tup l,_,h=>by simp[dq]at h
 | n+1,.lst l,p,h=>by
  have p:l.length≤100000∧i9 l=true:=by simpa [kM]using p
  have h:dg n l=true:=by simpa [dq]using h
  exact vB (n+1) _ l (.inl rfl) p.1 fun k hk=>alike n l[k] (sj hk p.2) (sh hk h)
 | n+1,.tup l,p,h=>by
  have p:l.length≤100000∧i9 l=true:=by simpa [kM]using p
  have h:dg n l=true:=by simpa [dq]using h
  exact vB (n+1) _ l (.inr rfl) p.1 fun k hk=>alike n l[k] (sj hk p.2) (sh hk h)
 | n,.non,p,_=>by simp[kM]at p
 | n,.bl _,p,_=>by simp[kM]at p
 | n,.dic _,p,_=>by simp[kM]at p
 | n,.dit _,p,_=>by simp[kM]at p
 | n,.ins _ _,p,_=>by simp[kM]at p
end Sh
namespace Vw
open PySem L2 PyProof.Rows
def yy(sg:Slots)(r:Res RV):Res RV:=
 match r with
 | .ok r s2=>.ok r ⟨sg,s2.st⟩
 | .exc x s2=>.exc x ⟨sg,s2.st⟩
 | .stuck=>.stuck
def vf(r:Res Fl):Res Fl:=
 match r with
 | .ok .cnt s=>.ok .nx s
 | r=>r
def Ms(t:Tg)(b:State→Res Fl)(v:Val)(s:State):Res Fl:=
 match e9 t v s with
 | some s=>vf (b s)
 | none=>.stuck
section
variable(sg:Slots)(st:List Ob)(s s':State)(i j n:Nat)(d d':D)(x y:Val)(o:Ob)(f g h fa fb fc fo:State→Res RV)(fs:State→Res (List RV))(r r':RV)(N:List String)(T c:String)(e:Exn)(k:Fl)(gg:Fn)(b:State→Res Fl)(t:Tg)(args:List Val)
@[simp] theorem Kc:yy sg (.ok r s)=.ok r ⟨sg,s.st⟩:=id rfl
@[simp] theorem JF:yy sg (.exc e s)=.exc e ⟨sg,s.st⟩:=id rfl
@[simp] theorem Mb:eU gg args ⟨sg,st⟩=yy sg (gg args st):=id rfl
@[simp] theorem Ln:fu n fs gg s=(fs s).bind fun rs s=>(aD rs s).bind fun args s=>if args.length=n then eU gg args s else .stuck:=id rfl
@[simp] theorem L0:ql c s=.exc ⟨c,none⟩ s:=id rfl
@[simp] theorem Lk:qW c f s=(ev f s).bind fun r s=>match bG r s with
 | .ok (.d x) s=>.exc ⟨c,some x⟩ s
 | _=>.stuck:=id rfl
@[simp] theorem Nk:KS N T f s=(ev f s).bind fun r s=>match dv s r with
 | some (.exc c _)=>(match pZ N c T with
  | some b=>aH (.bl b) s
  | none=>.stuck)
 | some .non=>aH (.bl false) s
 | _=>.stuck:=id rfl
@[simp] theorem NJ:Mr N f s=(ev f s).bind fun r s=>match dv s r with
 | some (.exc c [p])=>if N.contains c then aH p s else .stuck
 | _=>.stuck:=id rfl
@[simp] theorem M8:KQ r r' s=(match dv s r,dv s r' with
 | some (.bl a),some (.bl b)=>aH (.bl (decide (a=b))) s
 | _,_=>.stuck):=id rfl
@[simp] theorem LP:Jk r r' s=(match dv s r,dv s r' with
 | some (.bl a),some (.bl b)=>aH (.bl (!decide (a=b))) s
 | _,_=>.stuck):=id rfl
@[simp] theorem MV:KL r r' s=(match lv s r,dv s r' with
 | some l,some (.int k)=>if-(2^63)≤k∧k<2^63∧l.length*k.toNat≤sizeLine then .ok (.new (.lst (List.replicate k.toNat l).flatten)) s else .stuck
 | _,_=>.stuck):=id rfl
@[simp] theorem Mv:IL f s=(ev f s).bind fun r s=>match dv s r with
 | some (.str t)=>if t.length≤sizeLine then aH (.str t.reverse) s else .stuck
 | _=>match lv s r with
  | some l=>.ok (.new (.lst l.reverse)) s
  | none=>.stuck:=id rfl
@[simp] theorem Mn:vV s (.val (.d d))=(match d with
 | .non=>some "NoneType" | .bl _=>some "bool" | .int _=>some "int" | .str _=>some "str" | .lst _=>some "list" | .tup _=>some "tuple" | .dic _=>some "dict" | _=>none):=by cases d<;> rfl
@[simp] theorem MD:m4 r [r'] s=(match dv s r,(sq s r').bind strsOf with
  | some (.str a),some ys=>if(ys.map (·.length)).sum+ys.length*a.length≤16777216 then aH (.str (ox a ys)) s else .stuck
  | _,_=>.stuck):=id rfl
@[simp] theorem MZ:fL .isin s (.val (.d (.str a))) (.val (.d (.str b')))=some (subIn a b'):=id rfl
@[simp] theorem LS:fL .notin s r r'=(inD s r r').map not:=id rfl
@[simp] theorem MJ:fL .isin s r r'=inD s r r':=id rfl
@[simp] theorem MN(a b:List Nat):inD s (.val (.d (.str a))) (.val (.d (.str b)))=some (subIn a b):=id rfl
@[simp] theorem MO:fL .isn s (.val (.d d)) (.val (.d .non))=some (match d with | .non=>false | _=>true):=by cases d<;> rfl
@[simp] theorem NC:fL .is s (.val (.d d)) (.val (.d .non))=some (match d with | .non=>true | _=>false):=by cases d<;> rfl
@[simp] theorem Ni(s:State)(r:RV):jW s r=(match dv s r with | some (.str _)=>true | _=>false):=id rfl
@[simp] theorem ML(o x:List Nat)(s:State):bIndex (.val (.d (.str o))) [.val (.d (.str x))] s=(match Builtin.Str.occurrences (Vw.st o) (Vw.st x) 0 o.length 1 with | i::_=>.ok (.val (.d (.int (i:Nat)))) s | []=>.stuck):=id rfl
@[simp] theorem LR(a:List Nat)(j:Int):yt (.val (.d (.str a))) (.val (.d (.int j))) s=if 0≤j∧j<1000000∧a.length*j.toNat≤1000000 then aH (.str (List.replicate j.toNat a).flatten) s else .stuck:=id rfl
@[simp] theorem L4:vf (.ok .nx s)=.ok .nx s:=id rfl
@[simp] theorem KZ:vf (.ok .cnt s)=.ok .nx s:=id rfl
@[simp] theorem LH:vf (.ok (.ret r) s)=.ok (.ret r) s:=id rfl
@[simp] theorem Ll:vf (.exc e s)=.exc e s:=id rfl
@[simp] theorem Nj(v:Val):Ms t b v s=(match e9 t v s with | some s=>vf (b s) | none=>.stuck):=id rfl
end
@[simp] theorem NG(s:State)(a b:List Nat):sQ s (.val (.d (.str a))) (.val (.d (.str b)))=some (decide (a=b)):=by
 show(if dj (.str a) (.str b)then some (iS (.str a) (.str b))else none)=_
 rw[if_pos (by rfl)]
 show some (Vw.st a==Vw.st b)=_
 by_cases h:a=b
 ·subst h;simp
 ·have h':Vw.st a≠Vw.st b:=fun z=>h (by
   have:=congrArg (fun x:Str=>x.cps.toList) z
   simpa [Vw.st]using this)
  have:(Vw.st a==Vw.st b)=false:=beq_eq_false_iff_ne.mpr h'
  rw[this];simp[h]
def C2(vs:List Nat)(r:Res Val):Res (Option Val):=
 match r with
 | .ok y s=>.ok (some y) (cw vs s)
 | _=>.stuck
def I6(vs:List Nat)(t:Tg)(ft:State→Res Bool)(fe:State→Res RV)(v:Val)(s:State):Res (Option Val):=
 match e9 t v (cw vs s)with
 | none=>.stuck
 | some s=>(ft s).bind fun b s=>if b=true then(fe s).bind fun r s=>C2 vs (bG r s)else .ok none (cw vs s)
@[simp] theorem LW(vs:List Nat)(t:Tg)(ft:State→Res Bool)(fe:State→Res RV)(v:Val)(s:State):I6 vs t ft fe v s=(match e9 t v (cw vs s)with
 | none=>.stuck
 | some s=>(ft s).bind fun b s=>if b=true then(fe s).bind fun r s=>C2 vs (bG r s)else .ok none (cw vs s)):=id rfl
@[simp] theorem Ma(vs:List Nat)(y:Val)(s:State):C2 vs (.ok y s)=.ok (some y) (cw vs s):=id rfl
theorem zY(i j:Int):iS (.int i) (.int j)=decide (i=j):=by
 show(i==j)=_
 by_cases h:i=j<;> simp[h]
theorem zZ(a b:List Nat):iS (.str a) (.str b)=decide (a=b):=by
 show(Vw.st a==Vw.st b)=_
 by_cases h:a=b
 ·subst h;simp
 ·have h':Vw.st a≠Vw.st b:=fun z=>h (by
   have:=congrArg (fun x:Str=>x.cps.toList) z
   simpa [Vw.st]using this)
  rw[beq_eq_false_iff_ne.mpr h'];simp[h]
theorem GQ(a b:Bool):iS (.bl a) (.bl b)=decide (a=b):=by cases a<;> cases b<;> rfl
def nB(l:List D)(x:D):Option Bool:=if(pd x).plain&&PyData.plainAll (cU l)&&decide (min (PyData.depthAll (cU l)) (pd x).depth≤60)then some (l.any fun y=>iS y x)else none
def uT(m:List Val)(x:D):Option Bool:=(toDs m).bind fun l=>nB l x
theorem sk{α:Type}[DecidableEq α](F:α→D)(l:List α)(x:α)(p:∀ y,dF (F y)=true)(q:∀ y,dq 40 (F y)=true)(e:∀ y z,iS (F y) (F z)=decide (y=z)):nB (l.map F) (F x)=some (decide (x∈l)):=by
 unfold nB
 have h1:=jG F l (fun y _=>p y)
 have h2:=nN 40 _ h1 (mj 40 F l fun y _=>q y)
 have h3:=pK 40 _ (p x) (q x)
 rw[if_pos (by simp[qZ _ (p x),qd _ h1];omega)]
 congr 1
 induction l with
 | nil=>rfl
 | cons a l ih=>
  have h1':=jG F l (fun y _=>p y)
  rw[List.map_cons,List.any_cons,ih h1' (nN 40 _ h1' (mj 40 F l fun y _=>q y)),e]
  by_cases h:a=x
  ·simp[h]
  ·have h':¬ x=a:=fun z=>h z.symm
   simp[h,h']
@[simp] theorem DC(l:List Int)(i:Int):nB (l.map .int) (.int i)=some (decide (i∈l)):=(sk D.int l i (fun _=>rfl) (fun _=>rfl) zY).trans (by congr)
@[simp] theorem Lq(l:List (List Nat))(i:List Nat):nB (l.map .str) (.str i)=some (decide (i∈l)):=(sk D.str l i (fun _=>rfl) (fun _=>rfl) zZ).trans (by congr)
@[simp] theorem L5(l:List Bool)(i:Bool):nB (l.map .bl) (.bl i)=some (decide (i∈l)):=(sk D.bl l i (fun _=>rfl) (fun _=>rfl) GQ).trans (by congr)
@[simp] theorem Md(l:List Int)(i:Int):uT (l.map vI) (.int i)=some (decide (i∈l)):=by
 unfold uT;rw[toDs_vI];exact DC l i
@[simp] theorem MF(l:List D)(i:D):uT (l.map .d) i=nB l i:=by
 unfold uT;rw[toDs_map];rfl
def KP(s:State)(x:RV)(j:Nat):Option Bool:=inD s x (.own j)
@[simp] theorem Nb(s:State)(x:D)(l:List D):inD s (.val (.d x)) (.val (.d (.lst l)))=nB l x:=by
 cases x<;> rfl
@[simp] theorem MU(sg:Slots)(st:List Ob)(x:D)(j:Nat):inD ⟨sg,st⟩ (.val (.d x)) (.own j)=(match sg[j]? with | some (some (.own (.lst m)))=>uT m x | some (some (.v (.d (.lst l))))=>nB l x | _=>KP ⟨sg,st⟩ (.val (.d x)) j):=by
 split
 ·rename_i m e
  unfold inD jO kN rN
  simp only[A6,xl,uY,e,HK]
  unfold uT
  cases e3:toDs m with
  | none=>cases x<;> simp
  | some l=>cases x<;> simp[nB]
 ·rename_i l e
  unfold inD jO kN rN
  simp only[A6,xl,uY,e,HK]
  cases x<;> rfl
 ·rfl
theorem sV(c:Nat)(t:List Nat):subIn [c] t=decide (c∈t):=by
 have:=PySem.StrLaws.found_one (Vw.st t) c
 unfold subIn
 have e:(Vw.st t).length=t.length:=by simp[Vw.st,Str.length]
 rw[←e]
 have e2:Vw.st [c]=⟨#[c]⟩:=rfl
 rw[e2]
 rw[this]
 have h:c∈(Vw.st t).cps.toList↔c∈t:=by simp[Vw.st]
 by_cases hc:c∈t
 ·rw[decide_eq_true hc,decide_eq_true (h.mpr hc)]
 ·rw[decide_eq_false hc,decide_eq_false (fun z=>hc (h.mp z))]
theorem sL(a:List Nat)(ys:List (List Nat)):ox a ys=TL.joinL a ys:=by
 unfold ox
 rw[TL.join_eq]
 have h:=TL.tl_join (Vw.st a) (ys.map Vw.st)
 have e1:TL.tl (Vw.st a)=a:=by simp[TL.tl,Vw.st]
 have e2:(ys.map Vw.st).map TL.tl=ys:=by
  rw[List.map_map]
  have:(TL.tl∘Vw.st)=(id:List Nat→List Nat):=by funext x;simp[TL.tl,Vw.st]
  rw[this,List.map_id]
 rw[e1,e2]at h
 exact h
theorem vw:∀ ys:List (List Nat),TL.joinL [] ys=ys.flatten
 | []=>rfl
 | [x]=>by simp[TL.joinL]
 | x::y::r=>by
  rw[TL.joinL,vw (y::r)]
  simp
theorem vP(ys:List (List Nat)):ox [] ys=ys.flatten:=by rw[sL,vw]
end Vw
namespace Vw
open PySem L2
inductive M (α:Type) where
 | ok (a:α)
 | exc (x:Exn)
 | bad
def M.bind{α β:Type}:M α→(α→M β)→M β
 | .ok a,k=>k a
 | .exc x,_=>.exc x
 | .bad,_=>.bad
@[simp] theorem M.aa{α β:Type}(a:α)(k:α→M β):(M.ok a).bind k=k a:=id rfl
@[simp] theorem M.Dh{α β:Type}(x:Exn)(k:α→M β):(M.exc x:M α).bind k=.exc x:=id rfl
@[simp] theorem M.LC{α β:Type}(k:α→M β):(M.bad:M α).bind k=.bad:=id rfl
theorem M.bind_assoc{α β γ:Type}(m:M α)(k:α→M β)(l:β→M γ):(m.bind k).bind l=m.bind fun a=>(k a).bind l:=by cases m<;> rfl
def gd(b:Bool):M Unit:=if b then .ok ()else .bad
@[simp] theorem rR:gd true=.ok ():=id rfl
abbrev Pt:=List (Option Sl)
def Fits(p:Pt)(g:Slots):Prop:=p.length=g.length∧∀ (i:Nat) (s:Sl),p[i]? =some (some s)→g[i]? =some (some s)
def cM:Pt→Pt→Prop
 | [],[]=>True
 | none::p,_::q=>cM p q
 | some s::p,t::q=>t=some s∧cM p q
 | _,_=>False
theorem cM.imp:∀ {p q:Pt},cM p q→p.length=q.length∧∀ (i:Nat) (s:Sl),p[i]? =some (some s)→q[i]? =some (some s)
 | [],[],_=>⟨rfl,fun i s h=>by simp at h⟩
 | [],_::_,h=>by simp[cM]at h
 | none::p,[],h=>by simp[cM]at h
 | some s::p,[],h=>by simp[cM]at h
 | none::p,t::q,h=>by
  have ih:=cM.imp (p:=p) (q:=q) h
  refine⟨by simp[ih.1],fun i s e=>?_⟩
  cases i with
  | zero=>simp at e
  | succ i=>exact ih.2 i s (by simpa using e)
 | some s::p,t::q,h=>by
  have ih:=cM.imp (p:=p) (q:=q) h.2
  refine⟨by simp[ih.1],fun i s' e=>?_⟩
  cases i with
  | zero=>simp at e ⊢;rw[h.1,e]
  | succ i=>exact ih.2 i s' (by simpa using e)
theorem Fits.weak{p q:Pt}{g:Slots}(h:Fits q g)(w:cM p q):Fits p g:=⟨w.imp.1.trans h.1,fun i s e=>h.2 i s (w.imp.2 i s e)⟩
theorem Fits.set{p:Pt}{g:Slots}(h:Fits p g)(i:Nat)(s:Sl):Fits (p.set i (some s)) (g.set i (some s)):=by
 refine⟨by simp[h.1],fun j s' e=>?_⟩
 rw[List.getElem?_set]at e ⊢
 split at e
 ·rename_i hij
  rw[if_pos hij]
  split at e
  ·rename_i hl
   rw[if_pos (h.1▸hl)]
   exact e
  ·cases e
 ·rename_i hij
  rw[if_neg hij]
  exact h.2 j s' e
theorem Fits.wipe{p:Pt}{g:Slots}(h:Fits p g):∀ vs:List Nat,(vs.all fun v=>(p.getD v none).isNone)=true→Fits p (fR g vs)
 | [],_=>h
 | v::vs,hv=>by
  have hv:(p.getD v none).isNone=true∧(vs.all fun v=>(p.getD v none).isNone)=true:=by simpa using hv
  have ih:=Fits.wipe h vs hv.2
  refine⟨by simp[fR,ih.1],fun j s e=>?_⟩
  show((fR g vs).set v none)[j]? =_
  rw[List.getElem?_set]
  split
  ·rename_i hvj
   subst hvj
   have:=hv.1
   rw[List.getD_eq_getElem?_getD,e]at this
   cases this
  ·exact ih.2 j s e
def Rn{α T:Type}(R:List Ob→Prop)(r:Res α)(m:M T)(post:T→α×Pt×List Ob):Prop:=
 match m with
 | .ok v=>∃ sg,r=.ok (post v).1 ⟨sg,(post v).2.2⟩∧Fits (post v).2.1 sg
 | .exc x=>∃ s,r=.exc x s∧R s.st
 | .bad=>True
def Ev{α T:Type}(R:List Ob→Prop)(p:Pt)(σ:List Ob)(f:State→Res α)(m:M T)(post:T→α×Pt×List Ob):Prop:=∀ sg,Fits p sg→Rn R (f ⟨sg,σ⟩) m post
section
variable{R:List Ob→Prop}{p p':Pt}{σ σ':List Ob}{α β γ T U W:Type}
theorem Ev.bind{f:State→Res α}{k:α→State→Res β}{m:M T}{mk:T→M U}{post:T→α×Pt×List Ob}{post2:U→β×Pt×List Ob}(h:Ev R p σ f m post)(hk:∀ v,Ev R (post v).2.1 (post v).2.2 (k (post v).1) (mk v) post2):Ev R p σ (fun s=>(f s).bind k) (m.bind mk) post2:=by
 intro sg hf
 have:=h sg hf
 cases m with
 | ok v=>
  obtain⟨sg',e,hf'⟩:=this
  have h2:=hk v sg' hf'
  simp only[M.aa]
  rw[e,Res.aa]
  exact h2
 | exc x=>
  obtain⟨s,e,r⟩:=this
  refine⟨s,?_,r⟩
  show(f ⟨sg,σ⟩).bind k=_
  rw[e];rfl
 | bad=>trivial
theorem Ev.gE{f:State→Res α}{k:α→State→Res β}{a:T}{m:M U}{post:T→α×Pt×List Ob}{post2:U→β×Pt×List Ob}(h:Ev R p σ f (.ok a) post)(hk:Ev R (post a).2.1 (post a).2.2 (k (post a).1) m post2):Ev R p σ (fun s=>(f s).bind k) m post2:=by
 intro sg hf
 obtain⟨sg',e,hf'⟩:=h sg hf
 have h2:=hk sg' hf'
 dsimp only
 rw[e,Res.aa]
 exact h2
theorem Ev.pure{a:T}{r:T→α}:Ev R p σ (fun s=>.ok (r a) s) (.ok a) (fun v=>(r v,p,σ)):=fun sg hf=>⟨sg,rfl,hf⟩
theorem Ev.map{f:State→Res α}{m:M T}{post:T→α×Pt×List Ob}(φ:T→U)(post2:U→α×Pt×List Ob)(h:Ev R p σ f m post)(e:∀ v,post v=post2 (φ v)):Ev R p σ f (m.bind fun v=>.ok (φ v)) post2:=by
 intro sg hf
 have:=h sg hf
 cases m with
 | ok v=>
  obtain⟨sg',e',hf'⟩:=this
  rw[e v]at e' hf'
  exact⟨sg',e',hf'⟩
 | exc x=>exact this
 | bad=>trivial
theorem Ev.b9{f:State→Res α}{a:T}{post:T→α×Pt×List Ob}{b:U}{post2:U→α×Pt×List Ob}(h:Ev R p σ f (.ok a) post)(e:post a=post2 b):Ev R p σ f (.ok b) post2:=by
 intro sg hf
 obtain⟨sg',e',hf'⟩:=h sg hf
 rw[e]at e' hf'
 exact⟨sg',e',hf'⟩
theorem Ev.weak{f:State→Res α}{m:M T}{post:T→α×Pt×List Ob}(h:Ev R p σ f m post)(w:cM p p'):Ev R p' σ f m post:=fun sg hf=>h sg (hf.weak w)
theorem Ev.is{f g:State→Res α}{m:M T}{post:T→α×Pt×List Ob}(h:Ev R p σ f m post)(e:∀ s,g s=f s):Ev R p σ g m post:=fun sg hf=>by rw[e];exact h sg hf
theorem Ev.bad{f:State→Res α}{post:T→α×Pt×List Ob}:Ev R p σ f .bad post:=fun _ _=>trivial
theorem Ev.at{f:State→Res α}{a:T}{r:T→α}(h:∀ sg,Fits p sg→f ⟨sg,σ⟩=.ok (r a) ⟨sg,σ⟩):Ev R p σ f (.ok a) (fun v=>(r v,p,σ)):=fun sg hf=>⟨sg,h sg hf,hf⟩
theorem Ev.gd{f:State→Res α}{a:T}{r:T→α}{b:Bool}(h:b=true→∀ sg,Fits p sg→f ⟨sg,σ⟩=.ok (r a) ⟨sg,σ⟩):Ev R p σ f ((gd b).bind fun _=>.ok a) (fun v=>(r v,p,σ)):=by
 intro sg hf
 cases b with
 | true=>exact⟨sg,h rfl sg hf,hf⟩
 | false=>trivial
theorem Ev.op{f:State→Res α}{o:Option T}{r:T→α}(h:∀ a,o=some a→∀ sg,Fits p sg→f ⟨sg,σ⟩=.ok (r a) ⟨sg,σ⟩):Ev R p σ f (match o with | some a=>.ok a | none=>.bad) (fun v=>(r v,p,σ)):=by
 intro sg hf
 cases o with
 | some a=>exact⟨sg,h a rfl sg hf,hf⟩
 | none=>trivial
end
abbrev eL{T:Type}(e:T→D):List T→D:=fun l=>.lst (l.map e)
abbrev bo{A B:Type}(a:A→D)(b:B→D):A×B→D:=fun p=>.tup [a p.1,b p.2]
abbrev Kg{A B C:Type}(a:A→D)(b:B→D)(c:C→D):A×B×C→D:=fun p=>.tup [a p.1,b p.2.1,c p.2.2]
abbrev eN:Unit→D:=fun _=>.non
abbrev eY:D→D:=fun d=>d
abbrev oL{T:Type}(e:T→D):List T→Ob:=fun l=>.lst (l.map fun x=>.d (e x))
abbrev mS{T:Type}(e:T→D):List (List Nat×T)→Ob:=fun l=>.dic false (l.map fun p=>(.s p.1,.d (e p.2)))
theorem cK{T:Type}(e:T→D)(l:List T):(oL e l).toD=some (eL e l):=by
 show(toDs _).map _=_
 rw[toDs_mapF];rfl
def Lv{T:Type}(p:Pt)(σ:List Ob)(r:RV)(e:T→D)(l:List T):Prop:=∀ sg,Fits p sg→lv ⟨sg,σ⟩ r=some (l.map fun x=>.d (e x))∧jo ⟨sg,σ⟩ r=some (eL e l)∧tv ⟨sg,σ⟩ r=none∧∀ k,jO ⟨sg,σ⟩ r k=none
end Vw
namespace Vw
open PySem L2
section
variable{R:List Ob→Prop}{p p':Pt}{σ σ':List Ob}{α β γ T U W:Type}{i j n:Nat}
theorem e6{e:T→D}{l:List T}:Lv p σ (.val (.d (eL e l))) e l:=fun sg _=>⟨by simp[Function.comp_def],rfl,rfl,fun k=>rfl⟩
theorem gv{e:T→D}{l:List T}(h:p[i]? =some (some (.own (oL e l)))):Lv p σ (.own i) e l:=fun sg hf=>by
 have h:=hf.2 _ _ h
 refine⟨by simp[h],by simp[h,Function.comp_def],?_,fun k=>?_⟩
 ·unfold tv;simp[h]
 ·unfold jO kN rN;simp[h]
theorem DH{e:T→D}{l:List T}(h:σ[n]? =some (oL e l)):Lv p σ (.val (.r n)) e l:=fun sg hf=>by
 refine⟨by simp[h],by simp[h,Function.comp_def],?_,fun k=>?_⟩
 ·unfold tv;simp
 ·unfold jO kN rN;simp[h]
def Pv(p:Pt)(σ:List Ob)(r:RV)(d:D):Prop:=∀ sg,Fits p sg→jo ⟨sg,σ⟩ r=some d
theorem bx{d:D}:Pv p σ (.val (.d d)) d:=fun _ _=>rfl
theorem Lv.pv{e:T→D}{l:List T}{r:RV}(h:Lv p σ r e l):Pv p σ r (eL e l):=fun sg hf=>(h sg hf).2.1
theorem aw{a:T}{e:T→D}(h:p[i]? =some (some (.v (.d (e a))))):Ev R p σ (ae i) (.ok a) (fun v=>(.val (.d (e v)),p,σ)):=Ev.at (r:=fun v=>RV.val (Val.d (e v))) fun sg hf=>by
 rw[iw,hf.2 _ _ h]
theorem ie{a:T}{o:Ob}(h:p[i]? =some (some (.own o))):Ev R p σ (ae i) (.ok a) (fun _=>(.own i,p,σ)):=Ev.at (r:=fun _=>RV.own i) fun sg hf=>by
 rw[iw,hf.2 _ _ h]
theorem dS{a:T}(h:p[i]? =some (some (.v (.r n)))):Ev R p σ (ae i) (.ok a) (fun _=>(.val (.r n),p,σ)):=Ev.at (r:=fun _=>RV.val (Val.r n)) fun sg hf=>by
 rw[iw,hf.2 _ _ h]
theorem cD(e:T→D)(a:T):Ev R p σ (fD (e a)) (.ok a) (fun v=>(.val (.d (e v)),p,σ)):=Ev.at (r:=fun v=>RV.val (Val.d (e v))) fun sg hf=>rfl
theorem sv{f:State→Res RV}{m:M T}{x:T→Val}{P:T→Pt}{S:T→List Ob}(h:Ev R p σ f m (fun v=>(.val (x v),P v,S v))):Ev R p σ (ev f) m (fun v=>(.val (x v),P v,S v)):=fun sg hf=>by
 have:=h sg hf
 cases m with
 | ok v=>obtain⟨sg',e,hf'⟩:=this;exact⟨sg',by rw[nt,e];rfl,hf'⟩
 | exc x=>obtain⟨s,e,r⟩:=this;exact⟨s,by rw[nt,e];rfl,r⟩
 | bad=>trivial
theorem hU{f:State→Res RV}{m:M T}{P:T→Pt}{S:T→List Ob}(h:Ev R p σ f m (fun v=>(.own i,P v,S v))):Ev R p σ (ev f) m (fun v=>(.own i,P v,S v)):=fun sg hf=>by
 have:=h sg hf
 cases m with
 | ok v=>obtain⟨sg',e,hf'⟩:=this;exact⟨sg',by rw[nt,e];rfl,hf'⟩
 | exc x=>obtain⟨s,e,r⟩:=this;exact⟨s,by rw[nt,e];rfl,r⟩
 | bad=>trivial
theorem sn{f:State→Res RV}{m:M T}{o:T→Ob}{d:T→D}{P:T→Pt}{S:T→List Ob}(h:Ev R p σ f m (fun v=>(.new (o v),P v,S v)))(hd:∀ v,(o v).toD=some (d v)):Ev R p σ (ev f) m (fun v=>(.val (.d (d v)),P v,S v)):=fun sg hf=>by
 have:=h sg hf
 cases m with
 | ok v=>obtain⟨sg',e,hf'⟩:=this;exact⟨sg',by rw[nt,e,Res.aa,Lc,hd v],hf'⟩
 | exc x=>obtain⟨s,e,r⟩:=this;exact⟨s,by rw[nt,e];rfl,r⟩
 | bad=>trivial
theorem x2{fa fb:State→Res RV}{k:RV→RV→State→Res RV}{ma:M T}{mb:T→M U}{mk:T→U→M W}{pa:T→RV×Pt×List Ob}{pb:T→U→RV×Pt×List Ob}{post:W→RV×Pt×List Ob}(ha:Ev R p σ (ev fa) ma pa)(hb:∀ a,Ev R (pa a).2.1 (pa a).2.2 (ev fb) (mb a) (pb a))(hk:∀ a b,Ev R (pb a b).2.1 (pb a b).2.2 (k (pa a).1 (pb a b).1) (mk a b) post):Ev R p σ (ao fa fb k) (ma.bind fun a=>(mb a).bind fun b=>mk a b) post:=Ev.bind ha fun a=>Ev.bind (hb a) fun b=>hk a b
theorem x1{fa:State→Res RV}{k:RV→State→Res α}{ma:M T}{mk:T→M W}{pa:T→RV×Pt×List Ob}{post:W→α×Pt×List Ob}(ha:Ev R p σ (ev fa) ma pa)(hk:∀ a,Ev R (pa a).2.1 (pa a).2.2 (k (pa a).1) (mk a) post):Ev R p σ (fun s=>(ev fa s).bind k) (ma.bind mk) post:=Ev.bind ha hk
abbrev pD(e:T→D)(p:Pt)(σ:List Ob):T→RV×Pt×List Ob:=fun v=>(.val (.d (e v)),p,σ)
abbrev Gi(e:T→D)(p:Pt)(σ:List Ob):List T→RV×Pt×List Ob:=fun v=>(.new (oL e v),p,σ)
def mulM(a b:Int):M Int:=(gd (Df a b)).bind fun _=>.ok (a*b)
def lS(a b:Int):M Int:=(gd (decide (0<b))).bind fun _=>.ok (a%b)
def yA(a b:Int):M Int:=(gd (decide (0≤b∧b≤1000000∧a.natAbs<2^64))).bind fun _=>.ok (a^b.toNat)
theorem iu{a b:Int}:Ev R p σ (binop .add (.val (.d (.int a))) (.val (.d (.int b)))) (.ok (a+b)) (pD .int p σ):=Ev.at (r:=fun v=>RV.val (Val.d (D.int v))) fun sg _=>rfl
theorem nc{a b:Int}:Ev R p σ (binop .mul (.val (.d (.int a))) (.val (.d (.int b)))) (mulM a b) (pD .int p σ):=Ev.gd (r:=fun v=>RV.val (Val.d (D.int v))) fun h sg _=>by rw[J6,Fi,if_pos h];rfl
theorem tV{a b:Int}:Ev R p σ (binop .mod (.val (.d (.int a))) (.val (.d (.int b)))) (lS a b) (pD .int p σ):=Ev.gd (r:=fun v=>RV.val (Val.d (D.int v))) fun h sg _=>by rw[Af,if_pos (of_decide_eq_true h)];rfl
theorem D1{a b:Int}:Ev R p σ (binop .pow (.val (.d (.int a))) (.val (.d (.int b)))) (yA a b) (pD .int p σ):=Ev.gd (r:=fun v=>RV.val (Val.d (D.int v))) fun h sg _=>by rw[FQ,if_pos (of_decide_eq_true h)];rfl
theorem e8{a b:Int}(h:0<b):Ev R p σ (binop .mod (.val (.d (.int a))) (.val (.d (.int b)))) (.ok (a%b)) (pD .int p σ):=Ev.at (r:=fun v=>RV.val (Val.d (D.int v))) fun sg _=>by rw[Af,if_pos h];rfl
theorem iR{a b:Int}(h:Dt b=true):Ev R p σ (binop .fdiv (.val (.d (.int a))) (.val (.d (.int b)))) (.ok (a/b)) (pD .int p σ):=Ev.at (r:=fun v=>RV.val (Val.d (D.int v))) fun sg _=>by rw[CB,if_pos h];rfl
def bw(a b:List Nat):M (List Nat):=(gd (decide (a.length+b.length≤sizeLine))).bind fun _=>.ok (a++b)
def ot(a b:List T):M (List T):=(gd (decide (a.length+b.length≤sizeLine))).bind fun _=>.ok (a++b)
theorem gA{a b:List Nat}:Ev R p σ (binop .add (.val (.d (.str a))) (.val (.d (.str b)))) (bw a b) (pD .str p σ):=Ev.gd (r:=fun v=>RV.val (Val.d (D.str v))) fun h sg _=>by rw[Ed,Sh.Fj,if_pos (of_decide_eq_true h)]
theorem Ia{s:State}{x y:RV}{l m:List Val}(h1:lv s x=some l)(h2:lv s y=some m):oF x y s=if l.length+m.length≤sizeLine then .ok (.new (.lst (l++m))) s else .stuck:=by
 unfold oF
 have hx:∀ d,dv s x=some d→∃ l,d=.lst l:=fun d e=>by
  rw[x7,e]at h1
  cases d<;> simp at h1
  exact⟨_,rfl⟩
 split
 ·rename_i e _;obtain⟨_,z⟩:=hx _ e;cases z
 ·rename_i e _;obtain⟨_,z⟩:=hx _ e;cases z
 ·rw[h1,h2]
theorem add_l{e:T→D}{a b:List T}{x y:RV}(hx:Lv p σ x e a)(hy:Lv p σ y e b):Ev R p σ (binop .add x y) (ot a b) (Gi e p σ):=Ev.gd (r:=fun v=>RV.new (oL e v)) fun h sg hf=>by
 rw[Ed,Ia (hx sg hf).1 (hy sg hf).1,if_pos (by simpa using of_decide_eq_true h),←List.map_append]
theorem A3{a b:Int}:Ev R p σ (aI .lt (.val (.d (.int a))) (.val (.d (.int b)))) (.ok (decide (a<b))) (pD .bl p σ):=Ev.at (r:=fun v=>RV.val (Val.d (D.bl v))) fun sg _=>rfl
theorem Hv{a b:Int}:Ev R p σ (aI .le (.val (.d (.int a))) (.val (.d (.int b)))) (.ok (decide (a≤b))) (pD .bl p σ):=Ev.at (r:=fun v=>RV.val (Val.d (D.bl v))) fun sg _=>rfl
theorem KR{a b:Int}:Ev R p σ (aI .ge (.val (.d (.int a))) (.val (.d (.int b)))) (.ok (decide (b≤a))) (pD .bl p σ):=Ev.at (r:=fun v=>RV.val (Val.d (D.bl v))) fun sg _=>rfl
theorem LN{a b:List Nat}:Ev R p σ (aI .le (.val (.d (.str a))) (.val (.d (.str b)))) (.ok (!hX b a)) (pD .bl p σ):=Ev.at (r:=fun v=>RV.val (Val.d (D.bl v))) fun sg _=>rfl
def eqB{T:Type}[DecidableEq T](a b:T):Bool:=decide (a=b)
@[simp] theorem LY{T:Type}[DecidableEq T](a b:T):eqB a b=decide (a=b):=id rfl
structure EqE {T:Type} [DecidableEq T] (e:T→D) (n:Nat):Prop where
 pl:∀ x,dF (e x)=true
 dp:∀ x,dq n (e x)=true
 eq:∀ x y,iS (e x) (e y)=decide (x=y)
theorem EqE.cmp{T:Type}[DecidableEq T]{e:T→D}{n:Nat}(E:EqE e n)(h:n≤60)(x y:T):dj (e x) (e y)=true:=by
 have h1:=pK n _ (E.pl x) (E.dp x)
 unfold dj
 simp[qZ _ (E.pl x),qZ _ (E.pl y)]
 omega
theorem ia[DecidableEq T]{e:T→D}{a b:T}{x y:RV}(hx:Pv p σ x (e a))(hy:Pv p σ y (e b))(E:EqE e n)(hn:n≤60):Ev R p σ (aI .eq x y) (.ok (eqB a b)) (pD .bl p σ):=Ev.at (r:=fun v=>RV.val (Val.d (D.bl v))) fun sg hf=>by
 rw[pH,G9,tj,hx sg hf,hy sg hf]
 dsimp only
 rw[if_pos (E.cmp hn a b),E.eq];rfl
theorem DJ[DecidableEq T]{e:T→D}{a b:T}{x y:RV}(hx:Pv p σ x (e a))(hy:Pv p σ y (e b))(E:EqE e n)(hn:n≤60):Ev R p σ (aI .ne x y) (.ok (!eqB a b)) (pD .bl p σ):=Ev.at (r:=fun v=>RV.val (Val.d (D.bl v))) fun sg hf=>by
 rw[pH,Hu,tj,hx sg hf,hy sg hf]
 dsimp only
 rw[if_pos (E.cmp hn a b),E.eq];rfl
def oO(a b:D):M Bool:=if dj a b then .ok (iS a b)else .bad
theorem LF{a b:D}{x y:RV}(hx:Pv p σ x a)(hy:Pv p σ y b):Ev R p σ (aI .eq x y) (oO a b) (pD .bl p σ):=fun sg hf=>by
 unfold oO
 split
 ·rename_i h
  refine⟨sg,?_,hf⟩
  rw[pH,G9,tj,hx sg hf,hy sg hf]
  dsimp only
  rw[if_pos h];rfl
 ·trivial
theorem LJ{a b:D}{x y:RV}(hx:Pv p σ x a)(hy:Pv p σ y b):Ev R p σ (aI .ne x y) ((oO a b).bind fun k=>.ok (!k)) (pD .bl p σ):=fun sg hf=>by
 unfold oO
 split
 ·rename_i h
  refine⟨sg,?_,hf⟩
  rw[pH,Hu,tj,hx sg hf,hy sg hf]
  dsimp only
  rw[if_pos h];rfl
 ·trivial
def i8{T:Type}[DecidableEq T](a:T)(l:List T):Bool:=decide (a∈l)
@[simp] theorem LK{T:Type}[DecidableEq T](a:T)(l:List T):i8 a l=decide (a∈l):=id rfl
theorem Cd[DecidableEq T]{e:T→D}(E:EqE e n)(l:List T):fx (l.map e)=true:=jG e l fun x _=>E.pl x
theorem J7[DecidableEq T]{e:T→D}(E:EqE e n)(l:List T)(a:T):((l.map e).any fun y=>iS y (e a))=decide (a∈l):=by
 rw[List.any_map]
 have:(fun y=>iS (e y) (e a))=fun y=>decide (y=a):=funext fun y=>E.eq y a
 rw[show((fun y=>iS y (e a))∘e)=fun y=>decide (y=a)from this]
 rw[Bool.eq_iff_iff]
 simp
theorem J1[DecidableEq T]{e:T→D}{a:T}{l:List T}{x y:RV}(hx:Pv p σ x (e a))(hy:Lv p σ y e l)(E:EqE e n)(hn:n≤60){sg:Slots}(hf:Fits p sg):inD ⟨sg,σ⟩ x y=some (decide (a∈l)):=by
 obtain⟨h1,h2,h3,h4⟩:=hy sg hf
 unfold inD
 rw[h4 x]
 have hs:∀ b,dv ⟨sg,σ⟩ y≠some (.str b):=fun b e=>by rw[x7,e]at h1;cases h1
 dsimp only
 split
 ·rename_i e;exact absurd e (hs _)
 ·rw[hx sg hf,h2]
  dsimp only
  have d1:=pK n _ (E.pl a) (E.dp a)
  have d2:=qd _ (Cd E l)
  rw[if_pos (by
   simp[qZ _ (E.pl a),d2]
   omega)]
  rw[J7 E]
theorem DB[DecidableEq T]{e:T→D}{a:T}{l:List T}{x y:RV}(hx:Pv p σ x (e a))(hy:Lv p σ y e l)(E:EqE e n)(hn:n≤60):Ev R p σ (aI .isin x y) (.ok (i8 a l)) (pD .bl p σ):=Ev.at (r:=fun v=>RV.val (Val.d (D.bl v))) fun sg hf=>by
 rw[pH]
 show(match inD _ _ _ with | some b=>aH (.bl b) _ | none=>Res.stuck)=_
 rw[J1 hx hy E hn hf];rfl
theorem DG{a b:List Nat}:Ev R p σ (aI .isin (.val (.d (.str a))) (.val (.d (.str b)))) (.ok (subIn a b)) (pD .bl p σ):=Ev.at (r:=fun v=>RV.val (Val.d (D.bl v))) fun sg hf=>rfl
def d7(l:List T)(i:Int):M T:=match atI l i with | some a=>.ok a | none=>.bad
def ic(t:List Nat)(i:Int):M (List Nat):=(gd (decide (t.length≤sizeLine))).bind fun _=>match atI t i with | some c=>.ok [c] | none=>.bad
theorem nG{e:T→D}{l:List T}{k:Int}{x:RV}(h:Lv p σ x e l):Ev R p σ (bZ x (.val (.d (.int k)))) (d7 l k) (pD e p σ):=Ev.op (r:=fun v=>RV.val (Val.d (e v))) fun a h' sg hf=>by
 obtain⟨h1,h2,h3,h4⟩:=h sg hf
 unfold bZ
 rw[h4]
 dsimp only
 split
 ·rename_i e' _;rw[x7,e']at h1;cases h1
 ·rename_i i e'' e'
  cases (show some (D.int k)=some (D.int i)from e'')
  rw[h1]
  dsimp only
  rw[vk,h'];rfl
 ·rename_i h5 h6
  exact absurd rfl (h5 k)
theorem xT{t:List Nat}{k:Int}:Ev R p σ (bZ (.val (.d (.str t))) (.val (.d (.int k)))) (ic t k) (pD .str p σ):=fun sg hf=>by
 unfold ic
 by_cases h:t.length≤sizeLine
 ·rw[show decide (t.length≤sizeLine)=true from decide_eq_true h,rR,M.aa,Jf,if_pos h]
  cases atI t k with
  | some c=>exact⟨sg,rfl,hf⟩
  | none=>trivial
 ·rw[show decide (t.length≤sizeLine)=false from decide_eq_false h];trivial
def m6(d:D)(i:Int):M D:=match d with
 | .tup l=>d7 l i
 | .lst l=>d7 l i
 | _=>.bad
theorem Gk{d:D}{k:Int}:Ev R p σ (bZ (.val (.d d)) (.val (.d (.int k)))) (m6 d k) (pD eY p σ):=fun sg hf=>by
 cases d<;> try trivial
 ·rename_i l
  show Rn R _ (d7 l k) _
  unfold d7
  rw[J2]
  cases atI l k<;> first | trivial | exact⟨sg,rfl,hf⟩
 ·rename_i l
  show Rn R _ (d7 l k) _
  unfold d7
  rw[JR]
  cases atI l k<;> first | trivial | exact⟨sg,rfl,hf⟩
def js(d:D):M (List Nat):=match d with | .str s=>.ok s | _=>.bad
def pq(d:D):M Int:=match d with | .int s=>.ok s | _=>.bad
def LM(d:D):M (List D):=match d with | .lst l=>.ok l | _=>.bad
def nD(f:D→M T):List D→M (List T)
 | []=>.ok []
 | x::r=>(f x).bind fun a=>(nD f r).bind fun as=>.ok (a::as)
def tP(f:D→M T)(d:D):M (List T):=(LM d).bind (nD f)
def Dec(f:D→M T)(e:T→D):Prop:=∀ d a,f d=.ok a→d=e a
def tU(f:D→M T):Prop:=∀ d x,f d≠ .exc x
theorem qF:Dec js .str:=fun d a h=>by cases d<;> cases h;rfl
theorem Em:Dec pq .int:=fun d a h=>by cases d<;> cases h;rfl
theorem uu:tU js:=fun d x h=>by cases d<;> cases h
theorem Ho:tU pq:=fun d x h=>by cases d<;> cases h
theorem HV{f:D→M T}{e:T→D}(h:Dec f e):∀ (l:List D) (as:List T),nD f l=.ok as→l=as.map e
 | [],as,q=>by cases q;rfl
 | x::r,as,q=>by
  unfold nD at q
  cases hx:f x with
  | ok a=>
   rw[hx,M.aa]at q
   cases hr:nD f r with
   | ok bs=>rw[hr,M.aa]at q;cases q;rw[h x a hx,HV h r bs hr];rfl
   | exc x=>rw[hr]at q;cases q
   | bad=>rw[hr]at q;cases q
  | exc x=>rw[hx]at q;cases q
  | bad=>rw[hx]at q;cases q
theorem Eo{f:D→M T}{e:T→D}(h:Dec f e):Dec (tP f) (eL e):=fun d a q=>by
 cases d<;> try cases q
 exact congrArg D.lst (HV h _ _ q)
theorem Kq{f:D→M T}(h:tU f):∀ (l:List D) (x:Exn),nD f l≠ .exc x
 | [],x=>by intro q;cases q
 | d::r,x=>by
  intro q
  unfold nD at q
  cases hx:f d with
  | ok a=>
   rw[hx,M.aa]at q
   cases hr:nD f r with
   | ok bs=>rw[hr]at q;cases q
   | exc x=>exact Kq h r _ hr
   | bad=>rw[hr]at q;cases q
  | exc x=>exact h d _ hx
  | bad=>rw[hx]at q;cases q
theorem GF{f:D→M T}(h:tU f):tU (tP f):=fun d x q=>by
 cases d<;> try cases q
 exact Kq h _ _ q
theorem z6{f:State→Res RV}{m:M D}{dec:D→M T}{e:T→D}{P:Pt}{S:List Ob}(h:Ev R p σ f m (pD eY P S))(hd:Dec dec e)(hx:tU dec):Ev R p σ f (m.bind dec) (pD e P S):=fun sg hf=>by
 have:=h sg hf
 cases m with
 | ok d=>
  obtain⟨sg',e',hf'⟩:=this
  show Rn R _ (dec d) _
  cases hq:dec d with
  | ok a=>exact⟨sg',by rw[e',hd d a hq],hf'⟩
  | exc x=>exact absurd hq (hx d x)
  | bad=>trivial
 | exc x=>exact this
 | bad=>trivial
theorem toY{f:State→Res RV}{m:M T}{e:T→D}{P:Pt}{S:List Ob}(h:Ev R p σ f m (pD e P S)):Ev R p σ f (m.bind fun v=>.ok (e v)) (pD eY P S):=Ev.map e (pD eY P S) h fun v=>rfl
end
end Vw
namespace Vw
open PySem L2
section
variable{R:List Ob→Prop}{p p':Pt}{σ σ':List Ob}{α β γ T U W A B:Type}{i j n:Nat}
abbrev pB(p:Pt)(σ:List Ob):Bool→Bool×Pt×List Ob:=fun v=>(v,p,σ)
theorem tB{f:State→Res RV}{m:M T}{b:T→Bool}{P:T→Pt}{S:T→List Ob}(h:Ev R p σ (ev f) m (fun v=>(.val (.d (.bl (b v))),P v,S v))):Ev R p σ (aT f) m (fun v=>(b v,P v,S v)):=fun sg hf=>by
 have:=h sg hf
 cases m with
 | ok v=>obtain⟨sg',e,hf'⟩:=this;exact⟨sg',by rw[AV,e];rfl,hf'⟩
 | exc x=>obtain⟨s,e,r⟩:=this;exact⟨s,by rw[AV,e];rfl,r⟩
 | bad=>trivial
def andM(a b:M Bool):M Bool:=a.bind fun x=>if x=true then b else .ok false
def orM(a b:M Bool):M Bool:=a.bind fun x=>if x=true then .ok true else b
@[simp] theorem qK(x:Bool)(b:M Bool):andM (.ok x) b=if x=true then b else .ok false:=id rfl
@[simp] theorem Hc(x:Bool)(b:M Bool):orM (.ok x) b=if x=true then .ok true else b:=id rfl
theorem xh{x:Bool}{f g:State→Res α}{m1 m2:M T}{post:T→α×Pt×List Ob}(h1:x=true→Ev R p σ f m1 post)(h2:x=false→Ev R p σ g m2 post):Ev R p σ (fun s=>if x=true then f s else g s) (if x=true then m1 else m2) post:=by
 cases x with
 | true=>intro sg hf;exact h1 rfl sg hf
 | false=>intro sg hf;exact h2 rfl sg hf
theorem JA{f g:State→Res Bool}{fs:List (State→Res Bool)}{m1 m2:M Bool}(h1:Ev R p σ f m1 (pB p σ))(h2:Ev R p σ (kE (g::fs)) m2 (pB p σ)):Ev R p σ (kE (f::g::fs)) (andM m1 m2) (pB p σ):=Ev.bind h1 fun x=>xh (fun _=>h2) (fun _=>Ev.pure (r:=fun v:Bool=>v))
theorem An{f g:State→Res Bool}{fs:List (State→Res Bool)}{m1 m2:M Bool}(h1:Ev R p σ f m1 (pB p σ))(h2:Ev R p σ (lB (g::fs)) m2 (pB p σ)):Ev R p σ (lB (f::g::fs)) (orM m1 m2) (pB p σ):=Ev.bind h1 fun x=>xh (fun _=>Ev.pure (r:=fun v:Bool=>v)) (fun _=>h2)
theorem Hy{f:State→Res Bool}{m1:M Bool}(h1:Ev R p σ f m1 (pB p σ)):Ev R p σ (kE [f]) m1 (pB p σ):=h1
theorem AM{f:State→Res Bool}{m1:M Bool}(h1:Ev R p σ f m1 (pB p σ)):Ev R p σ (lB [f]) m1 (pB p σ):=h1
theorem DS{f:State→Res Bool}{m:M T}{b:T→Bool}{P:T→Pt}{S:T→List Ob}(h:Ev R p σ f m (fun v=>(b v,P v,S v))):Ev R p σ (fj f) m (fun v=>(!b v,P v,S v)):=fun sg hf=>by
 have:=h sg hf
 cases m with
 | ok v=>obtain⟨sg',e,hf'⟩:=this;exact⟨sg',by rw[AA,e];rfl,hf'⟩
 | exc x=>obtain⟨s,e,r⟩:=this;exact⟨s,by rw[AA,e];rfl,r⟩
 | bad=>trivial
theorem Ct{f g:State→Res RV}{fs:List (State→Res RV)}{m1 m2:M Bool}(h1:Ev R p σ (ev f) m1 (pD .bl p σ))(h2:Ev R p σ (eg (g::fs)) m2 (pD .bl p σ)):Ev R p σ (eg (f::g::fs)) (andM m1 m2) (pD .bl p σ):=Ev.bind (tB (b:=fun v=>v) h1) fun x=>xh (fun _=>h2) (fun _=>cD D.bl false)
theorem IT{f g:State→Res RV}{fs:List (State→Res RV)}{m1 m2:M Bool}(h1:Ev R p σ (ev f) m1 (pD .bl p σ))(h2:Ev R p σ (jE (g::fs)) m2 (pD .bl p σ)):Ev R p σ (jE (f::g::fs)) (orM m1 m2) (pD .bl p σ):=Ev.bind (tB (b:=fun v=>v) h1) fun x=>xh (fun _=>cD D.bl true) (fun _=>h2)
theorem zp{f:State→Res RV}{m1:M T}{post:T→RV×Pt×List Ob}(h1:Ev R p σ (ev f) m1 post):Ev R p σ (eg [f]) m1 post:=h1
theorem HI{f:State→Res RV}{m1:M T}{post:T→RV×Pt×List Ob}(h1:Ev R p σ (ev f) m1 post):Ev R p σ (jE [f]) m1 post:=h1
theorem aq:Ev R p σ (aj []) (.ok ()) (fun _=>(([]:List RV),p,σ)):=Ev.pure (r:=fun _=>([]:List RV))
theorem aW{f:State→Res RV}{fs:List (State→Res RV)}{m1:M A}{m2:A→M B}{r1:A→RV}{P1:A→Pt}{S1:A→List Ob}{rs:A→B→List RV}{P:A→B→Pt}{S:A→B→List Ob}(h1:Ev R p σ (ev f) m1 (fun v=>(r1 v,P1 v,S1 v)))(h2:∀ v,Ev R (P1 v) (S1 v) (aj fs) (m2 v) (fun w=>(rs v w,P v w,S v w))):Ev R p σ (aj (f::fs)) (m1.bind fun v=>(m2 v).bind fun w=>.ok (v,w)) (fun z=>(r1 z.1::rs z.1 z.2,P z.1 z.2,S z.1 z.2)):=
 Ev.bind h1 fun v=>Ev.bind (h2 v) fun w=>(Ev.pure (a:=(v,w)) (r:=fun z:A×B=>r1 z.1::rs z.1 z.2)).b9 rfl
inductive AllD:List RV→List Val→Prop
 | nil:AllD [] []
 | d {x:Val} {rs:List RV} {vs:List Val}:AllD rs vs→AllD (.val x::rs) (x::vs)
theorem AllD.bG{s:State}:∀ {rs:List RV} {vs:List Val},AllD rs vs→aD rs s=.ok vs s
 | _,_,.nil=>rfl
 | _,_,.d h=>by rw[Dc,n6,Res.aa,AllD.bG h,Res.aa]
inductive Cap (σ:List Ob):Pt→List RV→List Val→Pt→Prop
 | nil {p:Pt}:Cap σ p [] [] p
 | d {p q:Pt} {x:Val} {rs:List RV} {vs:List Val}:Cap σ p rs vs q→Cap σ p (.val x::rs) (x::vs) q
 | o {p q:Pt} {i:Nat} {o:Ob} {d:D} {rs:List RV} {vs:List Val}:p[i]? =some (some (.own o))→o.toD=some d→Cap σ (p.set i (some (.v (.d d)))) rs vs q→Cap σ p (.own i::rs) (.d d::vs) q
theorem Cap.run{σ:List Ob}:∀ {p q:Pt} {rs:List RV} {vs:List Val},Cap σ p rs vs q→∀ sg,Fits p sg→∃ sg',aD rs ⟨sg,σ⟩=.ok vs ⟨sg',σ⟩∧Fits q sg'
 | _,_,_,_,.nil,sg,hf=>⟨sg,rfl,hf⟩
 | _,_,_,_,.d h,sg,hf=>by
  obtain⟨sg',e,hf'⟩:=Cap.run h sg hf
  exact⟨sg',by rw[Dc,n6,Res.aa,e,Res.aa],hf'⟩
 | _,_,_,_,.o h1 h2 h,sg,hf=>by
  obtain⟨sg',e,hf'⟩:=Cap.run h _ (hf.set _ _)
  refine⟨sg',?_,hf'⟩
  rw[Dc,Ik,hf.2 _ _ h1]
  dsimp only
  rw[h2]
  dsimp only
  rw[Res.aa,e,Res.aa]
theorem gO{fs:List (State→Res RV)}{m:M A}{rs:A→List RV}{P:A→Pt}{S:A→List Ob}{vs:A→List Val}{Q:A→Pt}{ds:A→List D}(h:Ev R p σ (aj fs) m (fun v=>(rs v,P v,S v)))(hc:∀ v,Cap (S v) (P v) (rs v) (vs v) (Q v))(hd:∀ v,toDs (vs v)=some (ds v))(hl:∀ v,Nat.ble (vs v).length 1000=true):Ev R p σ (iA fs) m (fun v=>(.val (.d (.tup (ds v))),Q v,S v)):=fun sg hf=>by
 have:=h sg hf
 cases m with
 | ok v=>
  obtain⟨sg',e,hf'⟩:=this
  obtain⟨sg2,e2,hf2⟩:=(hc v).run sg' hf'
  refine⟨sg2,?_,hf2⟩
  rw[DY,e,Res.aa,GH]
  dsimp only
  rw[e2,Res.aa,if_pos (small _ (by have:=Nat.le_of_ble_eq_true (hl v);omega)),EN,hd v]
 | exc x=>obtain⟨s,e,r⟩:=this;exact⟨s,by rw[DY,e];rfl,r⟩
 | bad=>trivial
theorem cO{fs:List (State→Res RV)}{m:M A}{rs:A→List RV}{P:A→Pt}{S:A→List Ob}{vs:A→List Val}{Q:A→Pt}{e:T→D}{l:A→List T}(h:Ev R p σ (aj fs) m (fun v=>(rs v,P v,S v)))(hc:∀ v,Cap (S v) (P v) (rs v) (vs v) (Q v))(hd:∀ v,vs v=(l v).map fun x=>.d (e x))(hl:∀ v,Nat.ble (vs v).length 1000=true):Ev R p σ (dk fs) m (fun v=>(.new (oL e (l v)),Q v,S v)):=fun sg hf=>by
 have:=h sg hf
 cases m with
 | ok v=>
  obtain⟨sg',e,hf'⟩:=this
  obtain⟨sg2,e2,hf2⟩:=(hc v).run sg' hf'
  refine⟨sg2,?_,hf2⟩
  rw[Ey,e,Res.aa,Ie]
  dsimp only
  rw[e2,Res.aa,if_pos (small _ (by have:=Nat.le_of_ble_eq_true (hl v);omega)),hd v]
 | exc x=>obtain⟨s,e,r⟩:=this;exact⟨s,by rw[Ey,e];rfl,r⟩
 | bad=>trivial
theorem pn:Ev R p σ (lM .no) (.ok ()) (fun _=>((none:Option Int),p,σ)):=Ev.pure (r:=fun _=>(none:Option Int))
theorem pe{f:State→Res RV}{m:M Int}(h:Ev R p σ (ev f) m (pD .int p σ)):Ev R p σ (lM (.ex f)) m (fun v=>(some v,p,σ)):=fun sg hf=>by
 have:=h sg hf
 cases m with
 | ok v=>obtain⟨sg',e,hf'⟩:=this;exact⟨sg',by rw[Ew,e];rfl,hf'⟩
 | exc x=>obtain⟨s,e,r⟩:=this;exact⟨s,by rw[Ew,e];rfl,r⟩
 | bad=>trivial
def Bn(t:List Nat)(lo hi:Option Int):M (List Nat):=(gd (decide (t.length≤sizeLine))).bind fun _=>.ok (cy t lo hi)
theorem Gq{t:List Nat}{lo hi:Option Int}:Ev R p σ (vM (.val (.d (.str t))) lo hi) (Bn t lo hi) (pD .str p σ):=Ev.gd (r:=fun v=>RV.val (Val.d (D.str v))) fun h sg _=>by
 show(if t.length≤sizeLine then _ else _)=_
 rw[if_pos (of_decide_eq_true h)];rfl
theorem HF{e:T→D}{l:List T}{r:RV}{lo hi:Option Int}(h:Lv p σ r e l):Ev R p σ (vM r lo hi) (.ok (cy l lo hi)) (Gi e p σ):=Ev.at (r:=fun v=>RV.new (oL e v)) fun sg hf=>by
 obtain⟨h1,h2,h3,h4⟩:=h sg hf
 rw[Iy]
 split
 ·rename_i e';rw[x7,e']at h1;cases h1
 ·rw[h1]
  dsimp only
  rw[xU]
theorem tw{fs:List (State→Res RV)}{b:List RV→State→Res RV}{m:M A}{rs:A→List RV}{P:A→Pt}{S:A→List Ob}{mk:A→M T}{post:T→RV×Pt×List Ob}(h:Ev R p σ (aj fs) m (fun v=>(rs v,P v,S v)))(hb:∀ v,Ev R (P v) (S v) (b (rs v)) (mk v) post):Ev R p σ (bF (aj fs) b) (m.bind mk) post:=Ev.bind h hb
def iF(t:List Nat):M Int:=(gd (decide (t.length≤sizeLine))).bind fun _=>.ok t.length
theorem oa{t:List Nat}:Ev R p σ (cV [.val (.d (.str t))]) (iF t) (pD .int p σ):=Ev.gd (r:=fun v=>RV.val (Val.d (D.int v))) fun h sg _=>by
 show(if t.length≤sizeLine then _ else _)=_
 rw[if_pos (of_decide_eq_true h)];rfl
theorem Lv.sq{e:T→D}{l:List T}{r:RV}(h:Lv p σ r e l){sg:Slots}(hf:Fits p sg):Vw.sq ⟨sg,σ⟩ r=some (l.map fun x=>.d (e x)):=by rw[K5,(h sg hf).1]
theorem ui{e:T→D}{l:List T}{r:RV}(h:Lv p σ r e l):Ev R p σ (cV [r]) (.ok (l.length:Int)) (pD .int p σ):=Ev.at (r:=fun v=>RV.val (Val.d (D.int v))) fun sg hf=>by
 have h1:=(h sg hf).1
 rw[JK]
 split
 ·rename_i e';rw[x7,e']at h1;cases h1
 ·rw[h.sq hf];simp
theorem zU:∀ l:List Bool,mN (l.map fun x=>.d (.bl x))=some l
 | []=>rfl
 | x::r=>by simp[mN,zU r]
theorem y8:∀ l:List (List Nat),strsOf (l.map fun x=>.d (.str x))=some l
 | []=>rfl
 | x::r=>by simp[strsOf,y8 r]
theorem JS{l:List Bool}{r:RV}(h:Lv p σ r .bl l):Ev R p σ (Au [r]) (.ok (l.all id)) (pD .bl p σ):=Ev.at (r:=fun v=>RV.val (Val.d (D.bl v))) fun sg hf=>by
 show(match (lv _ r).bind mN with | some ns=>aH (.bl (ns.all id)) _ | _=>Res.stuck)=_
 rw[(h sg hf).1,Option.bind_some,zU];rfl
def o6(i:Int):M (List Nat):=(gd (decide (i.natAbs.log2<1920))).bind fun _=>.ok (bU i)
theorem Eb{a:Int}:Ev R p σ (ud [.val (.d (.int a))]) (o6 a) (pD .str p σ):=Ev.gd (r:=fun v=>RV.val (Val.d (D.str v))) fun h sg _=>by
 show(if a.natAbs.log2<1920 then _ else _)=_
 rw[if_pos (of_decide_eq_true h)];rfl
theorem AR{a:Bool}:Ev R p σ (uU [.val (.d (.bl a))]) (.ok (if a=true then 1 else 0)) (pD .int p σ):=Ev.at (r:=fun v=>RV.val (Val.d (D.int v))) fun sg _=>rfl
theorem qk{e:T→D}{l:List T}{r:RV}(h:Lv p σ r e l){sg:Slots}(hf:Fits p sg):eI ⟨sg,σ⟩ r=true:=by rw[Iz,(h sg hf).1];rfl
def eX(l:List T)(x:T):M (List T):=(gd (decide (l.length<sizeLine))).bind fun _=>.ok (l++[x])
theorem qA{e:T→D}{l:List T}{x:T}(h:p[i]? =some (some (.own (oL e l)))):Ev R p σ (bAppend (.own i) [.val (.d (e x))]) (eX l x) (fun v=>(.val (.d .non),p.set i (some (.own (oL e v))),σ)):=fun sg hf=>by
 unfold eX
 by_cases hl:l.length<sizeLine
 ·rw[show decide (l.length<sizeLine)=true from decide_eq_true hl,rR,M.aa]
  refine⟨_,?_,hf.set i _⟩
  have h:=hf.2 _ _ h
  simp[h,hl,oL]
 ·rw[show decide (l.length<sizeLine)=false from decide_eq_false hl];trivial
theorem Jq{e:T→D}{l:List T}{x:T}{S:List T→List Ob}(h:σ[n]? =some (oL e l))(hs:∀ l',σ.set n (oL e l')=S l'):Ev R p σ (bAppend (.val (.r n)) [.val (.d (e x))]) (eX l x) (fun v=>(.val (.d .non),p,S v)):=fun sg hf=>by
 unfold eX
 by_cases hl:l.length<sizeLine
 ·rw[show decide (l.length<sizeLine)=true from decide_eq_true hl,rR,M.aa]
  refine⟨sg,?_,hf⟩
  dsimp only
  rw[←hs]
  simp[h,hl,oL]
 ·rw[show decide (l.length<sizeLine)=false from decide_eq_false hl];trivial
def xG(l:List T):M (T×List T):=match l[l.length- 1]? with
  | some y=>.ok (y,l.dropLast)
  | none=>.bad
theorem J0{e:T→D}{l:List T}{S:List T→List Ob}(h:σ[n]? =some (oL e l))(hs:∀ l',σ.set n (oL e l')=S l'):Ev R p σ (uy (.val (.r n)) []) (xG l) (fun v=>(.val (.d (e v.1)),p,S v.2)):=fun sg hf=>by
 unfold xG
 cases h2:l[l.length- 1]? with
 | none=>trivial
 | some y=>
  refine⟨sg,?_,hf⟩
  dsimp only
  rw[←hs]
  simp[h,h2,List.map_dropLast,oL]
def joinM(a:List Nat)(ys:List (List Nat)):M (List Nat):=(gd (decide ((ys.map (·.length)).sum+ys.length*a.length≤16777216))).bind fun _=>.ok (ox a ys)
theorem tH{a:List Nat}{l:List (List Nat)}{r:RV}(h:Lv p σ r .str l):Ev R p σ (m4 (.val (.d (.str a))) [r]) (joinM a l) (pD .str p σ):=Ev.gd (r:=fun v=>RV.val (Val.d (D.str v))) fun hb sg hf=>by
 show(match dv _ _,(Vw.sq _ r).bind strsOf with | some (.str a),some ys=>_ | _,_=>Res.stuck)=_
 rw[h.sq hf,Option.bind_some,y8]
 simp only[uY]
 rw[if_pos (of_decide_eq_true hb)];rfl
end
end Vw
namespace Vw
open PySem L2
def nox{T:Type}:M T→M T
 | .ok a=>.ok a
 | _=>.bad
@[simp] theorem fm{T:Type}(a:T):nox (.ok a)=.ok a:=id rfl
@[simp] theorem L6{T:Type}:nox (.bad:M T)=.bad:=id rfl
def cx{T:Type}(R:List Ob→Prop)(g:Fn)(args:List Val)(σ:List Ob)(m:M T)(post:T→RV×List Ob):Prop:=
 match m with
 | .ok v=>g args σ=.ok (post v).1 ⟨[],(post v).2⟩
 | .exc x=>∃ s,g args σ=.exc x s∧R s.st
 | .bad=>True
section
variable{R R':List Ob→Prop}{p p':Pt}{σ σ':List Ob}{α β γ T U W A B C:Type}{i j n:Nat}
theorem cx.up{g:Fn}{args:List Val}{m:M T}{post:T→RV×List Ob}(h:cx R g args σ m post)(w:∀ s,R s→R' s):cx R' g args σ m post:=by
 cases m with
 | ok v=>exact h
 | exc x=>obtain⟨s,e,r⟩:=h;exact⟨s,e,w _ r⟩
 | bad=>trivial
theorem Ag{k:Nat}{fs:List (State→Res RV)}{g:Fn}{mA:M A}{rs:A→List RV}{P:A→Pt}{S:A→List Ob}{vs:A→List Val}{Q:A→Pt}{mg:A→M T}{pg:A→T→RV×List Ob}{post:T→RV×Pt×List Ob}(h:Ev R p σ (aj fs) mA (fun v=>(rs v,P v,S v)))(hc:∀ v,Cap (S v) (P v) (rs v) (vs v) (Q v))(hl:∀ v,(vs v).length=k)(hg:∀ v,cx R' g (vs v) (S v) (mg v) (pg v))(hp:∀ v w,post w=((pg v w).1,Q v,(pg v w).2)):Ev R p σ (bR k (aj fs) g) (mA.bind fun v=>nox (mg v)) post:=by
 refine Ev.bind h fun v sg hf=>?_
 obtain⟨sg2,e2,hf2⟩:=(hc v).run sg hf
 have hg:=hg v
 show Rn R ((aD (rs v) ⟨sg,S v⟩).bind fun args s=>if args.length=k then cW g args s else .stuck) (nox (mg v)) post
 rw[e2,Res.aa,if_pos (hl v),Ab]
 cases hm:mg v with
 | ok w=>
  rw[hm]at hg
  rw[show g (vs v) (S v)=_ from hg,xS]
  exact⟨sg2,by rw[hp v w],by rw[hp v w];exact hf2⟩
 | exc x=>trivial
 | bad=>trivial
theorem oj{k:Nat}{fs:List (State→Res RV)}{g:Fn}{mA:M A}{rs:A→List RV}{P:A→Pt}{S:A→List Ob}{vs:A→List Val}{Q:A→Pt}{mg:A→M T}{pg:A→T→RV×List Ob}{post:T→RV×Pt×List Ob}(h:Ev R p σ (aj fs) mA (fun v=>(rs v,P v,S v)))(hc:∀ v,Cap (S v) (P v) (rs v) (vs v) (Q v))(hl:∀ v,(vs v).length=k)(hg:∀ v,cx R g (vs v) (S v) (mg v) (pg v))(hp:∀ v w,post w=((pg v w).1,Q v,(pg v w).2)):Ev R p σ (fu k (aj fs) g) (mA.bind mg) post:=by
 refine Ev.bind h fun v sg hf=>?_
 obtain⟨sg2,e2,hf2⟩:=(hc v).run sg hf
 have hg:=hg v
 show Rn R ((aD (rs v) ⟨sg,S v⟩).bind fun args s=>if args.length=k then eU g args s else .stuck) (mg v) post
 rw[e2,Res.aa,if_pos (hl v)]
 show Rn R (match g (vs v) (S v)with | .ok r s2=>.ok r ⟨sg2,s2.st⟩ | .exc x s2=>.exc x ⟨sg2,s2.st⟩ | .stuck=>.stuck) (mg v) post
 cases hm:mg v with
 | ok w=>
  rw[hm]at hg
  rw[show g (vs v) (S v)=_ from hg]
  exact⟨sg2,by rw[hp v w],by rw[hp v w];exact hf2⟩
 | exc x=>
  rw[hm]at hg
  obtain⟨s,e,r⟩:=hg
  rw[e]
  exact⟨_,rfl,r⟩
 | bad=>trivial
def uq(p:Pt)(σ:List Ob)(x:Val)(c m:String):Prop:=∃ fl,(∀ sg,Fits p sg→s7 ⟨sg,σ⟩ (.val x)=some (c,fl))∧fl.contains m=false
theorem eQ{c m:String}{fs:List (String×Val)}(hσ:σ[n]? =some (.ins c fs))(h:(fs.map (·.1)).contains m=false):uq p σ (.r n) c m:=⟨_,fun sg hf=>by
 unfold s7
 simp[hσ],h⟩
theorem Ci{c m:String}{k:Nat}{fo:State→Res RV}{fs:List (State→Res RV)}{g:Fn}{mo:M B}{xo:B→Val}{Po:B→Pt}{So:B→List Ob}{mA:B→M A}{rs:B→A→List RV}{P:B→A→Pt}{S:B→A→List Ob}{vs:B→A→List Val}{Q:B→A→Pt}{mg:B→A→M T}{pg:B→A→T→RV×List Ob}{post:T→RV×Pt×List Ob}(ho:Ev R p σ (ev fo) mo (fun b=>(.val (xo b),Po b,So b)))(hi:∀ b,uq (Po b) (So b) (xo b) c m)(h:∀ b,Ev R (Po b) (So b) (aj fs) (mA b) (fun v=>(rs b v,P b v,S b v)))(hc:∀ b v,Cap (S b v) (P b v) (rs b v) (vs b v) (Q b v))(hl:∀ b v,(vs b v).length+1=k)(hg:∀ b v,cx R' g (xo b::vs b v) (S b v) (mg b v) (pg b v))(hp:∀ b v w,post w=((pg b v w).1,Q b v,(pg b v w).2)):Ev R p σ (d6 cW c m k fo (aj fs) g) (mo.bind fun b=>(mA b).bind fun v=>nox (mg b v)) post:=by
 refine Ev.bind ho fun b sg hf=>?_
 obtain⟨fl,hi,hfl⟩:=hi b
 dsimp only
 rw[hi sg hf]
 dsimp only
 rw[if_pos ⟨rfl,hfl⟩]
 refine Ev.bind (h b) (fun v sg hf=>?_) sg hf
 obtain⟨sg2,e2,hf2⟩:=(hc b v).run sg hf
 have hg:=hg b v
 show Rn R ((aD (rs b v) ⟨sg,S b v⟩).bind fun args s=>if args.length+1=k then cW g (xo b::args) s else .stuck) (nox (mg b v)) post
 rw[e2,Res.aa,if_pos (hl b v),Ab]
 cases hm:mg b v with
 | ok w=>
  rw[hm]at hg
  rw[show g (xo b::vs b v) (S b v)=_ from hg,xS]
  exact⟨sg2,by rw[hp b v w],by rw[hp b v w];exact hf2⟩
 | exc x=>trivial
 | bad=>trivial
theorem Gp{c m:String}{k:Nat}{fo:State→Res RV}{fs:List (State→Res RV)}{g:Fn}{mo:M B}{xo:B→Val}{Po:B→Pt}{So:B→List Ob}{mA:B→M A}{rs:B→A→List RV}{P:B→A→Pt}{S:B→A→List Ob}{vs:B→A→List Val}{Q:B→A→Pt}{mg:B→A→M T}{pg:B→A→T→RV×List Ob}{post:T→RV×Pt×List Ob}(ho:Ev R p σ (ev fo) mo (fun b=>(.val (xo b),Po b,So b)))(hi:∀ b,uq (Po b) (So b) (xo b) c m)(h:∀ b,Ev R (Po b) (So b) (aj fs) (mA b) (fun v=>(rs b v,P b v,S b v)))(hc:∀ b v,Cap (S b v) (P b v) (rs b v) (vs b v) (Q b v))(hl:∀ b v,(vs b v).length+1=k)(hg:∀ b v,cx R g (xo b::vs b v) (S b v) (mg b v) (pg b v))(hp:∀ b v w,post w=((pg b v w).1,Q b v,(pg b v w).2)):Ev R p σ (d6 eU c m k fo (aj fs) g) (mo.bind fun b=>(mA b).bind fun v=>mg b v) post:=by
 refine Ev.bind ho fun b sg hf=>?_
 obtain⟨fl,hi,hfl⟩:=hi b
 dsimp only
 rw[hi sg hf]
 dsimp only
 rw[if_pos ⟨rfl,hfl⟩]
 refine Ev.bind (h b) (fun v sg hf=>?_) sg hf
 obtain⟨sg2,e2,hf2⟩:=(hc b v).run sg hf
 have hg:=hg b v
 show Rn R ((aD (rs b v) ⟨sg,S b v⟩).bind fun args s=>if args.length+1=k then eU g (xo b::args) s else .stuck) (mg b v) post
 rw[e2,Res.aa,if_pos (hl b v)]
 show Rn R (match g (xo b::vs b v) (S b v)with | .ok r s2=>.ok r ⟨sg2,s2.st⟩ | .exc x s2=>.exc x ⟨sg2,s2.st⟩ | .stuck=>.stuck) (mg b v) post
 cases hm:mg b v with
 | ok w=>
  rw[hm]at hg
  rw[show g (xo b::vs b v) (S b v)=_ from hg]
  exact⟨sg2,by rw[hp b v w],by rw[hp b v w];exact hf2⟩
 | exc x=>
  rw[hm]at hg
  obtain⟨s,e,r⟩:=hg
  rw[e]
  exact⟨_,rfl,r⟩
 | bad=>trivial
abbrev pS(E:T→Val)(p:Pt)(σ:List Ob):List T→List Val×Pt×List Ob:=fun l=>(l.map E,p,σ)
def chars(t:List Nat):List (List Nat):=t.map fun c=>[c]
def tA(l:List T):List (Int×T):=l.mapIdx fun i x=>((i:Int),x)
theorem DD{f:State→Res RV}{m:M (List T)}{e:T→D}{P:Pt}{S:List Ob}(h:Ev R p σ (ev f) m (pD (eL e) P S)):Ev R p σ (sD f itemsOf) m (pS (fun x=>.d (e x)) P S):=fun sg hf=>by
 have:=h sg hf
 cases m with
 | ok v=>obtain⟨sg',e1,hf'⟩:=this;exact⟨sg',by rw[mz,e1,Res.aa];simp[Function.comp_def],hf'⟩
 | exc x=>obtain⟨s,e,r⟩:=this;exact⟨s,by rw[mz,e];rfl,r⟩
 | bad=>trivial
theorem CJ{sg:Slots}{st:List Ob}{o:Ob}{d:D}(h:sg[i]? =some (some (.own o)))(hd:o.toD=some d):kI (.own i) ⟨sg,st⟩=.ok d ⟨sg.set i (some (.v (.d d))),st⟩:=by
 rw[Cc,Ik,h]
 dsimp only
 rw[hd]
theorem Jr{l:List T}{e:T→D}(h:p[i]? =some (some (.own (oL e l)))):Ev R p σ (sD (ae i) itemsOf) (.ok l) (pS (fun x=>.d (e x)) (p.set i (some (.v (.d (eL e l))))) σ):=fun sg hf=>by
 refine⟨_,?_,hf.set i _⟩
 have h:=hf.2 _ _ h
 rw[mz,nt,iw,h]
 dsimp only
 rw[Res.aa,KC,Res.aa,CJ h (cK e l),Res.aa]
 simp[Function.comp_def]
theorem Bb{f:State→Res RV}{m:M (List Nat)}{P:Pt}{S:List Ob}(h:Ev R p σ (ev f) m (pD .str P S)):Ev R p σ (sD f itemsOf) (m.bind fun t=>.ok (chars t)) (pS (fun x=>.d (.str x)) P S):=fun sg hf=>by
 have:=h sg hf
 cases m with
 | ok v=>obtain⟨sg',e1,hf'⟩:=this;exact⟨sg',by rw[mz,e1,Res.aa];simp[Function.comp_def,chars],hf'⟩
 | exc x=>obtain⟨s,e,r⟩:=this;exact⟨s,by rw[mz,e];rfl,r⟩
 | bad=>trivial
theorem HZ{f:State→Res RV}{m:M (List T)}{e:T→D}{P:Pt}{S:List Ob}(h:Ev R p σ (ev f) m (pD (eL e) P S)):Ev R p σ (sD f mq) (m.bind fun l=>.ok (tA l)) (pS (fun x=>.d (bo .int e x)) P S):=fun sg hf=>by
 have:=h sg hf
 cases m with
 | ok v=>
  obtain⟨sg',e1,hf'⟩:=this
  refine⟨sg',?_,hf'⟩
  rw[mz,e1,Res.aa]
  simp only[Cc,n6,Res.aa,HU]
  congr 1
  unfold tA
  apply List.ext_getElem?
  intro i
  simp only[List.getElem?_mapIdx,List.getElem?_map]
  cases v[i]? <;> rfl
 | exc x=>obtain⟨s,e,r⟩:=this;exact⟨s,by rw[mz,e];rfl,r⟩
 | bad=>trivial
end
end Vw
namespace Vw
open PySem L2
section
variable{R R':List Ob→Prop}{p p':Pt}{σ σ':List Ob}{α β γ T U W A B C:Type}{i j n:Nat}
def jD(lo hi:Int):M (List Int):=(gd (decide (-(2^62)≤lo∧lo<2^62∧ -(2^62)≤hi∧hi<2^62))).bind fun _=>.ok ((List.range (hi-lo).toNat).map fun(i:Nat)=>lo+(i:Int))
theorem GP{lo hi:Int}:Ev R p σ (jT lo hi) (jD lo hi) (pS (fun x=>.d (.int x)) p σ):=fun sg hf=>by
 unfold jD jT
 by_cases h: -(2^62)≤lo∧lo<2^62∧ -(2^62)≤hi∧hi<2^62
 ·rw[decide_eq_true h,rR,M.aa,if_pos h]
  exact⟨sg,by simp[Function.comp_def],hf⟩
 ·rw[decide_eq_false h];trivial
theorem Ks{fs:List (State→Res RV)}{b:List RV→State→Res (List Val)}{m:M A}{rs:A→List RV}{P:A→Pt}{S:A→List Ob}{mk:A→M T}{post:T→List Val×Pt×List Ob}(h:Ev R p σ (aj fs) m (fun v=>(rs v,P v,S v)))(hb:∀ v,Ev R (P v) (S v) (b (rs v)) (mk v) post):Ev R p σ (fq (aj fs) b) (m.bind mk) post:=Ev.bind h hb
theorem xu{a:Int}:Ev R p σ (ee [.val (.d (.int a))]) (jD 0 a) (pS (fun x=>.d (.int x)) p σ):=GP
def oR(p:Pt)(t:Tg)(v:Val)(q:Pt):Prop:=∀ sg σ,Fits p sg→∃ sg',e9 t v ⟨sg,σ⟩=some ⟨sg',σ⟩∧Fits q sg'
def AN(p:Pt)(t:List Tg)(v:List Val)(q:Pt):Prop:=∀ sg σ,Fits p sg→∃ sg',kT t v ⟨sg,σ⟩=some ⟨sg',σ⟩∧Fits q sg'
theorem cm{v:Val}:oR p (.nm i) v (p.set i (some (.v v))):=fun sg σ hf=>⟨_,rfl,hf.set i _⟩
theorem vd{ts:List Tg}{l:List D}{vs:List Val}{q:Pt}(hv:vs=l.map .d)(hl:l.length=ts.length)(h:AN p ts vs q):oR p (.tp ts) (.d (.tup l)) q:=fun sg σ hf=>by
 obtain⟨sg',e,hf'⟩:=h sg σ hf
 refine⟨sg',?_,hf'⟩
 subst hv
 rw[FR,IG]
 dsimp only
 rw[if_pos (by simpa using hl)]
 exact e
theorem qP:AN p [] [] p:=fun sg σ hf=>⟨sg,rfl,hf⟩
theorem gD{t:Tg}{ts:List Tg}{v:Val}{vs:List Val}{q q':Pt}(h1:oR p t v q)(h2:AN q ts vs q'):AN p (t::ts) (v::vs) q':=fun sg σ hf=>by
 obtain⟨sg1,e1,hf1⟩:=h1 sg σ hf
 obtain⟨sg2,e2,hf2⟩:=h2 sg1 σ hf1
 exact⟨sg2,by rw[ET,e1];exact e2,hf2⟩
def ef(mt:T→M Bool)(me:T→M U):List U→List T→M (List U)
 | acc,[]=>.ok acc
 | acc,x::l=>(mt x).bind fun b=>if b=true then(me x).bind fun y=>(gd (decide (acc.length<sizeLine))).bind fun _=>ef mt me (acc++[y]) l else ef mt me acc l
def dH(mt:T→M Bool)(me:T→M U)(l:List T):M (List U):=nox (ef mt me [] l)
theorem vm{f:State→Res RV}{m:M T}{e:T→D}{P:T→Pt}{S:T→List Ob}(h:Ev R p σ f m (fun v=>(.val (.d (e v)),P v,S v))):Ev R p σ (fun s=>(f s).bind bG) m (fun v=>(Val.d (e v),P v,S v)):=fun sg hf=>by
 have:=h sg hf
 cases m with
 | ok v=>obtain⟨sg',e,hf'⟩:=this;exact⟨sg',by show(f _).bind bG=_;rw[e];rfl,hf'⟩
 | exc x=>obtain⟨s,e,r⟩:=this;exact⟨s,by show(f _).bind bG=_;rw[e];rfl,r⟩
 | bad=>trivial
def ig(mt:T→C→M Bool)(me:T→C→M (U×C)):List U→List T→C→M (List U×C)
 | acc,[],c=>.ok (acc,c)
 | acc,x::l,c=>(mt x c).bind fun b=>if b=true then(me x c).bind fun y=>(gd (decide (acc.length<sizeLine))).bind fun _=>ig mt me (acc++[y.1]) l y.2 else ig mt me acc l c
def qC(mt:T→C→M Bool)(me:T→C→M (U×C))(l:List T)(c:C):M (List U×C):=nox (ig mt me [] l c)
theorem u6{vs:List Nat}{t:Tg}{ft:State→Res Bool}{fe:State→Res RV}{E:T→Val}{e:U→D}{S:C→List Ob}{mt:T→C→M Bool}{me:T→C→M (U×C)}{p2 p3:T→Pt}(hv:(vs.all fun v=>(p.getD v none).isNone)=true)
  (hb:∀ x c,oR p t (E x) (p2 x)∧Ev R (p2 x) (S c) ft (mt x c) (fun b=>(b,p2 x,S c))∧Ev R (p2 x) (S c) (fun s=>(fe s).bind bG) (me x c) (fun y=>(.d (e y.1),p3 x,S y.2))) (hw2:∀ x,cM p (p2 x)) (hw3:∀ x,cM p (p3 x)):
  ∀ (l:List T) (acc:List U) (c:C) (sg:Slots),Fits p sg→match ig mt me acc l c with
   | .ok r=>∃ sg',oY vs t ft fe (l.map E) (acc.map fun x=>.d (e x)) ⟨sg,S c⟩=.ok (r.1.map fun x=>.d (e x)) ⟨sg',S r.2⟩∧Fits p sg'
   | _=>True
 | [],acc,c,sg,hf=>⟨sg,rfl,hf⟩
 | x::l,acc,c,sg,hf=>by
  obtain⟨h1,h2,h3⟩:=hb x c
  have ew:cw vs ⟨sg,S c⟩=⟨fR sg vs,S c⟩:=rfl
  obtain⟨sg1,e1,f1⟩:=h1 _ (S c) (hf.wipe vs hv)
  have h2:=h2 sg1 f1
  unfold ig
  rw[List.map_cons]
  have step:oY vs t ft fe (E x::l.map E) (acc.map fun x=>.d (e x)) ⟨sg,S c⟩=(match ft ⟨sg1,S c⟩with
   | .ok true s=>match fe s with
    | .ok rv s=>match bG rv s with
     | .ok y s=>if(acc.map fun x=>Val.d (e x)).length<sizeLine then oY vs t ft fe (l.map E) ((acc.map fun x=>Val.d (e x))++[y]) (cw vs s)else .stuck
     | _=>.stuck
    | _=>.stuck
   | .ok false s=>oY vs t ft fe (l.map E) (acc.map fun x=>.d (e x)) (cw vs s)
   | _=>.stuck):=by
   show(match e9 t (E x) (cw vs ⟨sg,S c⟩)with | none=>Res.stuck | some s=>_)=_
   rw[ew,e1]
   try rfl
  rw[step]
  cases hm:mt x c with
  | ok b=>
   rw[hm]at h2
   obtain⟨sg2,e2,f2⟩:=h2
   rw[M.aa,e2]
   cases b with
   | true=>
    have h3:=h3 sg2 f2
    rw[if_pos rfl]
    cases hy:me x c with
    | ok y=>
     rw[hy]at h3
     obtain⟨sg3,e3,f3⟩:=h3
     rw[M.aa]
     by_cases ha:acc.length<sizeLine
     ·rw[decide_eq_true ha,rR,M.aa]
      have e3:(fe ⟨sg2,S c⟩).bind bG=.ok (.d (e y.1)) ⟨sg3,S y.2⟩:=e3
      cases hfe:fe ⟨sg2,S c⟩with
      | ok rv s=>
       rw[hfe,Res.aa]at e3
       dsimp only
       rw[hfe]
       dsimp only
       rw[e3]
       dsimp only
       rw[if_pos (by simpa using ha)]
       have ih:=u6 hv hb hw2 hw3 l (acc++[y.1]) y.2 (fR sg3 vs) ((f3.weak (hw3 x)).wipe vs hv)
       rw[List.map_append]at ih
       exact ih
      | exc z s=>rw[hfe]at e3;cases e3
      | stuck=>rw[hfe]at e3;cases e3
     ·rw[decide_eq_false ha];trivial
    | exc z=>trivial
    | bad=>trivial
   | false=>
    rw[if_neg (by simp)]
    dsimp only
    exact u6 hv hb hw2 hw3 l acc c (fR sg2 vs) ((f2.weak (hw2 x)).wipe vs hv)
  | exc z=>trivial
  | bad=>trivial
theorem Ex{vs:List Nat}{t:Tg}{src:State→Res (List Val)}{ft:State→Res Bool}{fe:State→Res RV}{ml:M A}{lA:A→List T}{E:T→Val}{q:Pt}{e:U→D}{S:C→List Ob}{cA:A→C}{mt:T→C→M Bool}{me:T→C→M (U×C)}{p2 p3:T→Pt}(hs:Ev R p σ src ml (fun a=>((lA a).map E,q,S (cA a))))(hv:(vs.all fun v=>(q.getD v none).isNone)=true)
  (hb:∀ x c,oR q t (E x) (p2 x)∧Ev R (p2 x) (S c) ft (mt x c) (fun b=>(b,p2 x,S c))∧Ev R (p2 x) (S c) (fun s=>(fe s).bind bG) (me x c) (fun y=>(.d (e y.1),p3 x,S y.2))) (hw2:∀ x,cM q (p2 x)) (hw3:∀ x,cM q (p3 x)):
  Ev R p σ (jr vs t src ft fe) (ml.bind fun a=>qC mt me (lA a) (cA a)) (fun r=>(.new (oL e r.1),q,S r.2)):=Ev.bind hs fun a sg hf=>by
 have:=u6 (R:=R) (fe:=fe) (ft:=ft) (me:=me) (mt:=mt) hv hb hw2 hw3 (lA a) [] (cA a) (fR sg vs) (hf.wipe vs hv)
 unfold qC
 cases hc:ig mt me [] (lA a) (cA a)with
 | ok r=>
  rw[hc]at this
  obtain⟨sg',e1,f1⟩:=this
  refine⟨sg',?_,f1⟩
  have e1:oY vs t ft fe ((lA a).map E) [] (cw vs ⟨sg,S (cA a)⟩)=_:=e1
  show(oY vs t ft fe ((lA a).map E) [] (cw vs ⟨sg,S (cA a)⟩)).bind B9=_
  rw[e1];rfl
 | exc x=>trivial
 | bad=>trivial
theorem ve(mt:T→M Bool)(me:T→M U):∀ (l:List T) (acc:List U),ig (C:=Unit) (fun x _=>mt x) (fun x _=>(me x).bind fun y=>.ok (y,())) acc l ()=(ef mt me acc l).bind fun r=>.ok (r,())
 | [],acc=>rfl
 | x::l,acc=>by
  unfold ig ef
  cases mt x with
  | ok b=>
   cases b with
   | true=>
    simp only[M.aa,if_pos]
    cases me x with
    | ok y=>
     simp only[M.aa]
     cases decide (acc.length<sizeLine)with
     | true=>simp only[rR,M.aa];exact ve mt me l _
     | false=>rfl
    | exc z=>rfl
    | bad=>rfl
   | false=>
    simp only[M.aa]
    exact ve mt me l acc
  | exc z=>rfl
  | bad=>rfl
theorem AY{vs:List Nat}{t:Tg}{src:State→Res (List Val)}{ft:State→Res Bool}{fe:State→Res RV}{ml:M (List T)}{E:T→Val}{q:Pt}{τ:List Ob}{e:U→D}{mt:T→M Bool}{me:T→M U}{p2 p3:T→Pt}(hs:Ev R p σ src ml (fun l=>(l.map E,q,τ)))(hv:(vs.all fun v=>(q.getD v none).isNone)=true)
  (hb:∀ x,oR q t (E x) (p2 x)∧Ev R (p2 x) τ ft (mt x) (fun b=>(b,p2 x,τ))∧Ev R (p2 x) τ (fun s=>(fe s).bind bG) (me x) (fun y=>(.d (e y),p3 x,τ))) (hw2:∀ x,cM q (p2 x)) (hw3:∀ x,cM q (p3 x)):
  Ev R p σ (jr vs t src ft fe) (ml.bind fun l=>dH mt me l) (fun r=>(.new (oL e r),q,τ)):=by
 have h:=Ex (R:=R) (C:=Unit) (S:=fun _=>τ) (cA:=fun _=>()) (lA:=fun l=>l) (mt:=fun x _=>mt x) (me:=fun x _=>(me x).bind fun y=>.ok (y,())) (e:=e) (p3:=p3) hs hv (fun x c=>⟨(hb x).1,(hb x).2.1,Ev.map (fun y=>(y,())) _ (hb x).2.2 fun v=>rfl⟩) hw2 hw3
 intro sg hf
 have h:=h sg hf
 cases ml with
 | ok l=>
  show Rn R _ (dH mt me l) _
  have h:Rn R _ (qC (C:=Unit) (fun x _=>mt x) (fun x _=>(me x).bind fun y=>.ok (y,())) l ()) _:=h
  unfold qC at h
  unfold dH
  rw[ve]at h
  revert h
  cases ef mt me [] l<;> intro h<;> exact h
 | exc x=>exact h
 | bad=>trivial
theorem lC:Ev R p σ iq (.ok true) (pB p σ):=Ev.pure (r:=fun v:Bool=>v)
end
end Vw
namespace Vw
open PySem L2
@[simp] theorem M.bind_pure{α:Type}(m:M α):(m.bind fun v=>.ok v)=m:=by cases m<;> rfl
inductive OutS where
 | nx (p:Pt) (σ:List Ob)
 | go (p:Pt) (σ:List Ob)
 | brk (p:Pt) (σ:List Ob)
 | ret (rv:RV) (σ:List Ob)
def JH(r:Res Fl):OutS→Prop
 | .nx p σ=>∃ sg,r=.ok .nx ⟨sg,σ⟩∧Fits p sg
 | .go p σ=>∃ sg,(r=.ok .nx ⟨sg,σ⟩∨r=.ok .cnt ⟨sg,σ⟩)∧Fits p sg
 | .brk p σ=>∃ sg,r=.ok .brk ⟨sg,σ⟩∧Fits p sg
 | .ret rv σ=>∃ r0 sg,r=.ok (.ret r0) ⟨sg,σ⟩∧kr ⟨sg,σ⟩ r0=some rv
def Sg{T:Type}(w:Bool)(R:List Ob→Prop)(p:Pt)(σ:List Ob)(b:State→Res Fl)(m:M T)(post:T→OutS):Prop:=∀ sg,Fits p sg→match m with
 | .ok v=>JH (b ⟨sg,σ⟩) (post v)∧(w=true→∀ s,b ⟨sg,σ⟩≠ .ok .nx s)
 | .exc x=>∃ s,b ⟨sg,σ⟩=.exc x s∧R s.st
 | .bad=>True
inductive Lp (C Q:Type) where
 | go (c:C)
 | brk (c:C)
 | ret (q:Q)
def foldM{C T:Type}(f:C→T→M C):C→List T→M C
 | c,[]=>.ok c
 | c,x::l=>(f c x).bind fun c=>foldM f c l
def EE{C T Q:Type}(f:C→T→M (Lp C Q)):C→List T→M (C ⊕ Q)
 | c,[]=>.ok (.inl c)
 | c,x::l=>(f c x).bind fun o=>match o with
  | .go c=>EE f c l
  | .brk c=>.ok (.inl c)
  | .ret q=>.ok (.inr q)
def nQ{C:Type}(t:C→M Bool)(f:C→M C):Nat→C→M C
 | 0,_=>.bad
 | n+1,c=>(t c).bind fun b=>if b=true then(f c).bind fun c=>nQ t f n c else .ok c
@[simp] theorem eF{C T:Type}(f:C→T→M C)(c:C):foldM f c []=.ok c:=id rfl
@[simp] theorem bH{C T:Type}(f:C→T→M C)(c:C)(x:T)(l:List T):foldM f c (x::l)=(f c x).bind fun c=>foldM f c l:=id rfl
@[simp] theorem Kd{C T Q:Type}(f:C→T→M (Lp C Q))(c:C):EE f c []=.ok (.inl c):=id rfl
def G0{C Q U:Type}(k:C→M U)(ι:Q→U):C ⊕ Q→M U
 | .inl c=>k c
 | .inr q=>.ok (ι q)
@[simp] theorem M7{C Q U:Type}(k:C→M U)(ι:Q→U)(c:C):G0 k ι (.inl c)=k c:=id rfl
@[simp] theorem Na{C Q U:Type}(k:C→M U)(ι:Q→U)(q:Q):G0 k ι (.inr q)=.ok (ι q):=id rfl
section
variable{R R':List Ob→Prop}{p p' q:Pt}{σ σ':List Ob}{α β γ T U W A B C Q:Type}{i j n:Nat}{w:Bool}
theorem mr{v:T}{post:T→OutS}(hp:post v=.nx p' σ)(hw:cM p' p):Sg false R p σ (ah []) (.ok v) post:=fun sg hf=>⟨by rw[hp];exact⟨sg,rfl,hf.weak hw⟩,fun h=>by cases h⟩
theorem hZ{v:T}{post:T→OutS}(hp:post v=.go p' σ)(hw:cM p' p):Sg false R p σ (ah []) (.ok v) post:=fun sg hf=>⟨by rw[hp];exact⟨sg,.inl rfl,hf.weak hw⟩,fun h=>by cases h⟩
theorem iB{s:State→Res Fl}{rest:List (State→Res Fl)}{m:M A}{P:A→Pt}{S:A→List Ob}{k:A→M T}{post:T→OutS}(hs:Ev R p σ s m (fun v=>(.nx,P v,S v)))(hr:∀ v,Sg w R (P v) (S v) (ah rest) (k v) post):Sg w R p σ (ah (s::rest)) (m.bind k) post:=fun sg hf=>by
 have:=hs sg hf
 cases m with
 | ok v=>
  obtain⟨sg',e,f⟩:=this
  have h2:=hr v sg' f
  rw[M.aa,fX e]
  exact h2
 | exc x=>
  obtain⟨s',e,r⟩:=this
  exact⟨s',by rw[kS,e,yx],r⟩
 | bad=>trivial
theorem DL{r:Res Fl}{k:State→Res Fl}(h:∀ s,r≠ .ok .nx s):lF r k=r:=by
 cases r with
 | ok f s=>
  cases f with
  | nx=>exact absurd rfl (h s)
  | ret r=>rfl
  | brk=>rfl
  | cnt=>rfl
 | exc x s=>rfl
 | stuck=>rfl
theorem bD{s:State→Res Fl}{rest:List (State→Res Fl)}{m:M T}{post:T→OutS}(hs:Sg true R p σ s m post):Sg w R p σ (ah (s::rest)) m post:=fun sg hf=>by
 have:=hs sg hf
 cases m with
 | ok v=>
  have h2:=this.2 rfl
  rw[kS,DL h2]
  exact⟨this.1,fun _=>h2⟩
 | exc x=>
  obtain⟨s',e,r⟩:=this
  exact⟨s',by rw[kS,e,yx],r⟩
 | bad=>trivial
theorem Sg.weak{b:State→Res Fl}{m:M T}{post:T→OutS}(h:Sg true R p σ b m post):Sg w R p σ b m post:=fun sg hf=>by
 have:=h sg hf
 cases m with
 | ok v=>exact⟨this.1,fun _=>this.2 rfl⟩
 | exc x=>exact this
 | bad=>trivial
theorem iU{f:State→Res RV}{m:M A}{x:A→Val}{P:A→Pt}{S:A→List Ob}{φ:A→T}{post:T→OutS}(h:Ev R p σ f m (fun v=>(.val (x v),P v,S v)))(hp:∀ v,post (φ v)=.ret (.val (x v)) (S v)):Sg true R p σ (aP f) (m.bind fun v=>.ok (φ v)) post:=fun sg hf=>by
 have:=h sg hf
 cases m with
 | ok v=>
  obtain⟨sg',e,f⟩:=this
  refine⟨?_,fun _ s h=>?_⟩
  ·rw[hp]
   exact⟨.val (x v),sg',by rw[mU,e];rfl,rfl⟩
  ·rw[mU,e]at h
   cases h
 | exc x=>
  obtain⟨s',e,r⟩:=this
  exact⟨s',by rw[mU,e];rfl,r⟩
 | bad=>trivial
theorem Il{f:State→Res RV}{m:M A}{x:A→Ob}{P:A→Pt}{S:A→List Ob}{φ:A→T}{post:T→OutS}(h:Ev R p σ f m (fun v=>(.new (x v),P v,S v)))(hp:∀ v,post (φ v)=.ret (.new (x v)) (S v)):Sg true R p σ (aP f) (m.bind fun v=>.ok (φ v)) post:=fun sg hf=>by
 have:=h sg hf
 cases m with
 | ok v=>
  obtain⟨sg',e,f⟩:=this
  refine⟨?_,fun _ s h=>?_⟩
  ·rw[hp]
   exact⟨.new (x v),sg',by rw[mU,e];rfl,rfl⟩
  ·rw[mU,e]at h
   cases h
 | exc x=>
  obtain⟨s',e,r⟩:=this
  exact⟨s',by rw[mU,e];rfl,r⟩
 | bad=>trivial
theorem Kf{o:Ob}{a:T}{post:T→OutS}(h:p[i]? =some (some (.own o)))(hp:post a=.ret (.new o) σ):Sg true R p σ (aP (ae i)) (.ok a) post:=fun sg hf=>by
 have h:=hf.2 _ _ h
 refine⟨?_,fun _ s h'=>?_⟩
 ·rw[hp]
  exact⟨.own i,sg,by rw[mU,iw,h];rfl,by rw[Ip,h]⟩
 ·rw[mU,iw,h]at h'
  cases h'
theorem FI{c:String}{post:T→OutS}(hr:R σ):Sg true R p σ (ql c) (.exc ⟨c,none⟩) post:=fun sg hf=>⟨_,rfl,hr⟩
theorem DN{c:String}{f:State→Res RV}{m:M A}{e:A→D}{S:A→List Ob}{P:A→Pt}{post:T→OutS}(h:Ev R p σ (ev f) m (fun v=>(.val (.d (e v)),P v,S v)))(hr:∀ v,R (S v)):Sg true R p σ (qW c f) (m.bind fun v=>.exc ⟨c,some (e v)⟩) post:=fun sg hf=>by
 have:=h sg hf
 cases m with
 | ok v=>
  obtain⟨sg',e1,f⟩:=this
  refine⟨⟨sg',S v⟩,?_,hr v⟩
  show(ev _ _).bind _=_
  rw[e1];rfl
 | exc x=>
  obtain⟨s',e1,r⟩:=this
  refine⟨s',?_,r⟩
  show(ev _ _).bind _=_
  rw[e1];rfl
 | bad=>trivial
theorem yU{as bs:List (State→Res Fl)}{s:State}:lF (ah as s) (ah bs)=ah (as++bs) s:=by
 induction as generalizing s with
 | nil=>rfl
 | cons a as ih=>
  rw[List.cons_append,kS,kS]
  cases a s with
  | ok f s'=>
   cases f with
   | nx=>rw[u0,u0];exact ih
   | ret r=>rfl
   | brk=>rfl
   | cnt=>rfl
  | exc x s'=>rfl
  | stuck=>rfl
theorem DR{t:State→Res Bool}{As Bs rest:List (State→Res Fl)}{mt:M A}{b:A→Bool}{P:A→Pt}{S:A→List Ob}{mA mB:A→M T}{post:T→OutS}(ht:Ev R p σ t mt (fun v=>(b v,P v,S v)))(hA:∀ v,Sg w R (P v) (S v) (ah (As++rest)) (mA v) post)(hB:∀ v,Sg w R (P v) (S v) (ah (Bs++rest)) (mB v) post):Sg w R p σ (ah (b7 t (ah As) (ah Bs)::rest)) (mt.bind fun v=>if b v=true then mA v else mB v) post:=fun sg hf=>by
 have:=ht sg hf
 cases mt with
 | ok v=>
  obtain⟨sg',e,f⟩:=this
  rw[M.aa,kS,yw,e,Res.aa]
  dsimp only
  by_cases hb:b v=true
  ·have h2:=hA v sg' f
   simp only[if_pos hb,yU]
   exact h2
  ·have h2:=hB v sg' f
   simp only[if_neg hb,yU]
   exact h2
 | exc x=>
  obtain⟨s',e,r⟩:=this
  exact⟨s',by rw[kS,yw,e];rfl,r⟩
 | bad=>trivial
theorem xc{t:State→Res Bool}{As Bs rest:List (State→Res Fl)}{mt:M A}{b:A→Bool}{P:A→Pt}{S:A→List Ob}{mA mB:A→M C}{Pc:C→Pt}{Sc:C→List Ob}{k:C→M T}{post:T→OutS}(ht:Ev R p σ t mt (fun v=>(b v,P v,S v)))(hA:∀ v,Sg false R (P v) (S v) (ah As) (mA v) (fun c=>.nx (Pc c) (Sc c)))(hB:∀ v,Sg false R (P v) (S v) (ah Bs) (mB v) (fun c=>.nx (Pc c) (Sc c)))(hr:∀ c,Sg w R (Pc c) (Sc c) (ah rest) (k c) post):Sg w R p σ (ah (b7 t (ah As) (ah Bs)::rest)) ((mt.bind fun v=>if b v=true then mA v else mB v).bind k) post:=by
 refine iB (P:=Pc) (S:=Sc) (fun sg hf=>?_) hr
 have:=ht sg hf
 cases mt with
 | ok v=>
  obtain⟨sg',e,f⟩:=this
  rw[M.aa,yw,e,Res.aa]
  dsimp only
  by_cases hb:b v=true
  ·have h2:=hA v sg' f
   simp only[if_pos hb]
   cases hm:mA v with
   | ok c=>rw[hm]at h2;exact h2.1
   | exc x=>rw[hm]at h2;exact h2
   | bad=>trivial
  ·have h2:=hB v sg' f
   simp only[if_neg hb]
   cases hm:mB v with
   | ok c=>rw[hm]at h2;exact h2.1
   | exc x=>rw[hm]at h2;exact h2
   | bad=>trivial
 | exc x=>
  obtain⟨s',e,r⟩:=this
  exact⟨s',by rw[yw,e];rfl,r⟩
 | bad=>trivial
theorem dB{f:State→Res RV}{m:M A}{x:A→Val}{P:A→Pt}{S:A→List Ob}(h:Ev R p σ f m (fun v=>(.val (x v),P v,S v))):Ev R p σ (aR i f) m (fun v=>(.nx,(P v).set i (some (.v (x v))),S v)):=fun sg hf=>by
 have:=h sg hf
 cases m with
 | ok v=>obtain⟨sg',e,f⟩:=this;exact⟨_,by rw[xi,e];rfl,f.set i _⟩
 | exc x=>obtain⟨s',e,r⟩:=this;exact⟨s',by rw[xi,e];rfl,r⟩
 | bad=>trivial
theorem tW{f:State→Res RV}{m:M A}{x:A→Ob}{P:A→Pt}{S:A→List Ob}(h:Ev R p σ f m (fun v=>(.new (x v),P v,S v))):Ev R p σ (aR i f) m (fun v=>(.nx,(P v).set i (some (.own (x v))),S v)):=fun sg hf=>by
 have:=h sg hf
 cases m with
 | ok v=>obtain⟨sg',e,f⟩:=this;exact⟨_,by rw[xi,e];rfl,f.set i _⟩
 | exc x=>obtain⟨s',e,r⟩:=this;exact⟨s',by rw[xi,e];rfl,r⟩
 | bad=>trivial
theorem Ky{t:Tg}{f:State→Res RV}{m:M A}{x:A→Val}{P:A→Pt}{Q:A→Pt}{S:A→List Ob}(h:Ev R p σ (ev f) m (fun v=>(.val (x v),P v,S v)))(ht:∀ v,oR (P v) t (x v) (Q v)):Ev R p σ (xp t f) m (fun v=>(.nx,Q v,S v)):=fun sg hf=>by
 have:=h sg hf
 cases m with
 | ok v=>
  obtain⟨sg',e,f'⟩:=this
  obtain⟨sg2,e2,f2⟩:=ht v sg' (S v) f'
  refine⟨sg2,?_,f2⟩
  show(ev _ _).bind _=_
  rw[e,Res.aa]
  dsimp only[n6]
  rw[n6]
  dsimp only
  rw[e2];rfl
 | exc x=>obtain⟨s',e,r⟩:=this;exact⟨s',by show(ev _ _).bind _=_;rw[e];rfl,r⟩
 | bad=>trivial
theorem jq{f:State→Res RV}{m:M A}{r:A→RV}{P:A→Pt}{S:A→List Ob}(h:Ev R p σ f m (fun v=>(r v,P v,S v))):Ev R p σ (cN f) m (fun v=>(.nx,P v,S v)):=fun sg hf=>by
 have:=h sg hf
 cases m with
 | ok v=>obtain⟨sg',e,f⟩:=this;exact⟨sg',by rw[Cw,e];rfl,f⟩
 | exc x=>obtain⟨s',e,r⟩:=this;exact⟨s',by rw[Cw,e];rfl,r⟩
 | bad=>trivial
theorem yL{t:Tg}{b:State→Res Fl}{E:T→Val}{P:C→Pt}{S:C→List Ob}{p2:C→T→Pt}{mb:C→T→M C}(ht:∀ c x,oR (P c) t (E x) (p2 c x))(hb:∀ c x,Sg false R (p2 c x) (S c) b (mb c x) (fun c'=>.go (P c') (S c'))):
  ∀ (l:List T) (c:C) (sg:Slots),Fits (P c) sg→Rn R (g9 t b (l.map E) ⟨sg,S c⟩) (foldM mb c l) (fun c'=>(.nx,P c',S c'))
 | [],c,sg,hf=>⟨sg,rfl,hf⟩
 | x::l,c,sg,hf=>by
  obtain⟨sg1,e1,f1⟩:=ht c x sg (S c) hf
  have h:=hb c x sg1 f1
  rw[List.map_cons,yD,e1,bH]
  dsimp only
  cases hm:mb c x with
  | ok c'=>
   rw[hm]at h
   obtain⟨⟨sg2,e2,f2⟩,_⟩:=h
   have ih:=yL ht hb l c' sg2 f2
   rw[M.aa]
   rcases e2 with e2 | e2
   ·rw[e2,zN];exact ih
   ·rw[e2,DK];exact ih
  | exc z=>
   rw[hm]at h
   obtain⟨s',e,r⟩:=h
   exact⟨s',by rw[e];rfl,r⟩
  | bad=>trivial
theorem mW{t:Tg}{src:State→Res (List Val)}{b:State→Res Fl}{ml:M A}{lA:A→List T}{E:T→Val}{q:A→Pt}{S0:A→List Ob}{c0:A→C}{P:C→Pt}{S:C→List Ob}{p2:C→T→Pt}{mb:C→T→M C}(hs:Ev R p σ src ml (fun a=>((lA a).map E,q a,S0 a)))(hw:∀ a,cM (P (c0 a)) (q a))(hS:∀ a,S0 a=S (c0 a))(ht:∀ c x,oR (P c) t (E x) (p2 c x))(hb:∀ c x,Sg false R (p2 c x) (S c) b (mb c x) (fun c'=>.go (P c') (S c'))):Ev R p σ (de t src b) (ml.bind fun a=>foldM mb (c0 a) (lA a)) (fun c'=>(.nx,P c',S c')):=Ev.bind hs fun a sg hf=>by
 dsimp only at hf ⊢
 rw[hS a]
 exact yL ht hb (lA a) (c0 a) sg (hf.weak (hw a))
theorem BJ{t:State→Res Bool}{b:State→Res Fl}{P:C→Pt}{S:C→List Ob}{mt:C→M Bool}{mb:C→M C}(ht:∀ c,Ev R (P c) (S c) t (mt c) (fun v=>(v,P c,S c)))(hb:∀ c,Sg false R (P c) (S c) b (mb c) (fun c'=>.go (P c') (S c'))):∀ (n:Nat) (c:C) (sg:Slots),Fits (P c) sg→Rn R (oX n t b ⟨sg,S c⟩) (nQ mt mb n c) (fun c'=>(.nx,P c',S c'))
 | 0,c,sg,hf=>trivial
 | n+1,c,sg,hf=>by
  have h1:=ht c sg hf
  unfold nQ oX
  cases hm:mt c with
  | ok v=>
   rw[hm]at h1
   obtain⟨sg1,e1,f1⟩:=h1
   rw[e1,Res.aa,M.aa]
   cases v with
   | false=>
    rw[if_neg (by simp),if_neg (by simp)]
    exact⟨sg1,rfl,f1⟩
   | true=>
    rw[if_pos rfl,if_pos rfl]
    have h2:=hb c sg1 f1
    cases hb':mb c with
    | ok c'=>
     rw[hb']at h2
     obtain⟨⟨sg2,e2,f2⟩,_⟩:=h2
     have ih:=BJ ht hb n c' sg2 f2
     dsimp only
     rw[M.aa]
     rcases e2 with e2 | e2
     ·rw[e2];exact ih
     ·rw[e2];exact ih
    | exc z=>
     rw[hb']at h2
     obtain⟨s',e,r⟩:=h2
     exact⟨s',by dsimp only;rw[e],r⟩
    | bad=>trivial
  | exc z=>
   rw[hm]at h1
   obtain⟨s',e,r⟩:=h1
   exact⟨s',by rw[e];rfl,r⟩
  | bad=>trivial
theorem Dx{N:Nat}{t:State→Res Bool}{b:State→Res Fl}{P:C→Pt}{S:C→List Ob}{mt:C→M Bool}{mb:C→M C}{c0:C}(hw:cM (P c0) p)(hS:σ=S c0)(ht:∀ c,Ev R (P c) (S c) t (mt c) (fun v=>(v,P c,S c)))(hb:∀ c,Sg false R (P c) (S c) b (mb c) (fun c'=>.go (P c') (S c'))):Ev R p σ (oX N t b) (nQ mt mb N c0) (fun c'=>(.nx,P c',S c')):=fun sg hf=>by
 subst hS
 exact BJ ht hb N c0 sg (hf.weak hw)
theorem di{N:Nat}{b:State→Res Fl}{args:List Val}{m:M T}{post:T→RV×List Ob}(h:Sg true R (args.map (fun x=>some (.v x))++List.replicate (N-args.length) none) σ b m (fun v=>.ret (post v).1 (post v).2)):cx R (cB N b) args σ m post:=by
 have h:=h _ ⟨rfl,fun _ _ h=>h⟩
 cases m with
 | ok v=>
  obtain⟨⟨r0,sg,e,f⟩,_⟩:=h
  show cB N b args σ=_
  rw[pj,e,zk,f]
 | exc x=>
  obtain⟨s,e,r⟩:=h
  exact⟨⟨[],s.st⟩,by rw[pj,e,Ad],r⟩
 | bad=>trivial
theorem DE{N:Nat}{b:State→Res Fl}{args:List Val}{m:M T}{P:T→Pt}{post:T→RV×List Ob}(h:Sg w R (args.map (fun x=>some (.v x))++List.replicate (N-args.length) none) σ b m (fun v=>.nx (P v) (post v).2))(hp:∀ v,(post v).1=.val (.d .non)):cx R (cB N b) args σ m post:=by
 have h:=h _ ⟨rfl,fun _ _ h=>h⟩
 cases m with
 | ok v=>
  obtain⟨⟨sg,e,f⟩,_⟩:=h
  show cB N b args σ=_
  rw[pj,e,Iv,hp]
 | exc x=>
  obtain⟨s,e,r⟩:=h
  exact⟨⟨[],s.st⟩,by rw[pj,e,Ad],r⟩
 | bad=>trivial
end
end Vw
namespace Vw
open PySem L2
section
variable{R R':List Ob→Prop}{p p':Pt}{σ σ':List Ob}{α β γ T U W A B C:Type}{i j n:Nat}{w:Bool}
theorem aK{fa fb:State→Res RV}{k:RV→RV→State→Res RV}{a:T}{b:U}{m:M W}{ra:T→RV}{Pa:T→Pt}{Sa:T→List Ob}{rb:U→RV}{Pb:U→Pt}{Sb:U→List Ob}{post:W→RV×Pt×List Ob}(ha:Ev R p σ (ev fa) (.ok a) (fun v=>(ra v,Pa v,Sa v)))(hb:Ev R (Pa a) (Sa a) (ev fb) (.ok b) (fun v=>(rb v,Pb v,Sb v)))(hk:Ev R (Pb b) (Sb b) (k (ra a) (rb b)) m post):Ev R p σ (ao fa fb k) m post:=Ev.gE ha (Ev.gE hb hk)
theorem mf{fa fb:State→Res RV}{k:RV→RV→State→Res RV}{a:T}{mb:M U}{mk:U→M W}{ra:T→RV}{Pa:T→Pt}{Sa:T→List Ob}{rb:U→RV}{Pb:U→Pt}{Sb:U→List Ob}{post:W→RV×Pt×List Ob}(ha:Ev R p σ (ev fa) (.ok a) (fun v=>(ra v,Pa v,Sa v)))(hb:Ev R (Pa a) (Sa a) (ev fb) mb (fun v=>(rb v,Pb v,Sb v)))(hk:∀ b,Ev R (Pb b) (Sb b) (k (ra a) (rb b)) (mk b) post):Ev R p σ (ao fa fb k) (mb.bind fun b=>mk b) post:=Ev.gE ha (Ev.bind hb hk)
theorem cJ{fa fb:State→Res RV}{k:RV→RV→State→Res RV}{ma:M T}{b:T→U}{mk:T→M W}{ra:T→RV}{Pa:T→Pt}{Sa:T→List Ob}{rb:T→U→RV}{Pb:T→U→Pt}{Sb:T→U→List Ob}{post:W→RV×Pt×List Ob}(ha:Ev R p σ (ev fa) ma (fun v=>(ra v,Pa v,Sa v)))(hb:∀ a,Ev R (Pa a) (Sa a) (ev fb) (.ok (b a)) (fun v=>(rb a v,Pb a v,Sb a v)))(hk:∀ a,Ev R (Pb a (b a)) (Sb a (b a)) (k (ra a) (rb a (b a))) (mk a) post):Ev R p σ (ao fa fb k) (ma.bind fun a=>mk a) post:=Ev.bind ha fun a=>Ev.gE (hb a) (hk a)
theorem yc{fa fb:State→Res RV}{k:RV→RV→State→Res RV}{ma:M T}{mb:T→M U}{mk:T→U→M W}{ra:T→RV}{Pa:T→Pt}{Sa:T→List Ob}{rb:T→U→RV}{Pb:T→U→Pt}{Sb:T→U→List Ob}{post:W→RV×Pt×List Ob}(ha:Ev R p σ (ev fa) ma (fun v=>(ra v,Pa v,Sa v)))(hb:∀ a,Ev R (Pa a) (Sa a) (ev fb) (mb a) (fun v=>(rb a v,Pb a v,Sb a v)))(hk:∀ a b,Ev R (Pb a b) (Sb a b) (k (ra a) (rb a b)) (mk a b) post):Ev R p σ (ao fa fb k) (ma.bind fun a=>(mb a).bind fun b=>mk a b) post:=Ev.bind ha fun a=>Ev.bind (hb a) fun b=>hk a b
theorem ag{f:State→Res RV}{fs:List (State→Res RV)}{a:A}{m2:M B}{r1:A→RV}{P1:A→Pt}{S1:A→List Ob}{rs:B→List RV}{P:B→Pt}{S:B→List Ob}(h1:Ev R p σ (ev f) (.ok a) (fun v=>(r1 v,P1 v,S1 v)))(h2:Ev R (P1 a) (S1 a) (aj fs) m2 (fun w=>(rs w,P w,S w))):Ev R p σ (aj (f::fs)) m2 (fun z=>(r1 a::rs z,P z,S z)):=
 Ev.gE h1 (by
  intro sg hf
  have:=h2 sg hf
  cases m2 with
  | ok v=>
   obtain⟨sg',e,f⟩:=this
   exact⟨sg',by dsimp only;rw[e];rfl,f⟩
  | exc x=>
   obtain⟨s,e,r⟩:=this
   exact⟨s,by dsimp only;rw[e];rfl,r⟩
  | bad=>trivial)
theorem dr{fs:List (State→Res RV)}{b:List RV→State→Res RV}{a:A}{rs:A→List RV}{P:A→Pt}{S:A→List Ob}{m:M T}{post:T→RV×Pt×List Ob}(h:Ev R p σ (aj fs) (.ok a) (fun v=>(rs v,P v,S v)))(hb:Ev R (P a) (S a) (b (rs a)) m post):Ev R p σ (bF (aj fs) b) m post:=Ev.gE h hb
theorem CO{fs:List (State→Res RV)}{b:List RV→State→Res (List Val)}{a:A}{rs:A→List RV}{P:A→Pt}{S:A→List Ob}{m:M T}{post:T→List Val×Pt×List Ob}(h:Ev R p σ (aj fs) (.ok a) (fun v=>(rs v,P v,S v)))(hb:Ev R (P a) (S a) (b (rs a)) m post):Ev R p σ (fq (aj fs) b) m post:=Ev.gE h hb
theorem bQ{k:Nat}{fs:List (State→Res RV)}{g:Fn}{a:A}{rs:A→List RV}{P:A→Pt}{S:A→List Ob}{vs:List Val}{Q:Pt}{mg:M T}{pg:T→RV×List Ob}{post:T→RV×Pt×List Ob}(h:Ev R p σ (aj fs) (.ok a) (fun v=>(rs v,P v,S v)))(hc:Cap (S a) (P a) (rs a) vs Q)(hl:vs.length=k)(hg:cx R' g vs (S a) mg pg)(hp:∀ w,post w=((pg w).1,Q,(pg w).2)):Ev R p σ (bR k (aj fs) g) (nox mg) post:=
 Ag (R':=R') (mA:=M.ok a) (vs:=fun _=>vs) (Q:=fun _=>Q) (mg:=fun _=>mg) (pg:=fun _=>pg) (rs:=fun _=>rs a) (P:=fun _=>P a) (S:=fun _=>S a) (Ev.b9 h rfl) (fun _=>hc) (fun _=>hl) (fun _=>hg) (fun _=>hp)
theorem j8{k:Nat}{fs:List (State→Res RV)}{g:Fn}{a:A}{rs:A→List RV}{P:A→Pt}{S:A→List Ob}{vs:List Val}{Q:Pt}{mg:M T}{pg:T→RV×List Ob}{post:T→RV×Pt×List Ob}(h:Ev R p σ (aj fs) (.ok a) (fun v=>(rs v,P v,S v)))(hc:Cap (S a) (P a) (rs a) vs Q)(hl:vs.length=k)(hg:cx R g vs (S a) mg pg)(hp:∀ w,post w=((pg w).1,Q,(pg w).2)):Ev R p σ (fu k (aj fs) g) mg post:=
 oj (mA:=M.ok a) (vs:=fun _=>vs) (Q:=fun _=>Q) (mg:=fun _=>mg) (pg:=fun _=>pg) (rs:=fun _=>rs a) (P:=fun _=>P a) (S:=fun _=>S a) (Ev.b9 h rfl) (fun _=>hc) (fun _=>hl) (fun _=>hg) (fun _=>hp)
theorem lq{c m:String}{k:Nat}{fo:State→Res RV}{fs:List (State→Res RV)}{g:Fn}{b:B}{xo:B→Val}{Po:B→Pt}{So:B→List Ob}{a:A}{rs:A→List RV}{P:A→Pt}{S:A→List Ob}{vs:List Val}{Q:Pt}{mg:M T}{pg:T→RV×List Ob}{post:T→RV×Pt×List Ob}(ho:Ev R p σ (ev fo) (.ok b) (fun b=>(.val (xo b),Po b,So b)))(hi:uq (Po b) (So b) (xo b) c m)(h:Ev R (Po b) (So b) (aj fs) (.ok a) (fun v=>(rs v,P v,S v)))(hc:Cap (S a) (P a) (rs a) vs Q)(hl:vs.length+1=k)(hg:cx R' g (xo b::vs) (S a) mg pg)(hp:∀ w,post w=((pg w).1,Q,(pg w).2)):Ev R p σ (d6 cW c m k fo (aj fs) g) (nox mg) post:=
 Ci (R':=R') (mo:=M.ok b) (xo:=fun _=>xo b) (Po:=fun _=>Po b) (So:=fun _=>So b) (mA:=fun _=>M.ok a) (vs:=fun _ _=>vs) (Q:=fun _ _=>Q) (mg:=fun _ _=>mg) (pg:=fun _ _=>pg) (rs:=fun _ _=>rs a) (P:=fun _ _=>P a) (S:=fun _ _=>S a) (Ev.b9 ho rfl) (fun _=>hi) (fun _=>Ev.b9 h rfl) (fun _ _=>hc) (fun _ _=>hl) (fun _ _=>hg) (fun _ _=>hp)
theorem jz{c m:String}{k:Nat}{fo:State→Res RV}{fs:List (State→Res RV)}{g:Fn}{b:B}{xo:B→Val}{Po:B→Pt}{So:B→List Ob}{a:A}{rs:A→List RV}{P:A→Pt}{S:A→List Ob}{vs:List Val}{Q:Pt}{mg:M T}{pg:T→RV×List Ob}{post:T→RV×Pt×List Ob}(ho:Ev R p σ (ev fo) (.ok b) (fun b=>(.val (xo b),Po b,So b)))(hi:uq (Po b) (So b) (xo b) c m)(h:Ev R (Po b) (So b) (aj fs) (.ok a) (fun v=>(rs v,P v,S v)))(hc:Cap (S a) (P a) (rs a) vs Q)(hl:vs.length+1=k)(hg:cx R g (xo b::vs) (S a) mg pg)(hp:∀ w,post w=((pg w).1,Q,(pg w).2)):Ev R p σ (d6 eU c m k fo (aj fs) g) mg post:=
 Gp (mo:=M.ok b) (xo:=fun _=>xo b) (Po:=fun _=>Po b) (So:=fun _=>So b) (mA:=fun _=>M.ok a) (vs:=fun _ _=>vs) (Q:=fun _ _=>Q) (mg:=fun _ _=>mg) (pg:=fun _ _=>pg) (rs:=fun _ _=>rs a) (P:=fun _ _=>P a) (S:=fun _ _=>S a) (Ev.b9 ho rfl) (fun _=>hi) (fun _=>Ev.b9 h rfl) (fun _ _=>hc) (fun _ _=>hl) (fun _ _=>hg) (fun _ _=>hp)
theorem m3{T':String}{fo:State→Res RV}{fs:List (State→Res RV)}{b:RV→List RV→State→Res RV}{ty:State→RV→Bool}{a:A}{ro:A→RV}{Po:A→Pt}{So:A→List Ob}{m:M B}{rs:B→List RV}{P:B→Pt}{S:B→List Ob}{mk:B→M T}{post:T→RV×Pt×List Ob}(ho:Ev R p σ (ev fo) (.ok a) (fun v=>(ro v,Po v,So v)))(ht:∀ sg,Fits (Po a) sg→ty ⟨sg,So a⟩ (ro a)=true)(h:Ev R (Po a) (So a) (aj fs) m (fun v=>(rs v,P v,S v)))(hb:∀ v,Ev R (P v) (S v) (b (ro a) (rs v)) (mk v) post):Ev R p σ (gK T' fo (aj fs) b ty) (m.bind fun v=>mk v) post:=fun sg hf=>by
 obtain⟨sg',e,hf'⟩:=ho sg hf
 have h2:=Ev.bind h hb sg' hf'
 rw[G6,e,Res.aa,ht sg' hf',if_pos rfl]
 exact h2
theorem l0{T':String}{fo:State→Res RV}{fs:List (State→Res RV)}{b:RV→List RV→State→Res RV}{ty:State→RV→Bool}{a:A}{ro:A→RV}{Po:A→Pt}{So:A→List Ob}{v:B}{rs:B→List RV}{P:B→Pt}{S:B→List Ob}{m:M T}{post:T→RV×Pt×List Ob}(ho:Ev R p σ (ev fo) (.ok a) (fun v=>(ro v,Po v,So v)))(ht:∀ sg,Fits (Po a) sg→ty ⟨sg,So a⟩ (ro a)=true)(h:Ev R (Po a) (So a) (aj fs) (.ok v) (fun v=>(rs v,P v,S v)))(hb:Ev R (P v) (S v) (b (ro a) (rs v)) m post):Ev R p σ (gK T' fo (aj fs) b ty) m post:=fun sg hf=>by
 obtain⟨sg',e,hf'⟩:=ho sg hf
 have h2:=Ev.gE h hb sg' hf'
 rw[G6,e,Res.aa,ht sg' hf',if_pos rfl]
 exact h2
theorem qJ{f:State→Res RV}{lo hi:Par}{x:T}{rx:T→RV}{Px:T→Pt}{Sx:T→List Ob}{a:A}{b:B}{lo':A→Option Int}{hi':B→Option Int}{m:M U}{post:U→RV×Pt×List Ob}(h:Ev R p σ (ev f) (.ok x) (fun v=>(rx v,Px v,Sx v)))(hl:Ev R (Px x) (Sx x) (lM lo) (.ok a) (fun v=>(lo' v,(Px x),(Sx x))))(hh:Ev R (Px x) (Sx x) (lM hi) (.ok b) (fun v=>(hi' v,(Px x),(Sx x))))(hk:Ev R (Px x) (Sx x) (vM (rx x) (lo' a) (hi' b)) m post):Ev R p σ (rJ f lo hi) m post:=Ev.gE h (Ev.gE hl (Ev.gE hh hk))
theorem jd{t:State→Res Bool}{As Bs rest:List (State→Res Fl)}{c:Bool}{mA mB:M T}{post:T→OutS}(ht:Ev R p σ t (.ok c) (pB p σ))(hA:Sg w R p σ (ah (As++rest)) mA post)(hB:Sg w R p σ (ah (Bs++rest)) mB post):Sg w R p σ (ah (b7 t (ah As) (ah Bs)::rest)) (if c=true then mA else mB) post:=
 DR (b:=fun v:Bool=>v) (P:=fun _=>p) (S:=fun _=>σ) (mA:=fun _=>mA) (mB:=fun _=>mB) ht (fun _=>hA) (fun _=>hB)
theorem GU{t:State→Res Bool}{As Bs rest:List (State→Res Fl)}{b:Bool}{mA mB:M C}{Pc:C→Pt}{Sc:C→List Ob}{k:C→M T}{post:T→OutS}(ht:Ev R p σ t (.ok b) (pB p σ))(hA:Sg false R p σ (ah As) mA (fun c=>.nx (Pc c) (Sc c)))(hB:Sg false R p σ (ah Bs) mB (fun c=>.nx (Pc c) (Sc c)))(hr:∀ c,Sg w R (Pc c) (Sc c) (ah rest) (k c) post):Sg w R p σ (ah (b7 t (ah As) (ah Bs)::rest)) ((if b=true then mA else mB).bind k) post:=
 xc (b:=fun v:Bool=>v) (P:=fun _=>p) (S:=fun _=>σ) (mA:=fun _=>mA) (mB:=fun _=>mB) ht (fun _=>hA) (fun _=>hB) hr
theorem Eu{s:State→Res Fl}{rest:List (State→Res Fl)}{a:A}{P:A→Pt}{S:A→List Ob}{m:M T}{post:T→OutS}(hs:Ev R p σ s (.ok a) (fun v=>(.nx,P v,S v)))(hr:Sg w R (P a) (S a) (ah rest) m post):Sg w R p σ (ah (s::rest)) m post:=fun sg hf=>by
 obtain⟨sg',e,f⟩:=hs sg hf
 have h2:=hr sg' f
 rw[fX e]
 exact h2
theorem oH{f:State→Res RV}{a:A}{x:A→Val}{P:A→Pt}{S:A→List Ob}{v:T}{post:T→OutS}(h:Ev R p σ f (.ok a) (fun v=>(.val (x v),P v,S v)))(hp:post v=.ret (.val (x a)) (S a)):Sg true R p σ (aP f) (.ok v) post:=
 iU (m:=M.ok a) (x:=fun _=>x a) (P:=fun _=>P a) (S:=fun _=>S a) (φ:=fun _=>v) (Ev.b9 h rfl) (fun _=>hp)
theorem KJ{f:State→Res RV}{a:A}{x:A→Ob}{P:A→Pt}{S:A→List Ob}{v:T}{post:T→OutS}(h:Ev R p σ f (.ok a) (fun v=>(.new (x v),P v,S v)))(hp:post v=.ret (.new (x a)) (S a)):Sg true R p σ (aP f) (.ok v) post:=
 Il (m:=M.ok a) (x:=fun _=>x a) (P:=fun _=>P a) (S:=fun _=>S a) (φ:=fun _=>v) (Ev.b9 h rfl) (fun _=>hp)
theorem yH{t:Tg}{src:State→Res (List Val)}{b:State→Res Fl}{l:List T}{E:T→Val}{q:Pt}{S0:List Ob}{c0:C}{P:C→Pt}{S:C→List Ob}{p2:C→T→Pt}{mb:C→T→M C}(hs:Ev R p σ src (.ok l) (fun l=>(l.map E,q,S0)))(hw:cM (P c0) q)(hS:S0=S c0)(ht:∀ c x,oR (P c) t (E x) (p2 c x))(hb:∀ c x,Sg false R (p2 c x) (S c) b (mb c x) (fun c'=>.go (P c') (S c'))):Ev R p σ (de t src b) (foldM mb c0 l) (fun c'=>(.nx,P c',S c')):=
 mW (ml:=M.ok l) (lA:=fun l=>l) (q:=fun _=>q) (S0:=fun _=>S0) (c0:=fun _=>c0) hs (fun _=>hw) (fun _=>hS) ht hb
theorem xj{vs:List Nat}{t:Tg}{src:State→Res (List Val)}{ft:State→Res Bool}{fe:State→Res RV}{l:List T}{E:T→Val}{q:Pt}{τ:List Ob}{e:U→D}{mt:T→M Bool}{me:T→M U}{p2 p3:T→Pt}(hs:Ev R p σ src (.ok l) (fun l=>(l.map E,q,τ)))(hv:(vs.all fun v=>(q.getD v none).isNone)=true)
  (hb:∀ x,oR q t (E x) (p2 x)∧Ev R (p2 x) τ ft (mt x) (fun b=>(b,p2 x,τ))∧Ev R (p2 x) τ (fun s=>(fe s).bind bG) (me x) (fun y=>(.d (e y),p3 x,τ))) (hw2:∀ x,cM q (p2 x)) (hw3:∀ x,cM q (p3 x)):
  Ev R p σ (jr vs t src ft fe) (dH mt me l) (fun r=>(.new (oL e r),q,τ)):=AY hs hv hb hw2 hw3
theorem jm{f:State→Res RV}{a:Bool}(h:Ev R p σ (ev f) (.ok a) (pD .bl p σ)):Ev R p σ (aT f) (.ok a) (pB p σ):=tB (b:=fun v=>v) h
theorem xC{f:State→Res Bool}{a:Bool}(h:Ev R p σ f (.ok a) (pB p σ)):Ev R p σ (fj f) (.ok (!a)) (pB p σ):=(DS (b:=fun v=>v) h).b9 rfl
theorem Ir{f:State→Res Bool}{m:M Bool}(h:Ev R p σ f m (pB p σ)):Ev R p σ (fj f) (m.bind fun v=>.ok (!v)) (pB p σ):=Ev.map (fun v=> !v) (pB p σ) (DS (b:=fun v=>v) h) (fun _=>rfl)
end
theorem EqE.mono{T:Type}[DecidableEq T]{e:T→D}{n m:Nat}(E:EqE e n)(h:n≤m):EqE e m:=by
 have up:∀ (n m:Nat),n≤m→(∀ d,dq n d=true→dq m d=true)∧(∀ l,dg n l=true→dg m l=true):=by
  intro n
  induction n with
  | zero=>
   intro m _
   have hd:∀ d,dq 0 d=true→dq m d=true:=fun d h=>by
    cases d<;> first | (simp[dq]at h;done) | (cases m<;> simp[dq])
   refine⟨hd,fun l=>?_⟩
   induction l with
   | nil=>intro _;simp[dg]
   | cons x l ih=>intro h;simp[dg]at h ⊢;exact⟨hd x h.1,ih h.2⟩
  | succ n ih=>
   intro m hm
   obtain⟨k,rfl⟩:∃ k,m=k+1:=⟨m- 1,by omega⟩
   have ihk:=ih k (by omega)
   have hd:∀ d,dq (n+1) d=true→dq (k+1) d=true:=fun d h=>by
    cases d<;> first | (simp[dq]at h ⊢;exact ihk.2 _ h) | simp[dq]
   refine⟨hd,fun l=>?_⟩
   induction l with
   | nil=>intro _;simp[dg]
   | cons x l ih=>intro h;simp[dg]at h ⊢;exact⟨hd x h.1,ih h.2⟩
 exact⟨E.pl,fun x=>(up n m h).1 _ (E.dp x),E.eq⟩
theorem qI:EqE D.int 0:=⟨fun _=>rfl,fun _=>rfl,zY⟩
theorem qS:EqE D.str 0:=⟨fun _=>rfl,fun _=>rfl,zZ⟩
theorem tR{T:Type}[DecidableEq T]{e:T→D}{n:Nat}(E:EqE e n):∀ a b:List T,PyData.eqvAll (cU (a.map e)) (cU (b.map e))=decide (a=b)
 | [],[]=>by simp[cU,PyData.eqvAll]
 | [],_::_=>by simp[cU,PyData.eqvAll]
 | _::_,[]=>by simp[cU,PyData.eqvAll]
 | x::a,y::b=>by
  have h:PyData.eqv (pd (e x)) (pd (e y))=decide (x=y):=E.eq x y
  simp[cU,PyData.eqvAll,tR E a b,h]
theorem qL{T:Type}[DecidableEq T]{e:T→D}{n:Nat}(E:EqE e n):EqE (eL e) (n+1) where
 pl l:=by show fx (l.map e)=true;exact jG e l fun x _=>E.pl x
 dp l:=by show dg n (l.map e)=true;exact mj n e l fun x _=>E.dp x
 eq a b:=by
  show PyData.eqv (.list (cU (a.map e))) (.list (cU (b.map e)))=_
  rw[←tR E]
  simp[PyData.eqv]
theorem Mp{A B:Type}[DecidableEq A][DecidableEq B]{a:A→D}{b:B→D}{n m:Nat}(EA:EqE a n)(EB:EqE b m):EqE (bo a b) (max n m+1) where
 pl x:=by simp[bo,dF,fx,EA.pl,EB.pl]
 dp x:=by
  have h1:=(EA.mono (Nat.le_max_left n m)).dp x.1
  have h2:=(EB.mono (Nat.le_max_right n m)).dp x.2
  simp[bo,dq,dg,h1,h2]
 eq x y:=by
  have h1:PyData.eqv (pd (a x.1)) (pd (a y.1))=decide (x.1=y.1):=EA.eq x.1 y.1
  have h2:PyData.eqv (pd (b x.2)) (pd (b y.2))=decide (x.2=y.2):=EB.eq x.2 y.2
  show PyData.eqv (.tuple (cU [a x.1,b x.2])) (.tuple (cU [a y.1,b y.2]))=_
  simp[PyData.eqv,cU,PyData.eqvAll,h1,h2]
  rw[Bool.eq_iff_iff]
  simp[Prod.ext_iff]
end Vw
namespace Vw
open PySem L2
abbrev pN{T:Type}(o:T→Ob)(p:Pt)(σ:List Ob):T→RV×Pt×List Ob:=fun v=>(.new (o v),p,σ)
abbrev pE{T C:Type}(e:T→D)(p:Pt)(S:C→List Ob):T×C→RV×Pt×List Ob:=fun v=>(.val (.d (e v.1)),p,S v.2)
abbrev Er{T C:Type}(o:T→Ob)(p:Pt)(S:C→List Ob):T×C→RV×Pt×List Ob:=fun v=>(.new (o v.1),p,S v.2)
abbrev Kr{T C:Type}(E:T→Val)(p:Pt)(S:C→List Ob):List T×C→List Val×Pt×List Ob:=fun v=>(v.1.map E,p,S v.2)
abbrev MC{T C:Type}(i:Nat)(o:T→Ob)(p:Pt)(S:C→List Ob):T×C→RV×Pt×List Ob:=fun v=>(.val (.d .non),p.set i (some (.own (o v.1))),S v.2)
section
variable{R R':List Ob→Prop}{p p':Pt}{σ σ':List Ob}{α β γ T U W A B C:Type}{i j n:Nat}{w:Bool}
def setM(l:List T)(k:Int)(x:T):M (List T):=match ixN l.length k with | some j=>.ok (l.set j x) | none=>.bad
theorem GK{e:T→D}{l:List T}{fv fi:State→Res RV}{mv:M T}{mi:M Int}(h:p[i]? =some (some (.own (oL e l))))(hv:Ev R p σ (ev fv) mv (pD e p σ))(hi:∀ v:T,Ev R p σ (ev fi) mi (pD .int p σ)):Ev R p σ (uz (ae i) fi fv) (mv.bind fun a=>mi.bind fun k=>setM l k a) (fun v:List T=>(Fl.nx,p.set i (some (.own (oL e v))),σ)):=Ev.bind hv fun a=>Ev.gE (hU (ie (a:=l) h)) (Ev.bind (hi a) fun k sg hf=>by
 unfold setM
 have h:=hf.2 _ _ h
 cases hk:ixN l.length k with
 | none=>trivial
 | some q=>
  refine⟨_,?_,hf.set i _⟩
  dsimp only[n6]
  rw[n6]
  dsimp only
  rw[GA,h]
  simp[hk,oL])
def Kw(p:Pt)(σ:List Ob)(r:RV)(e:T→D)(l:List (List Nat×T)):Prop:=∀ sg,Fits p sg→kN ⟨sg,σ⟩ r=some (l.map fun p=>(K0.s p.1,Val.d (e p.2)))
theorem IF{s:State}{k:Bool}{l:List (K0×Val)}(h:s.sg[i]? =some (some (.own (.dic k l)))):kN s (.own i)=some l:=by
 obtain⟨sg,st⟩:=s
 unfold kN
 simp only[A6,xl]
 rw[h]
theorem Jg{e:T→D}{l:List (List Nat×T)}(h:p[i]? =some (some (.own (mS e l)))):Kw p σ (.own i) e l:=fun sg hf=>IF (hf.2 _ _ h)
theorem Cn{κ κ' α β:Type}[DecidableEq κ][DecidableEq κ'](F:κ→κ')(hF:∀ a b,F a=F b→a=b)(G:α→β)(l:List (κ×α))(k:κ)(x:α):iE (l.map fun p=>(F p.1,G p.2)) (F k) (G x)=(iE l k x).map fun p=>(F p.1,G p.2):=by
 have hF':∀ a,(F a=F k)=(a=k):=fun a=>propext ⟨hF a k,fun z=>by rw[z]⟩
 unfold iE
 rw[List.any_map]
 have:((fun p:κ'×β=>decide (p.1=F k))∘fun p:κ×α=>(F p.1,G p.2))=fun p=>decide (p.1=k):=funext fun p=>by simp[hF']
 rw[this]
 split
 ·rw[List.map_map,List.map_map]
  refine List.map_congr_left fun p _=>?_
  simp only[Function.comp,hF']
  split<;> rfl
 ·simp
theorem H9:∀ a b:List Nat,K0.s a=K0.s b→a=b:=fun _ _ h=>by cases h;rfl
def x6{κ:Type}[DecidableEq κ](l:List (κ×T))(k:κ)(x:T):M (List (κ×T)):=(gd (decide (l.length<sizeLine))).bind fun _=>.ok (iE l k x)
theorem Gj{e:T→D}{l:List (List Nat×T)}{fv fi:State→Res RV}{mv:M T}{mi:M (List Nat)}(h:p[i]? =some (some (.own (mS e l))))(hv:Ev R p σ (ev fv) mv (pD e p σ))(hi:∀ v:T,Ev R p σ (ev fi) mi (pD .str p σ)):Ev R p σ (uz (ae i) fi fv) (mv.bind fun a=>mi.bind fun k=>x6 l k a) (fun v:List (List Nat×T)=>(Fl.nx,p.set i (some (.own (mS e v))),σ)):=Ev.bind hv fun a=>Ev.gE (hU (ie (a:=l) h)) (Ev.bind (hi a) fun k sg hf=>by
 unfold x6
 have h:=hf.2 _ _ h
 by_cases hl:l.length<sizeLine
 ·rw[decide_eq_true hl,rR,M.aa]
  refine⟨_,?_,hf.set i _⟩
  dsimp only[n6]
  rw[n6]
  dsimp only
  have e0:qj (.own i) (.val (.d (.str k))) (.d (e a)) ⟨sg,σ⟩=some ⟨sg.set i (some (.own (mS e (iE l k a)))),σ⟩:=by
   unfold qj
   rw[xl,h]
   simp only[uY,mS]
   show(if(l.map fun p=>(K0.s p.1,Val.d (e p.2))).length<sizeLine then _ else _)=_
   rw[if_pos (by simpa using hl),Cn K0.s H9 (fun x=>Val.d (e x)) l k a,Jj,yb,h]
  rw[e0];rfl
 ·rw[decide_eq_false hl];trivial)
end
end Vw
namespace Vw
open PySem L2
section
variable{R R':List Ob→Prop}{p p':Pt}{σ σ':List Ob}{α β γ T U W A B C:Type}{i j n:Nat}{w:Bool}
theorem gV{Tf:List (String×String)}{f c:String}{fs:List (String×Val)}{a:T}{e:T→Val}(h:p[i]? =some (some (.v (.r n))))(hσ:σ[n]? =some (.ins c fs))(hT:Tf.contains (c,f)=true)(hk:pk fs f=some (e a)):Ev R p σ (jf Tf f (ae i)) (.ok a) (fun v=>(.val (e v),p,σ)):=Ev.at (r:=fun v=>RV.val (e v)) fun sg hf=>by
 have h:=hf.2 _ _ h
 show(ev (ae i) ⟨sg,σ⟩).bind _=_
 rw[nt,iw,h]
 dsimp only
 rw[Res.aa,F9,Res.aa]
 simp only[Iw,A1,hσ]
 rw[if_pos hT,hk]
theorem xP{Tf:List (String×String)}{f c:String}{op:Bop}{g:Int→Int→Int}{fv:State→Res RV}{fs:List (String×Val)}{a:Int}{mv:M Int}{φ:Int→U}{S:U→List Ob}(hg:Az op=some g)(h:p[i]? =some (some (.v (.r n))))(hσ:σ[n]? =some (.ins c fs))(hT:(Tf.contains (c,f)&&decide (fs.length<1000))=true)(hk:pk fs f=some (.d (.int a)))(hv:Ev R p σ (ev fv) mv (pD .int p σ))(hs:∀ b,σ.set n (.ins c (sU f (.d (.int (g a b))) fs))=S (φ b)):Ev R p σ (jR Tf f op (ae i) fv) (mv.bind fun b=>.ok (φ b)) (fun v:U=>(Fl.nx,p,S v)):=fun sg hf=>by
 have h:=hf.2 _ _ h
 have hl:fs.length<1000:=by simpa using (Bool.and_eq_true_iff.mp hT).2
 have e0:jR Tf f op (ae i) fv ⟨sg,σ⟩=(ev fv ⟨sg,σ⟩).bind fun y s=>match dv s y,ob s (.val (.r n))with
    | some (.int b),some (.ins c' fs')=>if c'=c∧fs'.length<1000 then .ok .nx (wr (.val (.r n)) (.ins c (sU f (.d (.int (g a b))) fs')) s)else .stuck
    | _,_=>.stuck:=by
  unfold jR
  rw[hg]
  dsimp only
  rw[nt,iw,h]
  dsimp only
  rw[Res.aa,F9,Res.aa]
  simp only[A1,hσ]
  rw[if_pos hT,hk]
  try rfl
 rw[e0]
 have:=hv sg hf
 cases mv with
 | ok b=>
  obtain⟨sg',e,f'⟩:=this
  refine⟨sg',?_,f'⟩
  rw[e,Res.aa]
  simp only[uY,A1,hσ]
  rw[if_pos ⟨trivial,hl⟩,JV,hs]
 | exc x=>obtain⟨s',e,r⟩:=this;exact⟨s',by rw[e];rfl,r⟩
 | bad=>trivial
theorem Fu{c m:String}{k:Nat}{fo:State→Res RV}{fs:List (State→Res RV)}{g:Fn}{b:B}{xo:B→Val}{Po:B→Pt}{So:B→List Ob}{mA:M A}{rs:A→List RV}{P:A→Pt}{S:A→List Ob}{vs:A→List Val}{Q:A→Pt}{mg:A→M T}{pg:A→T→RV×List Ob}{post:T→RV×Pt×List Ob}(ho:Ev R p σ (ev fo) (.ok b) (fun b=>(.val (xo b),Po b,So b)))(hi:uq (Po b) (So b) (xo b) c m)(h:Ev R (Po b) (So b) (aj fs) mA (fun v=>(rs v,P v,S v)))(hc:∀ v,Cap (S v) (P v) (rs v) (vs v) (Q v))(hl:∀ v,(vs v).length+1=k)(hg:∀ v,cx R' g (xo b::vs v) (S v) (mg v) (pg v))(hp:∀ v w,post w=((pg v w).1,Q v,(pg v w).2)):Ev R p σ (d6 cW c m k fo (aj fs) g) (mA.bind fun v=>nox (mg v)) post:=
 Ci (R':=R') (mo:=M.ok b) (xo:=fun _=>xo b) (Po:=fun _=>Po b) (So:=fun _=>So b) (mA:=fun _=>mA) (vs:=fun _=>vs) (Q:=fun _=>Q) (mg:=fun _=>mg) (pg:=fun _=>pg) (rs:=fun _=>rs) (P:=fun _=>P) (S:=fun _=>S) (Ev.b9 ho rfl) (fun _=>hi) (fun _=>h) (fun _=>hc) (fun _=>hl) (fun _=>hg) (fun _=>hp)
end
section
variable{R R':List Ob→Prop}{p p':Pt}{σ σ':List Ob}{α β γ T U W A B C Q:Type}{i j n:Nat}{w:Bool}
theorem Km{fa fb fc:State→Res RV}{g g':RV→RV→State→Res RV}{ma mb mc:M Int}{k1 k2:Int→Int→Bool}(ha:Ev R p σ (ev fa) ma (pD .int p σ))(hb:∀ _:Int,Ev R p σ (ev fb) mb (pD .int p σ))(hc:∀ _ _:Int,Ev R p σ (ev fc) mc (pD .int p σ))(h1:∀ a b,Ev R p σ (g (.val (.d (.int a))) (.val (.d (.int b)))) (.ok (k1 a b)) (pD .bl p σ))(h2:∀ b c,Ev R p σ (g' (.val (.d (.int b))) (.val (.d (.int c)))) (.ok (k2 b c)) (pD .bl p σ)):Ev R p σ (zq fa fb fc g g') (ma.bind fun a=>mb.bind fun b=>if k1 a b=true then mc.bind fun c=>.ok (k2 b c)else .ok false) (pD .bl p σ):=Ev.bind ha fun a=>Ev.bind (hb a) fun b=>Ev.gE (h1 a b) (by
 intro sg hf
 show Rn R ((vO (.val (.d (.bl (k1 a b)))) ⟨sg,σ⟩).bind fun k s=>if k=true then(ev fc s).bind fun w s=>g' (.val (.d (.int b))) w s else aH (.bl false) s) _ _
 rw[Jd]
 simp only[uY,Res.aa]
 by_cases hk:k1 a b=true
 ·rw[if_pos hk,if_pos hk]
  exact Ev.bind (hc a b) (fun c=>h2 b c) sg hf
 ·rw[if_neg hk,if_neg hk]
  exact⟨sg,rfl,hf⟩)
end
end Vw
namespace Vw
open PySem L2
section
variable{R:List Ob→Prop}{p:Pt}{σ:List Ob}{T A:Type}{w:Bool}
theorem aO{s:State→Res Fl}{rest:List (State→Res Fl)}{m:M A}(Q:A→Pt){P:A→Pt}{S:A→List Ob}{k:A→M T}{post:T→OutS}(hs:Ev R p σ s m (fun v=>(.nx,P v,S v)))(he:∀ v,P v=Q v)(hr:∀ v,Sg w R (Q v) (S v) (ah rest) (k v) post):Sg w R p σ (ah (s::rest)) (m.bind k) post:=
 iB hs fun v=>by rw[he v];exact hr v
theorem jY{s:State→Res Fl}{rest:List (State→Res Fl)}{a:A}(Q:Pt){P:A→Pt}{S:A→List Ob}{m:M T}{post:T→OutS}(hs:Ev R p σ s (.ok a) (fun v=>(.nx,P v,S v)))(he:P a=Q)(hr:Sg w R Q (S a) (ah rest) m post):Sg w R p σ (ah (s::rest)) m post:=
 Eu hs (by rw[he];exact hr)
end
end Vw
namespace Vw
open PySem L2
def D8(r:RV):Prop:=match r with
 | .val (.d _)=>True
 | .new o=>o.toD.isSome=true
 | _=>False
def mP{T:Type}(g:Fn)(ds:List D)(m:M T)(rv:T→RV):Prop:=
 match m with
 | .ok v=>(∃ s,g (ds.map .d) []=.ok (rv v) s)∧D8 (rv v)
 | .exc x=>∃ s,g (ds.map .d) []=.exc x s
 | .bad=>True
section
variable{R R':List Ob→Prop}{p p':Pt}{σ σ':List Ob}{α β γ T U W A B C Q:Type}{i j n:Nat}{w:Bool}
theorem cx.toE{g:Fn}{ds:List D}{m:M T}{post:T→RV×List Ob}{rv:T→RV}(h:cx R g (ds.map .d) [] m post)(e:∀ v,(post v).1=rv v)(hr:∀ v,D8 (rv v)):mP g ds m rv:=by
 cases m with
 | ok v=>exact⟨⟨_,by rw[←e];exact h⟩,hr v⟩
 | exc x=>obtain⟨s,e,_⟩:=h;exact⟨s,e⟩
 | bad=>trivial
theorem wc(ds:List D):kW (ds.map .d)=some ds:=by
 induction ds with
 | nil=>rfl
 | cons d r ih=>rw[List.map_cons,kW,ih];rfl
theorem F3{k:Nat}{fs:List (State→Res RV)}{g:Fn}{mA:M A}{rs:A→List RV}{P:A→Pt}{S:A→List Ob}{ds:A→List D}{Q:A→Pt}{mg:A→M T}{rv:A→T→RV}{post:T→RV×Pt×List Ob}(h:Ev R p σ (aj fs) mA (fun v=>(rs v,P v,S v)))(hc:∀ v,Cap (S v) (P v) (rs v) ((ds v).map .d) (Q v))(hl:∀ v,(ds v).length=k)(hg:∀ v,mP g (ds v) (mg v) (rv v))(hp:∀ v w,post w=(rv v w,Q v,S v))(hR:∀ v,R (S v)):Ev R p σ (uh k (aj fs) g) (mA.bind fun v=>mg v) post:=by
 refine Ev.bind h fun v sg hf=>?_
 obtain⟨sg2,e2,hf2⟩:=(hc v).run sg hf
 have hg:=hg v
 show Rn R ((aD (rs v) ⟨sg,S v⟩).bind fun args s=>match kW args with
  | some ds=>if ds.length=k then vq (g (ds.map .d) []) s else .stuck
  | none=>.stuck) (mg v) post
 rw[e2,Res.aa,wc]
 dsimp only
 rw[if_pos (hl v)]
 cases hm:mg v with
 | ok w=>
  rw[hm]at hg
  obtain⟨⟨s1,e1⟩,hr⟩:=hg
  refine⟨sg2,?_,by rw[hp v w];exact hf2⟩
  rw[hp v w,e1]
  show vq (.ok (rv v w) s1) _=_
  unfold vq
  revert hr
  cases rv v w with
  | val x=>cases x<;> intro hr<;> first | rfl | exact hr.elim
  | own i=>intro hr;exact hr.elim
  | new o=>
   intro hr
   have hr:o.toD.isSome=true:=hr
   dsimp only
   rw[if_pos hr]
 | exc x=>
  rw[hm]at hg
  obtain⟨s,e⟩:=hg
  rw[e]
  exact⟨_,rfl,hR v⟩
 | bad=>trivial
theorem yP{k:Nat}{fs:List (State→Res RV)}{g:Fn}{a:A}{rs:A→List RV}{P:A→Pt}{S:A→List Ob}{ds:List D}{Q:Pt}{mg:M T}{rv:T→RV}{post:T→RV×Pt×List Ob}(h:Ev R p σ (aj fs) (.ok a) (fun v=>(rs v,P v,S v)))(hc:Cap (S a) (P a) (rs a) (ds.map .d) Q)(hl:ds.length=k)(hg:mP g ds mg rv)(hp:∀ w,post w=(rv w,Q,S a))(hR:R (S a)):Ev R p σ (uh k (aj fs) g) mg post:=
 F3 (mA:=M.ok a) (ds:=fun _=>ds) (Q:=fun _=>Q) (mg:=fun _=>mg) (rv:=fun _=>rv) (rs:=fun _=>rs a) (P:=fun _=>P a) (S:=fun _=>S a) (Ev.b9 h rfl) (fun _=>hc) (fun _=>hl) (fun _=>hg) (fun _=>hp) (fun _=>hR)
theorem Gn{k:Nat}{fs:List (State→Res RV)}{g:Fn}{mA:M A}{rs:A→List RV}{P:A→Pt}{S:A→List Ob}{ds:A→List D}{Q:A→Pt}{mg:A→M T}{rv:A→T→RV}{post:T→RV×Pt×List Ob}(h:Ev R p σ (aj fs) mA (fun v=>(rs v,P v,S v)))(hc:∀ v,Cap (S v) (P v) (rs v) ((ds v).map .d) (Q v))(hl:∀ v,(ds v).length=k)(hg:∀ v,mP g (ds v) (mg v) (rv v))(hp:∀ v w,post w=(rv v w,Q v,S v)):Ev R p σ (sm k (aj fs) g) (mA.bind fun v=>nox (mg v)) post:=by
 refine Ev.bind h fun v sg hf=>?_
 obtain⟨sg2,e2,hf2⟩:=(hc v).run sg hf
 have hg:=hg v
 show Rn R ((aD (rs v) ⟨sg,S v⟩).bind fun args s=>match kW args with
  | some ds=>if ds.length=k then uJ (g (ds.map .d) []) s else .stuck
  | none=>.stuck) (nox (mg v)) post
 rw[e2,Res.aa,wc]
 dsimp only
 rw[if_pos (hl v)]
 cases hm:mg v with
 | ok w=>
  rw[hm]at hg
  obtain⟨⟨s1,e1⟩,hr⟩:=hg
  refine⟨sg2,?_,by rw[hp v w];exact hf2⟩
  rw[hp v w,e1]
  show uJ (.ok (rv v w) s1) _=_
  unfold uJ
  revert hr
  cases rv v w with
  | val x=>cases x<;> intro hr<;> first | rfl | exact hr.elim
  | own i=>intro hr;exact hr.elim
  | new o=>
   intro hr
   have hr:o.toD.isSome=true:=hr
   dsimp only
   rw[if_pos hr]
 | exc x=>trivial
 | bad=>trivial
theorem Fo{k:Nat}{fs:List (State→Res RV)}{g:Fn}{a:A}{rs:A→List RV}{P:A→Pt}{S:A→List Ob}{ds:List D}{Q:Pt}{mg:M T}{rv:T→RV}{post:T→RV×Pt×List Ob}(h:Ev R p σ (aj fs) (.ok a) (fun v=>(rs v,P v,S v)))(hc:Cap (S a) (P a) (rs a) (ds.map .d) Q)(hl:ds.length=k)(hg:mP g ds mg rv)(hp:∀ w,post w=(rv w,Q,S a)):Ev R p σ (sm k (aj fs) g) (nox mg) post:=
 Gn (mA:=M.ok a) (ds:=fun _=>ds) (Q:=fun _=>Q) (mg:=fun _=>mg) (rv:=fun _=>rv) (rs:=fun _=>rs a) (P:=fun _=>P a) (S:=fun _=>S a) (Ev.b9 h rfl) (fun _=>hc) (fun _=>hl) (fun _=>hg) (fun _=>hp)
theorem K3{f:State→Res RV}{m:M T}{o:T→Ob}{P:T→Pt}{S:T→List Ob}(h:Ev R p σ f m (fun v=>(.new (o v),P v,S v)))(hg:∀ v,o v≠ .gone):Ev R p σ (BK f) m (fun v=>(.val (.r (S v).length),P v,S v++[o v])):=fun sg hf=>by
 have:=h sg hf
 cases m with
 | ok v=>
  obtain⟨sg',e,hf'⟩:=this
  refine⟨sg',?_,hf'⟩
  rw[Gr,e,Res.aa]
  unfold En
  have:=hg v
  revert this
  dsimp only
  cases o v<;> intro h<;> first | rfl | exact absurd rfl h
 | exc x=>obtain⟨s,e,r⟩:=this;exact⟨s,by rw[Gr,e];rfl,r⟩
 | bad=>trivial
theorem Jh{e:T→D}(l:List T):oL e l≠ .gone:=fun h=>by cases h
theorem JQ{c:String}{k:Nat}{fs:List (State→Res RV)}{g:Fn}{m:M A}{rs:A→List RV}{P:A→Pt}{S:A→List Ob}{vs:A→List Val}{Q:A→Pt}{o:A→Ob}(h:Ev R p σ (aj fs) m (fun v=>(rs v,P v,S v)))(hc:∀ v,Cap (S v) (P v) (rs v) (vs v) (Q v))(hl:∀ v,(vs v).length+1=k)(hg:∀ v,g (.r (S v).length::vs v) (S v++[.ins c []])=.ok (.val (.d .non)) ⟨[],S v++[o v]⟩):Ev R p σ (Ek cW c k (aj fs) g) m (fun v=>(.val (.r (S v).length),Q v,S v++[o v])):=fun sg hf=>by
 have:=h sg hf
 cases m with
 | ok v=>
  obtain⟨sg1,e1,f1⟩:=this
  obtain⟨sg2,e2,f2⟩:=(hc v).run sg1 f1
  refine⟨sg2,?_,f2⟩
  show(aj fs ⟨sg,σ⟩).bind (fun rs s=>(aD rs s).bind fun args s=>if args.length+1=k then GI s.st.length (cW g (.r s.st.length::args) ⟨s.sg,s.st++[.ins c []]⟩)else .stuck)=_
  rw[e1,Res.aa]
  dsimp only
  rw[e2,Res.aa,if_pos (hl v)]
  dsimp only
  unfold cW
  dsimp only
  rw[hg v]
  rfl
 | exc x=>obtain⟨s,e,r⟩:=this;exact⟨s,by show(aj fs ⟨sg,σ⟩).bind _=_;rw[e];rfl,r⟩
 | bad=>trivial
theorem Gh{s:State→Res Fl}{rest:List (State→Res Fl)}{a:A}(Q:Pt)(S':List Ob){P:A→Pt}{S:A→List Ob}{m:M T}{post:T→OutS}(hs:Ev R p σ s (.ok a) (fun v=>(.nx,P v,S v)))(he:P a=Q)(hS:S a=S')(hr:Sg w R Q S' (ah rest) m post):Sg w R p σ (ah (s::rest)) m post:=
 Eu hs (by rw[he,hS];exact hr)
def mw(f:D→M A)(g:D→M B)(d:D):M (A×B):=match d with
 | .tup [x,y]=>(f x).bind fun a=>(g y).bind fun b=>.ok (a,b)
 | _=>.bad
theorem sX{f:D→M A}{g:D→M B}{d:D}:(∃ x y,d=.tup [x,y]∧mw f g d=(f x).bind fun a=>(g y).bind fun b=>.ok (a,b))∨mw f g d=.bad:=by
 unfold mw
 split
 ·exact .inl ⟨_,_,rfl,rfl⟩
 ·exact .inr rfl
theorem BH{f:D→M A}{g:D→M B}{e:A→D}{e2:B→D}(h:Dec f e)(h2:Dec g e2):Dec (mw f g) (bo e e2):=fun d a q=>by
 rcases sX (f:=f) (g:=g) (d:=d)with⟨x,y,rfl,e1⟩ | e1
 ·rw[e1]at q
  cases hx:f x with
  | ok u=>
   cases hy:g y with
   | ok v=>rw[hx,hy]at q;cases q;rw[h x u hx,h2 y v hy]
   | exc z=>rw[hx,hy]at q;cases q
   | bad=>rw[hx,hy]at q;cases q
  | exc z=>rw[hx]at q;cases q
  | bad=>rw[hx]at q;cases q
 ·rw[e1]at q;cases q
theorem EH{f:D→M A}{g:D→M B}(h:tU f)(h2:tU g):tU (mw f g):=fun d z q=>by
 rcases sX (f:=f) (g:=g) (d:=d)with⟨x,y,rfl,e1⟩ | e1
 ·rw[e1]at q
  cases hx:f x with
  | ok u=>
   cases hy:g y with
   | ok v=>rw[hx,hy]at q;cases q
   | exc z=>exact h2 y _ hy
   | bad=>rw[hx,hy]at q;cases q
  | exc z=>exact h x _ hx
  | bad=>rw[hx]at q;cases q
 ·rw[e1]at q;cases q
theorem cx.toI{g:Fn}{ds:List D}{m:M (T×List Ob)}{rv:T→RV}(h:cx R g (ds.map .d) [] m (fun v=>(rv v.1,v.2)))(hr:∀ v,D8 (rv v)):mP g ds (m.bind fun v=>.ok v.1) rv:=by
 cases m with
 | ok v=>exact⟨⟨_,h⟩,hr v.1⟩
 | exc x=>obtain⟨s,e,_⟩:=h;exact⟨s,e⟩
 | bad=>trivial
theorem AZ{f:State→Res RV}{a:A}{r:A→RV}{T' t:String}(h:Ev R p σ (ev f) (.ok a) (fun v=>(r v,p,σ)))(ht:∀ sg,Fits p sg→vV ⟨sg,σ⟩ (r a)=some t):Ev R p σ (bE T' f) (.ok (kl t T')) (pD .bl p σ):=fun sg hf=>by
 obtain⟨sg',e,hf'⟩:=h sg hf
 refine⟨sg',?_,hf'⟩
 rw[xf,e,Res.aa]
 dsimp only
 rw[ht sg' hf']
 rfl
end
end Vw
namespace Vw
open PySem L2
section
variable{R R':List Ob→Prop}{p p':Pt}{σ σ':List Ob}{α β γ T U W A B C Q:Type}{i j n:Nat}{w:Bool}
theorem HJ{e:T→D}:Ev R p σ Ba (.ok ([]:List (List Nat×T))) (fun v=>(.new (mS e v),p,σ)):=fun sg hf=>⟨sg,rfl,hf⟩
def C8(l:List (List Nat)):M (List (List Nat)):=(gd (decide (l.length<64))).bind fun _=>.ok (jS l)
theorem Bk{e:T→D}:∀ l:List (List Nat×T),uX (l.map fun p=>(K0.s p.1,Val.d (e p.2)))=some (l.map (·.1))
 | []=>rfl
 | p::l=>by
  rw[List.map_cons,uX,Bk l];rfl
theorem FV{e:T→D}{l:List (List Nat×T)}{r:RV}(h:Kw p σ r e l):Ev R p σ (qG [r]) (C8 (l.map (·.1))) (Gi .str p σ):=Ev.gd (r:=fun v=>RV.new (oL D.str v)) fun hl sg hf=>by
 show(match (kN _ r).bind uX with | some ns=>if ns.length<64 then Res.ok (RV.new (.lst ((jS ns).map fun n=>.d (.str n)))) _ else Res.stuck | none=>Res.stuck)=_
 rw[h sg hf,Option.bind_some,Bk]
 dsimp only
 rw[if_pos (of_decide_eq_true hl)]
end
end Vw
namespace Vw
open PySem L2
end Vw
namespace Vw
open PySem L2
section
variable{R R':List Ob→Prop}{p p':Pt}{σ σ':List Ob}{α β γ T U W A B C Q:Type}{i j n:Nat}{w:Bool}
theorem JJ{f:State→Res RV}{m:M (List T×C)}{e:T→D}{P:Pt}{S:C→List Ob}(h:Ev R p σ (ev f) m (fun v=>(.val (.d (eL e v.1)),P,S v.2))):Ev R p σ (sD f itemsOf) m (fun v=>(v.1.map fun x=>.d (e x),P,S v.2)):=fun sg hf=>by
 have:=h sg hf
 cases m with
 | ok v=>obtain⟨sg',e1,hf'⟩:=this;exact⟨sg',by rw[mz,e1,Res.aa];simp[Function.comp_def],hf'⟩
 | exc x=>obtain⟨s,e,r⟩:=this;exact⟨s,by rw[mz,e];rfl,r⟩
 | bad=>trivial
end
end Vw
namespace Vw
open PySem L2
end Vw
namespace Vw
open PySem L2
end Vw
namespace Vw
open PySem L2
end Vw
namespace Vw
open PySem L2
end Vw
namespace Vw
open PySem L2
end Vw
namespace Vw
open PySem L2
theorem zL:sizeLine=16777216:=rfl
section
variable{T U C A B Q:Type}
theorem bP{b:Bool}(h:b=true):gd b=.ok ():=by rw[h];rfl
theorem sM{a b:List T}(h:a.length+b.length≤16777216):ot a b=.ok (a++b):=by
 unfold ot;rw[zL,bP (decide_eq_true h)];rfl
theorem dc{a b:List Nat}(h:a.length+b.length≤16777216):bw a b=.ok (a++b):=by
 unfold bw;rw[zL,bP (decide_eq_true h)];rfl
theorem eB{a:List T}{x:T}(h:a.length<16777216):eX a x=.ok (a++[x]):=by
 unfold eX;rw[zL,bP (decide_eq_true h)];rfl
theorem iO{a:List Nat}(h:a.length≤16777216):iF a=.ok (a.length:Int):=by
 unfold iF;rw[zL,bP (decide_eq_true h)];rfl
theorem BN{a:List Nat}{lo hi:Option Int}(h:a.length≤16777216):Bn a lo hi=.ok (cy a lo hi):=by
 unfold Bn;rw[zL,bP (decide_eq_true h)];rfl
theorem nS{a b:Int}(h:0<b):lS a b=.ok (a%b):=by
 unfold lS;rw[bP (decide_eq_true h)];rfl
theorem FE{a b:Int}(h:a.natAbs.log2+b.natAbs.log2<1000000):mulM a b=.ok (a*b):=by
 unfold mulM Df;rw[bP (decide_eq_true h)];rfl
theorem zR{n:Nat}(h:n≤1000000000):jD 0 (n:Int)=.ok ((List.range n).map fun(i:Nat)=>(i:Int)):=by
 unfold jD
 rw[bP (decide_eq_true (by omega)),M.aa]
 congr 1
 rw[show((n:Int)- 0).toNat=n by omega]
 exact List.map_congr_left fun i _=>by omega
theorem uD{n:Int}(h:n<1000000000)(h0: -1000000000<n):jD 0 n=.ok ((List.range n.toNat).map fun(i:Nat)=>(i:Int)):=by
 unfold jD
 rw[bP (decide_eq_true (by omega)),M.aa]
 congr 1
 rw[show(n- 0).toNat=n.toNat by omega]
 exact List.map_congr_left fun i _=>by omega
theorem Fs{n:Nat}{i:Nat}(h:i<n):ixN n (i:Int)=some i:=by
 rw[Sh.Ac (by omega) (by omega)];simp
theorem atI_nat{l:List T}{i:Nat}(h:i<l.length):atI l (i:Int)=some l[i]:=by
 unfold atI
 rw[Fs h]
 simp[h]
theorem Fv{l:List T}{i:Nat}(h:i<l.length):d7 l (i:Int)=.ok l[i]:=by
 unfold d7;rw[atI_nat h]
theorem yk{l:List T}{i:Int}(h0:0≤i)(h:i<l.length):∃ a,a∈l∧d7 l i=.ok a:=by
 have:i=((i.toNat:Nat):Int):=by omega
 rw[this]
 have h':i.toNat<l.length:=by omega
 exact⟨_,List.getElem_mem h',Fv h'⟩
theorem Ce{l:List Nat}{i:Int}(h0:0≤i)(h:i<l.length)(hl:l.length≤16777216):∃ a,a∈l∧ic l i=.ok [a]:=by
 have:i=((i.toNat:Nat):Int):=by omega
 have h':i.toNat<l.length:=by omega
 refine⟨l[i.toNat],List.getElem_mem h',?_⟩
 unfold ic
 rw[zL,bP (decide_eq_true hl),M.aa]
 have e:=atI_nat h'
 rw[show((i.toNat:Nat):Int)=i by omega]at e
 rw[e]
theorem EO{l:List T}{i:Int}(h0:0≤i)(h:i<l.length)(x:T):setM l i x=.ok (l.set i.toNat x):=by
 unfold setM
 rw[Sh.Ac h0 h]
theorem vJ{mt:T→M Bool}{me:T→M U}{F:T→U}:∀ (l:List T) (acc:List U),(∀ x∈l,mt x=.ok true)→(∀ x∈l,me x=.ok (F x))→acc.length+l.length≤16777216→ef mt me acc l=.ok (acc++l.map F)
 | [],acc,h1,h2,hl=>by simp[ef]
 | x::l,acc,h1,h2,hl=>by
  simp only[List.length_cons]at hl
  unfold ef
  rw[h1 x (by simp),M.aa,if_pos rfl,h2 x (by simp),M.aa,bP (decide_eq_true (by rw[zL];omega)),M.aa,vJ l _ (fun y hy=>h1 y (by simp[hy])) (fun y hy=>h2 y (by simp[hy])) (by simp;omega)]
  simp
theorem pL{mt:T→M Bool}{me:T→M U}{F:T→U}{l:List T}(h1:∀ x∈l,mt x=.ok true)(h2:∀ x∈l,me x=.ok (F x))(hl:l.length≤16777216):dH mt me l=.ok (l.map F):=by
 unfold dH
 rw[vJ l [] h1 h2 (by simpa using hl)];simp
theorem Ae{mt:T→M Bool}{me:T→M U}{P:U→Prop}:∀ (l:List T) (acc:List U),(∀ x∈l,mt x=.ok true)→(∀ x∈l,∃ y,me x=.ok y∧P y)→acc.length+l.length≤16777216→∃ r,ef mt me acc l=.ok (acc++r)∧r.length=l.length∧∀ y∈r,P y
 | [],acc,h1,h2,hl=>⟨[],by simp[ef],rfl,by simp⟩
 | x::l,acc,h1,h2,hl=>by
  simp only[List.length_cons]at hl
  obtain⟨y,e,hy⟩:=h2 x (by simp)
  obtain⟨r,e2,hr,hp⟩:=Ae l (acc++[y]) (fun y hy=>h1 y (by simp[hy])) (fun y hy=>h2 y (by simp[hy])) (by simp;omega)
  refine⟨y::r,?_,by simp[hr],fun z hz=>?_⟩
  ·unfold ef
   rw[h1 x (by simp),M.aa,if_pos rfl,e,M.aa,bP (decide_eq_true (by rw[zL];omega)),M.aa,e2]
   simp
  ·rcases List.mem_cons.mp hz with rfl | hz
   ·exact hy
   ·exact hp z hz
theorem Fe{mt:T→M Bool}{me:T→M U}(P:U→Prop){l:List T}(h1:∀ x∈l,mt x=.ok true)(h2:∀ x∈l,∃ y,me x=.ok y∧P y)(hl:l.length≤16777216):∃ r,dH mt me l=.ok r∧r.length=l.length∧∀ y∈r,P y:=by
 obtain⟨r,e,h3,h4⟩:=Ae l [] h1 h2 (by simpa using hl)
 exact⟨r,by unfold dH;rw[e];simp,h3,h4⟩
theorem n7{t:C→M Bool}{f:C→M C}{n:Nat}{c c':C}(h1:t c=.ok true)(h2:f c=.ok c'):nQ t f (n+1) c=nQ t f n c':=by
 show(t c).bind _=_
 rw[h1,M.aa,if_pos rfl,h2,M.aa]
theorem uC{t:C→M Bool}{f:C→M C}{n:Nat}{c:C}(h1:t c=.ok false):nQ t f (n+1) c=.ok c:=by
 show(t c).bind _=_
 rw[h1,M.aa,if_neg (by simp)]
theorem Ft{l:List T}(h:l≠[]):∃ y,y∈l∧xG l=.ok (y,l.dropLast):=by
 have hl:l.length- 1<l.length:=by have:=List.length_pos_iff.mpr h;omega
 refine⟨l[l.length- 1],List.getElem_mem hl,?_⟩
 unfold xG
 rw[List.getElem?_eq_getElem hl]
def Sat(m:M T)(P:T→Prop):Prop:=∃ v,m=.ok v∧P v
theorem az{v:T}{P:T→Prop}(h:P v):Sat (.ok v) P:=⟨v,rfl,h⟩
theorem HW{m:M T}{v:T}{P:T→Prop}(e:m=.ok v)(h:P v):Sat m P:=⟨v,e,h⟩
theorem av{m:M T}{k:T→M U}{P:T→Prop}{Q:U→Prop}(h:Sat m P)(hk:∀ v,P v→Sat (k v) Q):Sat (m.bind k) Q:=by
 obtain⟨v,e,p⟩:=h
 rw[e,M.aa]
 exact hk v p
theorem eC{m:M T}{P:T→Prop}(h:Sat m P):Sat (nox m) P:=by
 obtain⟨v,e,p⟩:=h
 exact⟨v,by rw[e];rfl,p⟩
theorem ur{m:M T}{P Q:T→Prop}(h:Sat m P)(w:∀ v,P v→Q v):Sat m Q:=by
 obtain⟨v,e,p⟩:=h
 exact⟨v,e,w v p⟩
theorem uK{c:Prop}[Decidable c]{m1 m2:M T}{P:T→Prop}(h1:c→Sat m1 P)(h2:¬c→Sat m2 P):Sat (if c then m1 else m2) P:=by
 by_cases h:c
 ·rw[if_pos h];exact h1 h
 ·rw[if_neg h];exact h2 h
theorem n8{f:C→T→M C}(I:Nat→C→Prop){l:List T}{c:C}(h0:I 0 c)(h:∀ n c x,x∈l→n<l.length→I n c→Sat (f c x) (I (n+1))):Sat (foldM f c l) (I l.length):=by
 have key:∀ (m:List T) (n:Nat) (c:C),(∀ x∈m,x∈l)→n+m.length=l.length→I n c→Sat (foldM f c m) (I l.length):=by
  intro m
  induction m with
  | nil=>intro n c _ hn i;exact az (by simpa [←hn]using i)
  | cons x m ih=>
   intro n c hx hn i
   rw[bH]
   simp only[List.length_cons]at hn
   exact av (h n c x (hx x (by simp)) (by omega) i) fun c' i'=>ih (n+1) c' (fun y hy=>hx y (by simp[hy])) (by omega) i'
 exact key l 0 c (fun _ h=>h) (by simp) h0
theorem lb{l:List T}{i:Int}{P:T→Prop}(h0:0≤i)(h:i<l.length)(hp:∀ a∈l,P a):Sat (d7 l i) P:=by
 obtain⟨a,ha,e⟩:=yk h0 h
 exact⟨a,e,hp a ha⟩
theorem B0{mt:T→M Bool}{me:T→M U}(P:U→Prop){l:List T}(h1:∀ x∈l,mt x=.ok true)(h2:∀ x∈l,Sat (me x) P)(hl:l.length≤16777216):Sat (dH mt me l) fun r=>r.length=l.length∧∀ y∈r,P y:=by
 obtain⟨r,e,h⟩:=Fe P h1 h2 hl
 exact⟨r,e,h⟩
theorem uA{n:Nat}{x:Int}(h:x∈(List.range n).map fun(i:Nat)=>(i:Int)):0≤x∧x<n:=by
 obtain⟨i,hi,rfl⟩:=List.mem_map.mp h
 have:=List.mem_range.mp hi
 omega
theorem zC{n k:Nat}(h:n<2^k)(hk:0<k):n.log2<k:=by
 by_cases h0:n=0
 ·subst h0;simpa using hk
 ·exact(Nat.log2_lt h0).mpr h
theorem iI{a b:Int}(k j:Nat)(ha:a.natAbs<2^k)(hb:b.natAbs<2^j)(h:k+j≤1000000)(hk:0<k)(hj:0<j):mulM a b=.ok (a*b):=by
 have:=zC ha hk
 have:=zC hb hj
 exact FE (by omega)
end
end Vw
namespace Vw
open PySem L2
section
variable{T A:Type}{R:List Ob→Prop}{p:Pt}{σ:List Ob}{i j:Nat}
theorem Bj{α:Type}{f:State→Res α}{m m':M T}{post:T→α×Pt×List Ob}(h:Ev R p σ f m post)(e:m=m'):Ev R p σ f m' post:=e▸h
end
end Vw
namespace Vw
open PySem L2
end Vw
namespace Vw
open PySem L2
section
variable{R:List Ob→Prop}{p:Pt}{σ:List Ob}{A B T U:Type}{i j n:Nat}
theorem Cs{f:Val→Option D}(hf:∀ d,f (.d d)=some d){e:A→D}:∀ l:List A,jK f (l.map fun x=>.d (e x))=some (l.map e)
 | []=>rfl
 | x::l=>by
  rw[List.map_cons]
  unfold jK
  rw[hf,Cs hf l]
  rfl
theorem qH{k:Nat}{s:State}(d:D):frz k s (.d d)=some d:=by cases k<;> rfl
theorem GL{e:A→D}{l:List A}{k:Nat}{sg:Slots}(h:σ[n]? =some (oL e l)):frz (k+1) ⟨sg,σ⟩ (.r n)=some (eL e l):=by
 show(match σ[n]? with
   | some o=>x4 (frz k ⟨sg,σ⟩) o
   | none=>none)=_
 rw[h]
 show(jK (frz k ⟨sg,σ⟩) (l.map fun x=>.d (e x))).map D.lst=_
 rw[Cs (fun d=>qH d)]
 rfl
end
end Vw
namespace Vw
open PySem L2
end Vw
namespace Vw
open PySem L2
end Vw
namespace Vw
open PySem L2 PyProof.Rows
end Vw
namespace Vw
open PySem L2 PyProof.Rows
end Vw
namespace Vw
open PySem L2 PyProof.Rows
end Vw
namespace Vw
open PySem L2 PyProof.Rows
end Vw
namespace Vw
open PySem L2 PyProof.Rows
end Vw
namespace Vw
open PySem L2 PyProof.Rows
theorem wk{p q:Pt}(h:cM p q:=by(repeat' (first | exact trivial | refine And.intro rfl ?_))):cM p q:=h
section
variable{R:List Ob→Prop}{p:Pt}{σ:List Ob}{A B T U C:Type}{i:Nat}
theorem rv(a:T)(e:T→D)(h:p[i]? =some (some (.v (.d (e a))))):Ev R p σ (ev (ae i)) (.ok a) (fun v=>(.val (.d (e v)),p,σ)):=sv (aw h)
theorem MR{f:State→Res RV}{m:M (List T)}{e:T→D}{P:List T→Pt}{S:List T→List Ob}(h:Ev R p σ f m (fun v=>(.new (oL e v),P v,S v))):Ev R p σ (ev f) m (fun v=>(.val (.d (eL e v)),P v,S v)):=sn h (fun v=>cK _ v)
theorem nl(e:T→D):Ev R p σ (ev (dk [])) (.ok ([]:List T)) (fun v=>(.val (.d (eL e v)),p,σ)):=MR (Ev.b9 (post2:=(pN (oL e) _ _)) (cO (l:=fun _=>([]:List T)) (e:=e) aq (fun _=>.nil) (fun _=>rfl) (fun _=>rfl)) rfl)
end
end Vw
namespace Vw
open PySem L2 PyProof.Rows
end Vw
namespace Vw
open PySem L2 PyProof.Rows
end Vw
namespace Vw
open PySem L2 PyProof.Rows
end Vw
namespace Vw
open PySem L2
end Vw
namespace Vw
open PySem L2
end Vw
namespace Vw
open PySem L2 PyProof.Rows
def yf(t:List Nat):M Int:=match zx t with
 | some a=>.ok a
 | none=>.bad
section
variable{R:List Ob→Prop}{p p':Pt}{σ σ':List Ob}
theorem J3{t:List Nat}:Ev R p σ (xq [.val (.d (.str t))]) (yf t) (pD .int p σ):=by
 unfold yf
 intro sg hf
 cases e:zx t with
 | none=>trivial
 | some n=>
  refine⟨sg,?_,hf⟩
  show(match zx t with | some n=>aH (.int n) _ | none=>.stuck)=_
  rw[e]
  rfl
end
end Vw
namespace Vw
open PySem L2
end Vw
namespace Vw
open PySem L2 PyProof.Rows
theorem zE(l:List D):fP (l.map .d)=.d (.tup l):=by
 unfold fP
 rw[toDs_map]
def mJ(d:D)(lo hi:Option Int):M D:=match d with
 | .tup l=>if(cy l lo hi).length=l.length then .bad else .ok (.tup (cy l lo hi))
 | _=>.bad
def jN:D→M (List D)
 | .tup l=>.ok l
 | _=>.bad
def iZ:D→M Bool
 | .lst _=>.ok true
 | .tup _=>.ok false
 | .str _=>.ok false
 | .int _=>.ok false
 | _=>.bad
def nI:D→M Bool
 | .lst _=>.ok false
 | .tup _=>.ok false
 | .str _=>.ok false
 | .int _=>.ok true
 | _=>.bad
def rS(a b:List Nat):M (List Nat×List Nat×List Nat):=(gd (decide (b≠[]∧a.length≤sizeLine))).bind fun _=>.ok (mC a b)
def u7(a b:List Nat):M (List (List Nat)):=(gd (decide (b≠[]∧a.length+2≤sizeLine))).bind fun _=>.ok (sx a b)
def xm(a y z:List Nat):M (List Nat):=(gd (decide (a.length+(a.length+1)*z.length≤16777216))).bind fun _=>.ok (yi a y z)
section
variable{R:List Ob→Prop}{p p':Pt}{σ σ':List Ob}{A B T U:Type}{i j n:Nat}
theorem Hj{d:D}{lo hi:Option Int}:Ev R p σ (vM (.val (.d d)) lo hi) (mJ d lo hi) (pD eY p σ):=fun sg hf=>by
 cases d<;> try trivial
 rename_i l
 show Rn R _ (if(cy l lo hi).length=l.length then(M.bad:M D)else M.ok (D.tup (cy l lo hi))) _
 split
 ·trivial
 ·rename_i hne
  refine⟨sg,?_,hf⟩
  show(if(cy (l.map Val.d) lo hi).length=(l.map Val.d).length then Res.stuck else Res.ok (RV.val (fP (cy (l.map Val.d) lo hi))) (State.mk sg σ))=_
  rw[xU,List.length_map,List.length_map,if_neg hne,zE]
theorem uN{f:State→Res RV}{m:M D}{P:Pt}{S:List Ob}(h:Ev R p σ (ev f) m (pD eY P S)):Ev R p σ (sD f itemsOf) (m.bind jN) (pS (fun x=>.d x) P S):=fun sg hf=>by
 have:=h sg hf
 cases m with
 | ok v=>
  obtain⟨sg',e1,hf'⟩:=this
  cases v<;> try trivial
  rename_i l
  refine⟨sg',?_,hf'⟩
  rw[mz,e1,Res.aa]
  rfl
 | exc x=>
  obtain⟨s,e1,r⟩:=this
  refine⟨s,?_,r⟩
  rw[mz,e1]
  rfl
 | bad=>trivial
theorem HR{f:State→Res RV}{m:M D}(h:Ev R p σ (ev f) m (pD eY p σ)):Ev R p σ (bE "list" f) (m.bind iZ) (pD .bl p σ):=by
 refine Ev.bind h fun d=>?_
 cases d with
 | str l=>exact fun sg hf=>⟨sg,rfl,hf⟩
 | int l=>exact fun sg hf=>⟨sg,rfl,hf⟩
 | tup l=>exact fun sg hf=>⟨sg,rfl,hf⟩
 | lst l=>exact fun sg hf=>⟨sg,rfl,hf⟩
 | _=>exact fun sg hf=>trivial
theorem Hn{f:State→Res RV}{m:M D}(h:Ev R p σ (ev f) m (pD eY p σ)):Ev R p σ (bE "int" f) (m.bind nI) (pD .bl p σ):=by
 refine Ev.bind h fun d=>?_
 cases d with
 | str l=>exact fun sg hf=>⟨sg,rfl,hf⟩
 | int l=>exact fun sg hf=>⟨sg,rfl,hf⟩
 | tup l=>exact fun sg hf=>⟨sg,rfl,hf⟩
 | lst l=>exact fun sg hf=>⟨sg,rfl,hf⟩
 | _=>exact fun sg hf=>trivial
theorem EC{a b:List Nat}:Ev R p σ (iQ (.val (.d (.str a))) [.val (.d (.str b))]) (rS a b) (pD (Kg D.str D.str D.str) p σ):=Ev.gd (r:=fun v=>RV.val (Val.d (Kg D.str D.str D.str v))) fun h sg _=>by
 show(if b≠[]∧a.length≤sizeLine then Res.ok (RV.val (fP [Val.d (D.str (mC a b).1),Val.d (D.str (mC a b).2.1),Val.d (D.str (mC a b).2.2)])) (State.mk sg σ)else .stuck)=_
 rw[if_pos (of_decide_eq_true h)]
 try rfl
theorem ID{a b:List Nat}:Ev R p σ (tT (.val (.d (.str a))) [.val (.d (.str b))]) (u7 a b) (pN (oL D.str) p σ):=Ev.gd (r:=fun v=>RV.new (oL D.str v)) fun h sg _=>by
 show(if b≠[]∧a.length+2≤sizeLine then Res.ok (RV.new (Ob.lst ((sx a b).map fun t=>Val.d (D.str t)))) (State.mk sg σ)else .stuck)=_
 rw[if_pos (of_decide_eq_true h)]
 try rfl
theorem Et{e:T→D}{l:List T}{r:RV}(h:Lv p σ r e l):Ev R p σ (qe [r]) (.ok (D.tup (l.map e))) (pD eY p σ):=Ev.at (r:=fun v=>RV.val (Val.d v)) fun sg hf=>by
 show(match lv ⟨sg,σ⟩ r with | some l=>Res.ok (RV.val (fP l)) (State.mk sg σ) | none=>.stuck)=_
 rw[(h sg hf).1]
 dsimp only
 rw[show(l.map fun x=>Val.d (e x))=(l.map e).map Val.d by rw[List.map_map];rfl,zE]
theorem JO{a y z:List Nat}(h:p[i]? =some (some (.v (.d (.str a))))):Ev R p σ (tZ i y z) (xm a y z) (pD .str p σ):=Ev.gd (r:=fun v=>RV.val (Val.d (D.str v))) fun hb sg hf=>by
 unfold tZ
 rw[hf.2 _ _ h]
 dsimp only
 rw[if_pos (of_decide_eq_true hb)]
 rfl
theorem Jy{N:List String}{c:String}{b u:State→Res Fl}{m:M A}{P:A→Pt}{S:A→List Ob}(h:Ev R p σ b m (fun v=>(.nx,P v,S v))):Ev R p σ (rV N c b u) (nox m) (fun v=>(.nx,P v,S v)):=fun sg hf=>by
 have:=h sg hf
 cases m with
 | ok v=>
  obtain⟨sg',e,hf'⟩:=this
  exact⟨sg',by unfold rV;rw[e],hf'⟩
 | exc x=>trivial
 | bad=>trivial
theorem HD{s:State→Res Fl}{m:M A}{P:A→Pt}{S:A→List Ob}(h:Ev R p σ s m (fun v=>(.nx,P v,S v))):Ev R p σ (ah [s]) m (fun v=>(.nx,P v,S v)):=fun sg hf=>by
 have:=h sg hf
 cases m with
 | ok v=>
  obtain⟨sg',e,hf'⟩:=this
  exact⟨sg',by rw[fX e];rfl,hf'⟩
 | exc x=>
  obtain⟨s',e,r⟩:=this
  exact⟨s',by show(lF _ _)=_;unfold lF;rw[e],r⟩
 | bad=>trivial
theorem Hr{N:List String}{c:String}{b u:State→Res Fl}{m:M A}{P:A→Pt}{S:A→List Ob}(h:Ev R p σ b m (fun v=>(.nx,P v,S v))):Ev R p σ (rV N c (ah [b]) u) (nox m) (fun v=>(.nx,P v,S v)):=Jy (HD h)
theorem Lj{a:A}{o:Ob}(h:p[i]? =some (some (.own o))):Ev R p σ (ae i) (.ok a) (fun _=>(.own i,p,σ)):=Ev.at (r:=fun _=>RV.own i) fun sg hf=>by
 rw[iw,hf.2 _ _ h]
theorem JN{e:T→D}{l:List T}(h:p[i]? =some (some (.own (oL e l)))):Lv p σ (.own i) eY (l.map e):=by
 refine gv ?_
 rw[h]
 unfold oL
 rw[List.map_map]
 rfl
theorem Ii{f:State→Res RV}{m:M (Bool×T)}{o:T→Ob}{d:T→D}{P:Pt}{S:List Ob}(h:Ev R p σ f m (fun v=>((bif v.1 then RV.new (o v.2)else RV.val (.d (d v.2))),P,S)))(hd:∀ v,(o v).toD=some (d v)):Ev R p σ (ev f) (m.bind fun v=>.ok v.2) (fun v=>(.val (.d (d v)),P,S)):=fun sg hf=>by
 have:=h sg hf
 cases m with
 | ok v=>
  obtain⟨sg',e,hf'⟩:=this
  obtain⟨b,v⟩:=v
  refine⟨sg',?_,hf'⟩
  show(f _).bind settle=_
  rw[e,Res.aa]
  cases b with
  | true=>show(match (o v).toD with | some d=>Res.ok (RV.val (Val.d d)) (State.mk sg' S) | none=>.stuck)=_;rw[hd]
  | false=>rfl
 | exc x=>
  obtain⟨s,e,r⟩:=this
  exact⟨s,by show(f _).bind settle=_;rw[e];rfl,r⟩
 | bad=>trivial
theorem JU{b:Bool}{o:Ob}{d:D}(h:o.toD=some d):D8 (bif b then RV.new o else RV.val (.d d)):=by
 cases b with
 | true=>show o.toD.isSome=true;rw[h];rfl
 | false=>trivial
end
end Vw
namespace K33
open PySem L2 PyProof.Rows Vw
def cL(ay:List Int):M (Int×List Int):=(if(eqB ay ([]:List Int))=true then(M.ok (((0:Int),ay)))else((xG ay).bind fun v1=>M.ok (v1)))
theorem hG{R:List Ob→Prop}{S:(List Int)→List Ob}{n:Nat}(hr:∀ d,(S d)[n]? =some ((oL D.int) d))(hw:∀ d d',(S d).set n ((oL D.int) d')=S d'){ay:List Int}:cx R bq [.r n] (S ay) (cL ay) (fun v=>(.val (.d (D.int v.1)),S v.2)):=(di (jd (jm (sv (aK (sv (dS (a:=ay) rfl)) (sn (Ev.b9 (post2:=(pN (oL D.int) _ _)) (cO (l:=fun _=>([]:List Int)) (e:=D.int) aq (fun _=>.nil) (fun _=>rfl) (fun _=>rfl)) rfl) (fun v=>cK _ v)) (ia (DH (hr _)).pv bx (qL qI) (by decide))))) (bD (oH (cD D.int (0:Int)) rfl)) (bD (iU (φ:=fun v1=>v1) (l0 (sv (dS (a:=ay) rfl)) (fun _ hf=>qk (DH (hr _)) hf) aq (J0 (hr _) (hw _))) fun _=>rfl))))
def jj(ax:List Int)(bI:Int)(bB:Int):M ((List Int)):=(ot (cy ax (none:Option Int) (some (63:Int))) [bI]).bind fun bM=>((((d7 bM (0:Int)).bind fun a2=>M.ok (a2/(50000:Int))).bind fun a3=>M.ok (a3%(2:Int))).bind fun a4=>M.ok (eqB a4 (1:Int))).bind fun b5=>if b5=true then((dH (fun(iy:Int)=>M.ok true) (fun(iy:Int)=>M.ok (iy/(100000:Int))) bM).bind fun uo=>((jD 0 (bI+bB)).bind fun a8=>foldM (fun(c9:List Int×List Int) (k10:Int)=>(lS k10 (c9.2.length:Int)).bind fun at_11=>((if(decide (bI≤k10))=true then(((((d7 c9.2 at_11).bind fun a18=>M.ok (a18%(2147483587:Int))).bind fun a19=>(M.ok ()).bind fun w20=>M.ok (a19,w20)).bind fun z21=>eX c9.1 z21.1).bind fun dR=>M.ok dR)else(M.ok c9.1)):M (List Int)).bind fun j17=>(((d7 c9.2 at_11).bind fun a23=>M.ok (a23/(2147483587:Int))).bind fun a25=>(M.ok at_11).bind fun a26=>setM c9.2 a26 a25).bind fun n4=>M.ok (j17,n4)) (([]:List Int),uo) a8).bind fun r27=>M.ok (r27.1))else(((jD 0 bB).bind fun a28=>foldM (fun(c29:List Int) (k30:Int)=>(((mulM (k30+bI) (k30+bI)).bind fun a31=>mulM a31 (7919:Int)).bind fun a32=>M.ok (a32+(104729:Int))).bind fun gq=>((((((lS k30 (bM.length:Int)).bind fun a34=>d7 bM a34).bind fun a35=>M.ok (a35%(2147483647:Int))).bind fun a36=>M.ok (a36+gq)).bind fun a37=>mulM a37 (48271:Int)).bind fun a38=>M.ok (a38%(2147483647:Int))).bind fun e7=>(((mulM e7 e7).bind fun a40=>(mulM (69621:Int) k30).bind fun a41=>M.ok (a40+a41)).bind fun a42=>M.ok (a42%(2147483629:Int))).bind fun d8=>((((mulM d8 d8).bind fun a44=>M.ok (a44%(2147483587:Int))).bind fun a45=>(M.ok ()).bind fun w46=>M.ok (a45,w46)).bind fun z47=>eX c29 z47.1).bind fun lr=>M.ok lr) ([]:List Int) a28).bind fun r49=>M.ok (r49))
theorem yp{R:List Ob→Prop}{σ:List Ob}{ax:List Int}{bI:Int}{bB:Int}:cx R dZ [.d ((eL D.int) ax),.d (D.int bI),.d (D.int bB)] σ (jj ax bI bB) (fun v=>(.new ((oL D.int) v),σ)):=(di (aO (fun bM=>[some (.v (.d ((eL D.int) ax))),some (.v (.d (D.int bI))),some (.v (.d (D.int bB))),some (.own ((oL D.int) bM)),none,none,none,none,none,none,none]) (tW (aK (sn (qJ (sv (aw (a:=ax) (e:=(eL D.int)) rfl)) pn (pe (sv (cD D.int (63:Int)))) (HF e6)) (fun v=>cK _ v)) (sn (Ev.b9 (post2:=(pN (oL D.int) _ _)) (cO (l:=fun _=>([bI]:List Int)) (e:=D.int) (ag (sv (aw (a:=bI) (e:=D.int) rfl)) aq) (fun _=>(.d .nil)) (fun _=>rfl) (fun _=>rfl)) rfl) (fun v=>cK _ v)) (add_l e6 e6))) (fun _=>rfl) fun bM=>(jY [some (.v (.d ((eL D.int) ax))),some (.v (.d (D.int bI))),some (.v (.d (D.int bB))),some (.own ((oL D.int) bM)),some (.own ((oL D.int) ([]:List Int))),none,none,none,none,none,none] (tW (Ev.b9 (post2:=(pN (oL D.int) _ _)) (cO (l:=fun _=>([]:List Int)) (e:=D.int) aq (fun _=>.nil) (fun _=>rfl) (fun _=>rfl)) rfl)) rfl (DR (b:=fun v=>v) (tB (b:=fun v=>v) (sv (cJ (sv (cJ (sv (cJ (sv (aK (hU (ie (a:=bM) rfl)) (sv (cD D.int (0:Int))) (nG (gv rfl)))) (fun a2=>(sv (cD D.int (50000:Int)))) fun a2=>(iR (a:=a2) (b:=(50000:Int)) (oo (by decide) (by decide))))) (fun a3=>(sv (cD D.int (2:Int)))) fun a3=>(e8 (a:=a3) (b:=(2:Int)) (by decide)))) (fun a4=>(sv (cD D.int (1:Int)))) fun a4=>(ia bx bx qI (by decide))))) (fun b5=>(aO (fun uo=>[some (.v (.d ((eL D.int) ax))),some (.v (.d (D.int bI))),some (.v (.d (D.int bB))),some (.v (.d ((eL D.int) bM))),some (.own ((oL D.int) ([]:List Int))),none,some (.own ((oL D.int) uo)),none,none,none,none]) (tW (xj (q:=[some (.v (.d ((eL D.int) ax))),some (.v (.d (D.int bI))),some (.v (.d (D.int bB))),some (.v (.d ((eL D.int) bM))),some (.own ((oL D.int) ([]:List Int))),none,none,none,none,none,none]) (p2:=fun(iy:Int)=>[some (.v (.d ((eL D.int) ax))),some (.v (.d (D.int bI))),some (.v (.d (D.int bB))),some (.v (.d ((eL D.int) bM))),some (.own ((oL D.int) ([]:List Int))),none,none,none,none,none,some (.v (.d (D.int iy)))]) (p3:=fun(iy:Int)=>[some (.v (.d ((eL D.int) ax))),some (.v (.d (D.int bI))),some (.v (.d (D.int bB))),some (.v (.d ((eL D.int) bM))),some (.own ((oL D.int) ([]:List Int))),none,none,none,none,none,some (.v (.d (D.int iy)))]) (mt:=(fun(iy:Int)=>M.ok true)) (me:=(fun(iy:Int)=>M.ok (iy/(100000:Int)))) (e:=D.int) (Jr rfl) rfl (fun(iy:Int)=>⟨cm,lC,(vm (aK (sv (aw (a:=iy) (e:=D.int) rfl)) (sv (cD D.int (100000:Int))) (iR (a:=iy) (b:=(100000:Int)) (oo (by decide) (by decide)))))⟩) (fun _=>by(repeat' (first | exact trivial | refine And.intro rfl ?_))) (fun _=>by(repeat' (first | exact trivial | refine And.intro rfl ?_))))) (fun _=>rfl) fun uo=>(iB (mW (P:=fun(c9:List Int×List Int)=>[some (.v (.d ((eL D.int) ax))),some (.v (.d (D.int bI))),some (.v (.d (D.int bB))),some (.v (.d ((eL D.int) bM))),some (.own ((oL D.int) c9.1)),none,some (.own ((oL D.int) c9.2)),none,none,none,none]) (S:=fun(c9:List Int×List Int)=>σ) (lA:=(fun(a8:List Int)=>a8)) (c0:=fun(a8:List Int)=>(([]:List Int),uo)) (mb:=(fun(c9:List Int×List Int) (k10:Int)=>(lS k10 (c9.2.length:Int)).bind fun at_11=>((if(decide (bI≤k10))=true then(((((d7 c9.2 at_11).bind fun a18=>M.ok (a18%(2147483587:Int))).bind fun a19=>(M.ok ()).bind fun w20=>M.ok (a19,w20)).bind fun z21=>eX c9.1 z21.1).bind fun dR=>M.ok dR)else(M.ok c9.1)):M (List Int)).bind fun j17=>(((d7 c9.2 at_11).bind fun a23=>M.ok (a23/(2147483587:Int))).bind fun a25=>(M.ok at_11).bind fun a26=>setM c9.2 a26 a25).bind fun n4=>M.ok (j17,n4))) (CO (ag (sv (aK (sv (aw (a:=bI) (e:=D.int) rfl)) (sv (aw (a:=bB) (e:=D.int) rfl)) iu)) aq) xu) (fun _=>by(repeat' (first | exact trivial | refine And.intro rfl ?_))) (fun _=>rfl) (fun c9 k10=>cm) (fun c9 k10=>(aO (fun at_11=>[some (.v (.d ((eL D.int) ax))),some (.v (.d (D.int bI))),some (.v (.d (D.int bB))),some (.v (.d ((eL D.int) bM))),some (.own ((oL D.int) c9.1)),some (.v (.d (D.int k10))),some (.own ((oL D.int) c9.2)),none,none,some (.v (.d (D.int at_11))),none]) (dB (aK (sv (aw (a:=k10) (e:=D.int) rfl)) (sv (dr (ag (hU (ie (a:=c9.2) rfl)) aq) (ui (gv rfl)))) tV)) (fun _=>rfl) fun at_11=>(GU (Pc:=fun(j17:List Int)=>[some (.v (.d ((eL D.int) ax))),some (.v (.d (D.int bI))),some (.v (.d (D.int bB))),some (.v (.d ((eL D.int) bM))),some (.own ((oL D.int) j17)),some (.v (.d (D.int k10))),some (.own ((oL D.int) c9.2)),none,none,some (.v (.d (D.int at_11))),none]) (Sc:=fun(j17:List Int)=>σ) (jm (sv (aK (sv (aw (a:=k10) (e:=D.int) rfl)) (sv (aw (a:=bI) (e:=D.int) rfl)) KR))) (aO (fun dR=>[some (.v (.d ((eL D.int) ax))),some (.v (.d (D.int bI))),some (.v (.d (D.int bB))),some (.v (.d ((eL D.int) bM))),some (.own ((oL D.int) dR)),some (.v (.d (D.int k10))),some (.own ((oL D.int) c9.2)),none,none,some (.v (.d (D.int at_11))),none]) (jq (m3 (hU (ie (a:=c9.1) rfl)) (fun _ hf=>qk (gv rfl) hf) (aW (sv (cJ (sv (aK (hU (ie (a:=c9.2) rfl)) (sv (aw (a:=at_11) (e:=D.int) rfl)) (nG (gv rfl)))) (fun a18=>(sv (cD D.int (2147483587:Int)))) fun a18=>(e8 (a:=a18) (b:=(2147483587:Int)) (by decide)))) fun a19=>aq) fun z21=>(qA rfl))) (fun _=>rfl) fun dR=>(mr rfl (by(repeat' (first | exact trivial | refine And.intro rfl ?_))))) (mr rfl (by(repeat' (first | exact trivial | refine And.intro rfl ?_)))) fun j17=>(aO (fun n4=>[some (.v (.d ((eL D.int) ax))),some (.v (.d (D.int bI))),some (.v (.d (D.int bB))),some (.v (.d ((eL D.int) bM))),some (.own ((oL D.int) j17)),some (.v (.d (D.int k10))),some (.own ((oL D.int) n4)),none,none,some (.v (.d (D.int at_11))),none]) (GK rfl (sv (cJ (sv (aK (hU (ie (a:=c9.2) rfl)) (sv (aw (a:=at_11) (e:=D.int) rfl)) (nG (gv rfl)))) (fun a23=>(sv (cD D.int (2147483587:Int)))) fun a23=>(iR (a:=a23) (b:=(2147483587:Int)) (oo (by decide) (by decide))))) (fun _=>(sv (aw (a:=at_11) (e:=D.int) rfl)))) (fun _=>rfl) fun n4=>(hZ rfl (by(repeat' (first | exact trivial | refine And.intro rfl ?_))))))))) fun r27=>(bD (Kf rfl rfl))))) (fun b5=>(iB (mW (P:=fun(c29:List Int)=>[some (.v (.d ((eL D.int) ax))),some (.v (.d (D.int bI))),some (.v (.d (D.int bB))),some (.own ((oL D.int) bM)),some (.own ((oL D.int) c29)),none,none,none,none,none,none]) (S:=fun(c29:List Int)=>σ) (lA:=(fun(a28:List Int)=>a28)) (c0:=fun(a28:List Int)=>([]:List Int)) (mb:=(fun(c29:List Int) (k30:Int)=>(((mulM (k30+bI) (k30+bI)).bind fun a31=>mulM a31 (7919:Int)).bind fun a32=>M.ok (a32+(104729:Int))).bind fun gq=>((((((lS k30 (bM.length:Int)).bind fun a34=>d7 bM a34).bind fun a35=>M.ok (a35%(2147483647:Int))).bind fun a36=>M.ok (a36+gq)).bind fun a37=>mulM a37 (48271:Int)).bind fun a38=>M.ok (a38%(2147483647:Int))).bind fun e7=>(((mulM e7 e7).bind fun a40=>(mulM (69621:Int) k30).bind fun a41=>M.ok (a40+a41)).bind fun a42=>M.ok (a42%(2147483629:Int))).bind fun d8=>((((mulM d8 d8).bind fun a44=>M.ok (a44%(2147483587:Int))).bind fun a45=>(M.ok ()).bind fun w46=>M.ok (a45,w46)).bind fun z47=>eX c29 z47.1).bind fun lr=>M.ok lr)) (CO (ag (sv (aw (a:=bB) (e:=D.int) rfl)) aq) xu) (fun _=>by(repeat' (first | exact trivial | refine And.intro rfl ?_))) (fun _=>rfl) (fun c29 k30=>cm) (fun c29 k30=>(aO (fun gq=>[some (.v (.d ((eL D.int) ax))),some (.v (.d (D.int bI))),some (.v (.d (D.int bB))),some (.own ((oL D.int) bM)),some (.own ((oL D.int) c29)),some (.v (.d (D.int k30))),none,some (.v (.d (D.int gq))),none,none,none]) (dB (cJ (sv (cJ (sv (aK (sv (aK (sv (aw (a:=k30) (e:=D.int) rfl)) (sv (aw (a:=bI) (e:=D.int) rfl)) iu)) (sv (aK (sv (aw (a:=k30) (e:=D.int) rfl)) (sv (aw (a:=bI) (e:=D.int) rfl)) iu)) nc)) (fun a31=>(sv (cD D.int (7919:Int)))) fun a31=>nc)) (fun a32=>(sv (cD D.int (104729:Int)))) fun a32=>iu)) (fun _=>rfl) fun gq=>(aO (fun e7=>[some (.v (.d ((eL D.int) ax))),some (.v (.d (D.int bI))),some (.v (.d (D.int bB))),some (.own ((oL D.int) bM)),some (.own ((oL D.int) c29)),some (.v (.d (D.int k30))),none,some (.v (.d (D.int gq))),some (.v (.d (D.int e7))),none,none]) (dB (cJ (sv (cJ (sv (cJ (sv (cJ (sv (mf (hU (ie (a:=bM) rfl)) (sv (aK (sv (aw (a:=k30) (e:=D.int) rfl)) (sv (dr (ag (hU (ie (a:=bM) rfl)) aq) (ui (gv rfl)))) tV)) fun a34=>(nG (gv rfl)))) (fun a35=>(sv (cD D.int (2147483647:Int)))) fun a35=>(e8 (a:=a35) (b:=(2147483647:Int)) (by decide)))) (fun a36=>(sv (aw (a:=gq) (e:=D.int) rfl))) fun a36=>iu)) (fun a37=>(sv (cD D.int (48271:Int)))) fun a37=>nc)) (fun a38=>(sv (cD D.int (2147483647:Int)))) fun a38=>(e8 (a:=a38) (b:=(2147483647:Int)) (by decide)))) (fun _=>rfl) fun e7=>(aO (fun d8=>[some (.v (.d ((eL D.int) ax))),some (.v (.d (D.int bI))),some (.v (.d (D.int bB))),some (.own ((oL D.int) bM)),some (.own ((oL D.int) c29)),some (.v (.d (D.int k30))),none,some (.v (.d (D.int gq))),some (.v (.d (D.int d8))),none,none]) (dB (cJ (sv (yc (sv (aK (sv (aw (a:=e7) (e:=D.int) rfl)) (sv (aw (a:=e7) (e:=D.int) rfl)) nc)) (fun a40=>(sv (aK (sv (cD D.int (69621:Int))) (sv (aw (a:=k30) (e:=D.int) rfl)) nc))) fun a40 a41=>iu)) (fun a42=>(sv (cD D.int (2147483629:Int)))) fun a42=>(e8 (a:=a42) (b:=(2147483629:Int)) (by decide)))) (fun _=>rfl) fun d8=>(aO (fun lr=>[some (.v (.d ((eL D.int) ax))),some (.v (.d (D.int bI))),some (.v (.d (D.int bB))),some (.own ((oL D.int) bM)),some (.own ((oL D.int) lr)),some (.v (.d (D.int k30))),none,some (.v (.d (D.int gq))),some (.v (.d (D.int d8))),none,none]) (jq (m3 (hU (ie (a:=c29) rfl)) (fun _ hf=>qk (gv rfl) hf) (aW (sv (cJ (sv (aK (sv (aw (a:=d8) (e:=D.int) rfl)) (sv (aw (a:=d8) (e:=D.int) rfl)) nc)) (fun a44=>(sv (cD D.int (2147483587:Int)))) fun a44=>(e8 (a:=a44) (b:=(2147483587:Int)) (by decide)))) fun a45=>aq) fun z47=>(qA rfl))) (fun _=>rfl) fun lr=>(hZ rfl (by(repeat' (first | exact trivial | refine And.intro rfl ?_)))))))))) fun r49=>(bD (Kf rfl rfl))))))))
def i6(ay:List Int):M ((List (List Nat))×List Int):=((((((nox (cL ay)).bind fun a1=>M.ok ((a1.1%(6:Int)),a1.2)).bind fun a2=>(d7 [(0:Int),(1:Int),(2:Int),(3:Int),(1:Int),(2:Int)] a2.1).bind fun v=>M.ok (v,a2.2)).bind fun a3=>(M.ok ()).bind fun w4=>M.ok (a3,w4)).bind fun z5=>(jD 0 z5.1.1).bind fun v=>M.ok (v,z5.1.2)).bind fun a6=>foldM (fun(c7:(List (List Nat×Bool))×List Int) (k8:Int)=>(nox (cL c7.2)).bind fun aJ=>((((jD 0 ((1:Int)+(aJ.1%(11:Int)))).bind fun l16=>dH (fun(j10:Int)=>M.ok true) (fun(j10:Int)=>((((mulM j10 j10).bind fun a12=>mulM a12 (7:Int)).bind fun a13=>M.ok ((aJ.1/(13:Int))+a13)).bind fun a14=>M.ok (a14%(26:Int))).bind fun a15=>ic (sS "abcdefghijklmnopqrstuvwxyz") a15) l16).bind fun a17=>(M.ok ()).bind fun w18=>M.ok (a17,w18)).bind fun z19=>joinM (sS "") z19.1).bind fun kd=>((M.ok true).bind fun a23=>((ic (sS "abcdefghijklmnopqrstuvwxyz") ((aJ.1/(500:Int))%(26:Int))).bind fun a21=>bw a21 kd).bind fun a24=>x6 c7.1 a24 a23).bind fun dR=>M.ok (dR,aJ.2)) (([]:List (List Nat×Bool)),a6.2) a6.1).bind fun r25=>(C8 (r25.1.map fun p=>p.1)).bind fun v26=>M.ok ((v26,r25.2))
theorem yj{R:List Ob→Prop}{S:(List Int)→List Ob}{n:Nat}(hr:∀ d,(S d)[n]? =some ((oL D.int) d))(hw:∀ d d',(S d).set n ((oL D.int) d')=S d'){ay:List Int}:cx R gP [.r n] (S ay) (i6 ay) (fun v=>(.new ((oL D.str) v.1),S v.2)):=(di (jY [some (.v (.r n)),some (.v (.d (D.str (sS "abcdefghijklmnopqrstuvwxyz")))),none,none,none,none,none] (dB (cD D.str (sS "abcdefghijklmnopqrstuvwxyz"))) rfl (jY [some (.v (.r n)),some (.v (.d (D.str (sS "abcdefghijklmnopqrstuvwxyz")))),some (.own ((mS D.bl) ([]:List (List Nat×Bool)))),none,none,none,none] (tW (HJ (e:=D.bl))) rfl (iB (mW (P:=fun(c7:(List (List Nat×Bool))×List Int)=>[some (.v (.r n)),some (.v (.d (D.str (sS "abcdefghijklmnopqrstuvwxyz")))),some (.own ((mS D.bl) c7.1)),none,none,none,none]) (S:=fun(c7:(List (List Nat×Bool))×List Int)=>S c7.2) (lA:=(fun(a6:List Int×List Int)=>a6.1)) (c0:=fun(a6:List Int×List Int)=>(([]:List (List Nat×Bool)),a6.2)) (mb:=(fun(c7:(List (List Nat×Bool))×List Int) (k8:Int)=>(nox (cL c7.2)).bind fun aJ=>((((jD 0 ((1:Int)+(aJ.1%(11:Int)))).bind fun l16=>dH (fun(j10:Int)=>M.ok true) (fun(j10:Int)=>((((mulM j10 j10).bind fun a12=>mulM a12 (7:Int)).bind fun a13=>M.ok ((aJ.1/(13:Int))+a13)).bind fun a14=>M.ok (a14%(26:Int))).bind fun a15=>ic (sS "abcdefghijklmnopqrstuvwxyz") a15) l16).bind fun a17=>(M.ok ()).bind fun w18=>M.ok (a17,w18)).bind fun z19=>joinM (sS "") z19.1).bind fun kd=>((M.ok true).bind fun a23=>((ic (sS "abcdefghijklmnopqrstuvwxyz") ((aJ.1/(500:Int))%(26:Int))).bind fun a21=>bw a21 kd).bind fun a24=>x6 c7.1 a24 a23).bind fun dR=>M.ok (dR,aJ.2))) (Ks (aW (sv (mf (sn (Ev.b9 (post2:=(pN (oL D.int) _ _)) (cO (l:=fun _=>([(0:Int),(1:Int),(2:Int),(3:Int),(1:Int),(2:Int)]:List Int)) (e:=D.int) (ag (sv (cD D.int (0:Int))) (ag (sv (cD D.int (1:Int))) (ag (sv (cD D.int (2:Int))) (ag (sv (cD D.int (3:Int))) (ag (sv (cD D.int (1:Int))) (ag (sv (cD D.int (2:Int))) aq)))))) (fun _=>(.d (.d (.d (.d (.d (.d .nil))))))) (fun _=>rfl) (fun _=>rfl)) rfl) (fun v=>cK _ v)) (sv (cJ (sv (bQ (R':=R) (post:=(pE D.int _ S)) (ag (sv (dS (a:=ay) rfl)) aq) (.d .nil) rfl (hG (ay:=ay) hr hw) (fun _=>rfl))) (fun a1=>(sv (cD D.int (6:Int)))) fun a1=>(Ev.b9 (post2:=(pE D.int _ S)) (e8 (a:=a1.1) (b:=(6:Int)) (by decide)) rfl))) fun a2=>(Ev.map (fun v=>(v,a2.2)) (pE D.int _ S) (nG e6) fun _=>rfl))) fun a3=>aq) fun z5=>Ev.map (fun v=>(v,z5.1.2)) (Kr (fun x=>.d (.int x)) _ S) xu fun _=>rfl) (fun _=>by(repeat' (first | exact trivial | refine And.intro rfl ?_))) (fun _=>rfl) (fun c7 k8=>cm) (fun c7 k8=>(aO (fun aJ=>[some (.v (.r n)),some (.v (.d (D.str (sS "abcdefghijklmnopqrstuvwxyz")))),some (.own ((mS D.bl) c7.1)),some (.v (.d (D.int k8))),some (.v (.d (D.int aJ.1))),none,none]) (dB (bQ (R':=R) (post:=(pE D.int _ S)) (ag (sv (dS (a:=c7.2) rfl)) aq) (.d .nil) rfl (hG (ay:=c7.2) hr hw) (fun _=>rfl))) (fun _=>rfl) fun aJ=>(aO (fun kd=>[some (.v (.r n)),some (.v (.d (D.str (sS "abcdefghijklmnopqrstuvwxyz")))),some (.own ((mS D.bl) c7.1)),some (.v (.d (D.int k8))),some (.v (.d (D.int aJ.1))),some (.v (.d (D.str kd))),none]) (dB (m3 (sv (cD D.str (sS ""))) (fun _ _=>rfl) (aW (sn (AY (q:=[some (.v (.r n)),some (.v (.d (D.str (sS "abcdefghijklmnopqrstuvwxyz")))),some (.own ((mS D.bl) c7.1)),some (.v (.d (D.int k8))),some (.v (.d (D.int aJ.1))),none,none]) (p2:=fun(j10:Int)=>[some (.v (.r n)),some (.v (.d (D.str (sS "abcdefghijklmnopqrstuvwxyz")))),some (.own ((mS D.bl) c7.1)),some (.v (.d (D.int k8))),some (.v (.d (D.int aJ.1))),none,some (.v (.d (D.int j10)))]) (p3:=fun(j10:Int)=>[some (.v (.r n)),some (.v (.d (D.str (sS "abcdefghijklmnopqrstuvwxyz")))),some (.own ((mS D.bl) c7.1)),some (.v (.d (D.int k8))),some (.v (.d (D.int aJ.1))),none,some (.v (.d (D.int j10)))]) (mt:=(fun(j10:Int)=>M.ok true)) (me:=(fun(j10:Int)=>((((mulM j10 j10).bind fun a12=>mulM a12 (7:Int)).bind fun a13=>M.ok ((aJ.1/(13:Int))+a13)).bind fun a14=>M.ok (a14%(26:Int))).bind fun a15=>ic (sS "abcdefghijklmnopqrstuvwxyz") a15)) (e:=D.str) (CO (ag (sv (aK (sv (cD D.int (1:Int))) (sv (aK (sv (aw (a:=aJ.1) (e:=D.int) rfl)) (sv (cD D.int (11:Int))) (e8 (a:=aJ.1) (b:=(11:Int)) (by decide)))) iu)) aq) xu) rfl (fun(j10:Int)=>⟨cm,lC,(vm (mf (sv (aw (a:=(sS "abcdefghijklmnopqrstuvwxyz")) (e:=D.str) rfl)) (sv (cJ (sv (mf (sv (aK (sv (aw (a:=aJ.1) (e:=D.int) rfl)) (sv (cD D.int (13:Int))) (iR (a:=aJ.1) (b:=(13:Int)) (oo (by decide) (by decide))))) (sv (cJ (sv (aK (sv (aw (a:=j10) (e:=D.int) rfl)) (sv (aw (a:=j10) (e:=D.int) rfl)) nc)) (fun a12=>(sv (cD D.int (7:Int)))) fun a12=>nc)) fun a13=>iu)) (fun a14=>(sv (cD D.int (26:Int)))) fun a14=>(e8 (a:=a14) (b:=(26:Int)) (by decide)))) fun a15=>xT))⟩) (fun _=>by(repeat' (first | exact trivial | refine And.intro rfl ?_))) (fun _=>by(repeat' (first | exact trivial | refine And.intro rfl ?_)))) (fun v=>cK _ v)) fun a17=>aq) fun z19=>(tH e6))) (fun _=>rfl) fun kd=>(aO (fun dR=>[some (.v (.r n)),some (.v (.d (D.str (sS "abcdefghijklmnopqrstuvwxyz")))),some (.own ((mS D.bl) dR)),some (.v (.d (D.int k8))),some (.v (.d (D.int aJ.1))),some (.v (.d (D.str kd))),none]) (Gj rfl (sv (cD D.bl true)) (fun _=>(sv (cJ (sv (aK (sv (aw (a:=(sS "abcdefghijklmnopqrstuvwxyz")) (e:=D.str) rfl)) (sv (aK (sv (aK (sv (aw (a:=aJ.1) (e:=D.int) rfl)) (sv (cD D.int (500:Int))) (iR (a:=aJ.1) (b:=(500:Int)) (oo (by decide) (by decide))))) (sv (cD D.int (26:Int))) (e8 (a:=(aJ.1/(500:Int))) (b:=(26:Int)) (by decide)))) xT)) (fun a21=>(sv (aw (a:=kd) (e:=D.str) rfl))) fun a21=>gA)))) (fun _=>rfl) fun dR=>(hZ rfl (by(repeat' (first | exact trivial | refine And.intro rfl ?_))))))))) fun r25=>(bD (Il (φ:=fun v26=>(v26,r25.2)) (dr (ag (hU (ie (a:=r25.1) rfl)) aq) (FV (Jg rfl))) fun _=>rfl))))))
def gk(ay:List Int):M (List Nat×List Int):=(M.ok (sS " !\"#$&'()*+,-./0123456789:;<=>?@ABCDEFGHIJKLMNOPQRSTUVWXYZ[\\]^_`abcdefghijklmnopqrstuvwxyz{|}~")).bind fun fZ=>(((((nox (cL ay)).bind fun a2=>M.ok ((a2.1%(10:Int)),a2.2)).bind fun a3=>(M.ok ()).bind fun w4=>M.ok (a3,w4)).bind fun z5=>(jD 0 z5.1.1).bind fun v=>M.ok (v,z5.1.2)).bind fun a6=>foldM (fun(c7:List Nat×List Int) (k8:Int)=>(nox (cL c7.2)).bind fun aJ=>(d7 [fZ,(sS "' a:"),(sS "ab''")] (aJ.1%(3:Int))).bind fun fC=>((((iF fC).bind fun a11=>lS (aJ.1/(3:Int)) a11).bind fun a12=>ic fC a12).bind fun a13=>bw c7.1 a13).bind fun lu=>M.ok (lu,aJ.2)) ((sS ""),a6.2) a6.1).bind fun r15=>M.ok ((r15.1,r15.2))
theorem zg{R:List Ob→Prop}{S:(List Int)→List Ob}{n:Nat}(hr:∀ d,(S d)[n]? =some ((oL D.int) d))(hw:∀ d d',(S d).set n ((oL D.int) d')=S d'){ay:List Int}:cx R gm [.r n] (S ay) (gk ay) (fun v=>(.val (.d (D.str v.1)),S v.2)):=(di (aO (fun fZ=>[some (.v (.r n)),some (.v (.d (D.str fZ))),none,none,none,none]) (dB (cD D.str (sS " !\"#$&'()*+,-./0123456789:;<=>?@ABCDEFGHIJKLMNOPQRSTUVWXYZ[\\]^_`abcdefghijklmnopqrstuvwxyz{|}~"))) (fun _=>rfl) fun fZ=>(jY [some (.v (.r n)),some (.v (.d (D.str fZ))),some (.v (.d (D.str (sS "")))),none,none,none] (dB (cD D.str (sS ""))) rfl (iB (mW (P:=fun(c7:List Nat×List Int)=>[some (.v (.r n)),some (.v (.d (D.str fZ))),some (.v (.d (D.str c7.1))),none,none,none]) (S:=fun(c7:List Nat×List Int)=>S c7.2) (lA:=(fun(a6:List Int×List Int)=>a6.1)) (c0:=fun(a6:List Int×List Int)=>((sS ""),a6.2)) (mb:=(fun(c7:List Nat×List Int) (k8:Int)=>(nox (cL c7.2)).bind fun aJ=>(d7 [fZ,(sS "' a:"),(sS "ab''")] (aJ.1%(3:Int))).bind fun fC=>((((iF fC).bind fun a11=>lS (aJ.1/(3:Int)) a11).bind fun a12=>ic fC a12).bind fun a13=>bw c7.1 a13).bind fun lu=>M.ok (lu,aJ.2))) (Ks (aW (sv (cJ (sv (bQ (R':=R) (post:=(pE D.int _ S)) (ag (sv (dS (a:=ay) rfl)) aq) (.d .nil) rfl (hG (ay:=ay) hr hw) (fun _=>rfl))) (fun a2=>(sv (cD D.int (10:Int)))) fun a2=>(Ev.b9 (post2:=(pE D.int _ S)) (e8 (a:=a2.1) (b:=(10:Int)) (by decide)) rfl))) fun a3=>aq) fun z5=>Ev.map (fun v=>(v,z5.1.2)) (Kr (fun x=>.d (.int x)) _ S) xu fun _=>rfl) (fun _=>by(repeat' (first | exact trivial | refine And.intro rfl ?_))) (fun _=>rfl) (fun c7 k8=>cm) (fun c7 k8=>(aO (fun aJ=>[some (.v (.r n)),some (.v (.d (D.str fZ))),some (.v (.d (D.str c7.1))),some (.v (.d (D.int k8))),some (.v (.d (D.int aJ.1))),none]) (dB (bQ (R':=R) (post:=(pE D.int _ S)) (ag (sv (dS (a:=c7.2) rfl)) aq) (.d .nil) rfl (hG (ay:=c7.2) hr hw) (fun _=>rfl))) (fun _=>rfl) fun aJ=>(aO (fun fC=>[some (.v (.r n)),some (.v (.d (D.str fZ))),some (.v (.d (D.str c7.1))),some (.v (.d (D.int k8))),some (.v (.d (D.int aJ.1))),some (.v (.d (D.str fC)))]) (dB (aK (sn (Ev.b9 (post2:=(pN (oL D.str) _ _)) (cO (l:=fun _=>([fZ,(sS "' a:"),(sS "ab''")]:List (List Nat))) (e:=D.str) (ag (sv (aw (a:=fZ) (e:=D.str) rfl)) (ag (sv (cD D.str (sS "' a:"))) (ag (sv (cD D.str (sS "ab''"))) aq))) (fun _=>(.d (.d (.d .nil)))) (fun _=>rfl) (fun _=>rfl)) rfl) (fun v=>cK _ v)) (sv (aK (sv (aw (a:=aJ.1) (e:=D.int) rfl)) (sv (cD D.int (3:Int))) (e8 (a:=aJ.1) (b:=(3:Int)) (by decide)))) (nG e6))) (fun _=>rfl) fun fC=>(aO (fun lu=>[some (.v (.r n)),some (.v (.d (D.str fZ))),some (.v (.d (D.str lu))),some (.v (.d (D.int k8))),some (.v (.d (D.int aJ.1))),some (.v (.d (D.str fC)))]) (dB (mf (sv (aw (a:=c7.1) (e:=D.str) rfl)) (sv (mf (sv (aw (a:=fC) (e:=D.str) rfl)) (sv (mf (sv (aK (sv (aw (a:=aJ.1) (e:=D.int) rfl)) (sv (cD D.int (3:Int))) (iR (a:=aJ.1) (b:=(3:Int)) (oo (by decide) (by decide))))) (sv (dr (ag (sv (aw (a:=fC) (e:=D.str) rfl)) aq) oa)) fun a11=>tV)) fun a12=>xT)) fun a13=>gA)) (fun _=>rfl) fun lu=>(hZ rfl (by(repeat' (first | exact trivial | refine And.intro rfl ?_))))))))) fun r15=>(bD (oH (aw (a:=r15.1) (e:=D.str) rfl) rfl))))))
def dA(ay:List Int):M ((List (List Nat×List Nat))×List Int):=((nox (i6 ay)).bind fun a6=>qC (fun fS c2=>M.ok true) (fun fS c2=>((nox (gk c2)).bind fun a3=>(M.ok ()).bind fun w4=>M.ok (a3,w4)).bind fun z5=>M.ok ((fS,z5.1.1),z5.1.2)) a6.1 a6.2).bind fun v7=>M.ok (v7)
theorem m9{R:List Ob→Prop}{S:(List Int)→List Ob}{n:Nat}(hr:∀ d,(S d)[n]? =some ((oL D.int) d))(hw:∀ d d',(S d).set n ((oL D.int) d')=S d'){ay:List Int}:cx R cP [.r n] (S ay) (dA ay) (fun v=>(.new ((oL (bo D.str D.str)) v.1),S v.2)):=(di (bD (Il (φ:=fun v7=>v7) (Ex (q:=[some (.v (.r n)),none]) (p2:=fun fS=>[some (.v (.r n)),some (.v (.d (D.str fS)))]) (p3:=fun fS=>[some (.v (.r n)),some (.v (.d (D.str fS)))]) (S:=S) (lA:=(fun(a6:List (List Nat)×List Int)=>a6.1)) (cA:=(fun(a6:List (List Nat)×List Int)=>a6.2)) (mt:=(fun fS c2=>M.ok true)) (me:=(fun fS c2=>((nox (gk c2)).bind fun a3=>(M.ok ()).bind fun w4=>M.ok (a3,w4)).bind fun z5=>M.ok ((fS,z5.1.1),z5.1.2))) (e:=(bo D.str D.str)) (JJ (sn (bQ (R':=R) (post:=(Er (oL D.str) _ S)) (ag (sv (dS (a:=ay) rfl)) aq) (.d .nil) rfl (yj (ay:=ay) hr hw) (fun _=>rfl)) (fun v=>cK _ v.1))) rfl (fun fS c2=>⟨cm,lC,(vm (Ev.map (fun(z5:(List Nat×List Int)×Unit)=>((fS,z5.1.1),z5.1.2)) (pE (bo D.str D.str) _ S) (gO (ag (sv (aw (a:=fS) (e:=D.str) rfl)) (aW (sv (bQ (R':=R) (post:=(pE D.str _ S)) (ag (sv (dS (a:=c2) rfl)) aq) (.d .nil) rfl (zg (ay:=c2) hr hw) (fun _=>rfl))) fun a3=>aq)) (fun _=>(.d (.d .nil))) (fun _=>rfl) (fun _=>rfl)) fun _=>rfl))⟩) (fun _=>by(repeat' (first | exact trivial | refine And.intro rfl ?_))) (fun _=>by(repeat' (first | exact trivial | refine And.intro rfl ?_)))) fun _=>rfl)))
def cT(ax:List Int)(ay:List Int):M (Int×List Int):=(nox (cL ay)).bind fun one1=>(ot (cy ax (none:Option Int) (some (63:Int))) [one1.1]).bind fun mG=>((((((lS (one1.1/(4:Int)) (mG.length:Int)).bind fun a3=>d7 mG a3).bind fun a4=>(yA (10:Int) (60:Int)).bind fun a5=>lS a4 a5).bind fun a6=>(((yA (10:Int) (59:Int)).bind fun a7=>M.ok (a7+one1.1)).bind fun a8=>(M.ok ()).bind fun w9=>M.ok (a8,w9)).bind fun w10=>M.ok (a6,w10)).bind fun z11=>M.ok [((one1.1/(4:Int))%(10:Int)),((one1.1/(4:Int))%(4:Int)),z11.1,z11.2.1]).bind fun a12=>d7 a12 (one1.1%(4:Int))).bind fun v13=>M.ok ((v13,one1.2))
theorem il{R:List Ob→Prop}{S:(List Int)→List Ob}{n:Nat}(hr:∀ d,(S d)[n]? =some ((oL D.int) d))(hw:∀ d d',(S d).set n ((oL D.int) d')=S d'){ax:List Int}{ay:List Int}:cx R bT [.d ((eL D.int) ax),.r n] (S ay) (cT ax ay) (fun v=>(.val (.d (D.int v.1)),S v.2)):=(di (aO (fun one1=>[some (.v (.d ((eL D.int) ax))),some (.v (.r n)),some (.v (.d (D.int one1.1))),none]) (dB (bQ (R':=R) (post:=(pE D.int _ S)) (ag (sv (dS (a:=ay) rfl)) aq) (.d .nil) rfl (hG (ay:=ay) hr hw) (fun _=>rfl))) (fun _=>rfl) fun one1=>(aO (fun mG=>[some (.v (.d ((eL D.int) ax))),some (.v (.r n)),some (.v (.d (D.int one1.1))),some (.own ((oL D.int) mG))]) (tW (aK (sn (qJ (sv (aw (a:=ax) (e:=(eL D.int)) rfl)) pn (pe (sv (cD D.int (63:Int)))) (HF e6)) (fun v=>cK _ v)) (sn (Ev.b9 (post2:=(pN (oL D.int) _ _)) (cO (l:=fun _=>([one1.1]:List Int)) (e:=D.int) (ag (sv (aw (a:=one1.1) (e:=D.int) rfl)) aq) (fun _=>(.d .nil)) (fun _=>rfl) (fun _=>rfl)) rfl) (fun v=>cK _ v)) (add_l e6 e6))) (fun _=>rfl) fun mG=>(bD (iU (φ:=fun v13=>(v13,one1.2)) (cJ (sn (Ev.map (fun(z11:Int×(Int×Unit))=>[((one1.1/(4:Int))%(10:Int)),((one1.1/(4:Int))%(4:Int)),z11.1,z11.2.1]) (pN (oL D.int) _ _) (cO (l:=fun z11=>([((one1.1/(4:Int))%(10:Int)),((one1.1/(4:Int))%(4:Int)),z11.1,z11.2.1]:List Int)) (e:=D.int) (ag (sv (aK (sv (aK (sv (aw (a:=one1.1) (e:=D.int) rfl)) (sv (cD D.int (4:Int))) (iR (a:=one1.1) (b:=(4:Int)) (oo (by decide) (by decide))))) (sv (cD D.int (10:Int))) (e8 (a:=(one1.1/(4:Int))) (b:=(10:Int)) (by decide)))) (ag (sv (aK (sv (aK (sv (aw (a:=one1.1) (e:=D.int) rfl)) (sv (cD D.int (4:Int))) (iR (a:=one1.1) (b:=(4:Int)) (oo (by decide) (by decide))))) (sv (cD D.int (4:Int))) (e8 (a:=(one1.1/(4:Int))) (b:=(4:Int)) (by decide)))) (aW (sv (yc (sv (mf (hU (ie (a:=mG) rfl)) (sv (aK (sv (aK (sv (aw (a:=one1.1) (e:=D.int) rfl)) (sv (cD D.int (4:Int))) (iR (a:=one1.1) (b:=(4:Int)) (oo (by decide) (by decide))))) (sv (dr (ag (hU (ie (a:=mG) rfl)) aq) (ui (gv rfl)))) tV)) fun a3=>(nG (gv rfl)))) (fun a4=>(sv (aK (sv (cD D.int (10:Int))) (sv (cD D.int (60:Int))) D1))) fun a4 a5=>tV)) fun a6=>(aW (sv (cJ (sv (aK (sv (cD D.int (10:Int))) (sv (cD D.int (59:Int))) D1)) (fun a7=>(sv (aw (a:=one1.1) (e:=D.int) rfl))) fun a7=>iu)) fun a8=>aq)))) (fun _=>(.d (.d (.d (.d .nil))))) (fun _=>rfl) (fun _=>rfl)) fun _=>rfl) (fun v=>cK _ v)) (fun a12=>(sv (aK (sv (aw (a:=one1.1) (e:=D.int) rfl)) (sv (cD D.int (4:Int))) (e8 (a:=one1.1) (b:=(4:Int)) (by decide))))) fun a12=>(nG e6)) fun _=>rfl)))))
def nv(ax:List Int)(ay:List Int):M (D×List Int):=(nox (cL ay)).bind fun bY=>(d7 [(sS "put"),(sS "change"),(sS "take"),(sS "stamp"),(sS "drop"),(sS "seal"),(sS "pour"),(sS "thin"),(sS "pack"),(sS "put"),(sS "change")] (bY.1%(11:Int))).bind fun cE=>(if(eqB cE (sS "put"))=true then(((((nox (dA bY.2)).bind fun v=>M.ok ((eL (bo D.str D.str)) v.1,v.2)).bind fun a3=>(M.ok ()).bind fun w4=>M.ok (a3,w4)).bind fun z5=>M.ok ((D.tup [(D.str cE),z5.1.1]),z5.1.2)).bind fun v6=>M.ok (v6))else((if(eqB cE (sS "change"))=true then(((((nox (cT ax bY.2)).bind fun v=>M.ok (D.int v.1,v.2)).bind fun a7=>(((nox (dA a7.2)).bind fun v=>M.ok ((eL (bo D.str D.str)) v.1,v.2)).bind fun a8=>(M.ok ()).bind fun w9=>M.ok (a8,w9)).bind fun w10=>M.ok (a7,w10)).bind fun z11=>M.ok ((D.tup [(D.str cE),z11.1.1,z11.2.1.1]),z11.2.1.2)).bind fun v12=>M.ok (v12))else((if(i8 cE [(sS "stamp"),(sS "seal"),(sS "thin")])=true then(M.ok (((D.tup [(D.str cE)]),bY.2)))else((if(eqB cE (sS "pour"))=true then(((((nox (cT ax bY.2)).bind fun v=>M.ok (D.int v.1,v.2)).bind fun a13=>(((nox (cT ax a13.2)).bind fun v=>M.ok (D.int v.1,v.2)).bind fun a14=>(M.ok ()).bind fun w15=>M.ok (a14,w15)).bind fun w16=>M.ok (a13,w16)).bind fun z17=>M.ok ((D.tup [(D.str cE),z17.1.1,z17.2.1.1]),z17.2.1.2)).bind fun v18=>M.ok (v18))else(((((nox (cT ax bY.2)).bind fun v=>M.ok (D.int v.1,v.2)).bind fun a19=>(M.ok ()).bind fun w20=>M.ok (a19,w20)).bind fun z21=>M.ok ((D.tup [(D.str cE),z21.1.1]),z21.1.2)).bind fun v22=>M.ok (v22)))))))))
theorem ze{R:List Ob→Prop}{S:(List Int)→List Ob}{n:Nat}(hr:∀ d,(S d)[n]? =some ((oL D.int) d))(hw:∀ d d',(S d).set n ((oL D.int) d')=S d'){ax:List Int}{ay:List Int}:cx R gh [.d ((eL D.int) ax),.r n] (S ay) (nv ax ay) (fun v=>(.val (.d (eY v.1)),S v.2)):=(di (aO (fun bY=>[some (.v (.d ((eL D.int) ax))),some (.v (.r n)),some (.v (.d (D.int bY.1))),none]) (dB (bQ (R':=R) (post:=(pE D.int _ S)) (ag (sv (dS (a:=ay) rfl)) aq) (.d .nil) rfl (hG (ay:=ay) hr hw) (fun _=>rfl))) (fun _=>rfl) fun bY=>(aO (fun cE=>[some (.v (.d ((eL D.int) ax))),some (.v (.r n)),some (.v (.d (D.int bY.1))),some (.v (.d (D.str cE)))]) (dB (aK (sn (Ev.b9 (post2:=(pN (oL D.str) _ _)) (cO (l:=fun _=>([(sS "put"),(sS "change"),(sS "take"),(sS "stamp"),(sS "drop"),(sS "seal"),(sS "pour"),(sS "thin"),(sS "pack"),(sS "put"),(sS "change")]:List (List Nat))) (e:=D.str) (ag (sv (cD D.str (sS "put"))) (ag (sv (cD D.str (sS "change"))) (ag (sv (cD D.str (sS "take"))) (ag (sv (cD D.str (sS "stamp"))) (ag (sv (cD D.str (sS "drop"))) (ag (sv (cD D.str (sS "seal"))) (ag (sv (cD D.str (sS "pour"))) (ag (sv (cD D.str (sS "thin"))) (ag (sv (cD D.str (sS "pack"))) (ag (sv (cD D.str (sS "put"))) (ag (sv (cD D.str (sS "change"))) aq))))))))))) (fun _=>(.d (.d (.d (.d (.d (.d (.d (.d (.d (.d (.d .nil)))))))))))) (fun _=>rfl) (fun _=>rfl)) rfl) (fun v=>cK _ v)) (sv (aK (sv (aw (a:=bY.1) (e:=D.int) rfl)) (sv (cD D.int (11:Int))) (e8 (a:=bY.1) (b:=(11:Int)) (by decide)))) (nG e6))) (fun _=>rfl) fun cE=>(jd (jm (sv (aK (sv (aw (a:=cE) (e:=D.str) rfl)) (sv (cD D.str (sS "put"))) (ia bx bx qS (by decide))))) (bD (iU (φ:=fun v6=>v6) (Ev.map (fun(z5:(D×List Int)×Unit)=>((D.tup [(D.str cE),z5.1.1]),z5.1.2)) (pE eY _ S) (gO (ag (sv (toY (aw (a:=cE) (e:=D.str) rfl))) (aW (Ev.map (fun v=>((eL (bo D.str D.str)) v.1,v.2)) (pE eY _ S) (sn (bQ (R':=R) (post:=(Er (oL (bo D.str D.str)) _ S)) (ag (sv (dS (a:=bY.2) rfl)) aq) (.d .nil) rfl (m9 (ay:=bY.2) hr hw) (fun _=>rfl)) (fun v=>cK _ v.1)) fun _=>rfl) fun a3=>aq)) (fun _=>(.d (.d .nil))) (fun _=>rfl) (fun _=>rfl)) fun _=>rfl) fun _=>rfl)) (jd (jm (sv (aK (sv (aw (a:=cE) (e:=D.str) rfl)) (sv (cD D.str (sS "change"))) (ia bx bx qS (by decide))))) (bD (iU (φ:=fun v12=>v12) (Ev.map (fun(z11:(D×List Int)×((D×List Int)×Unit))=>((D.tup [(D.str cE),z11.1.1,z11.2.1.1]),z11.2.1.2)) (pE eY _ S) (gO (ag (sv (toY (aw (a:=cE) (e:=D.str) rfl))) (aW (sv (Ev.map (fun v=>(D.int v.1,v.2)) (pE eY _ S) (bQ (R':=R) (post:=(pE D.int _ S)) (ag (sv (aw (a:=ax) (e:=(eL D.int)) rfl)) (ag (sv (dS (a:=bY.2) rfl)) aq)) (.d (.d .nil)) rfl (il (ax:=ax) (ay:=bY.2) hr hw) (fun _=>rfl)) fun _=>rfl)) fun a7=>(aW (Ev.map (fun v=>((eL (bo D.str D.str)) v.1,v.2)) (pE eY _ S) (sn (bQ (R':=R) (post:=(Er (oL (bo D.str D.str)) _ S)) (ag (sv (dS (a:=a7.2) rfl)) aq) (.d .nil) rfl (m9 (ay:=a7.2) hr hw) (fun _=>rfl)) (fun v=>cK _ v.1)) fun _=>rfl) fun a8=>aq))) (fun _=>(.d (.d (.d .nil)))) (fun _=>rfl) (fun _=>rfl)) fun _=>rfl) fun _=>rfl)) (jd (jm (sv (aK (sv (aw (a:=cE) (e:=D.str) rfl)) (sn (Ev.b9 (post2:=(pN (oL D.str) _ _)) (cO (l:=fun _=>([(sS "stamp"),(sS "seal"),(sS "thin")]:List (List Nat))) (e:=D.str) (ag (sv (cD D.str (sS "stamp"))) (ag (sv (cD D.str (sS "seal"))) (ag (sv (cD D.str (sS "thin"))) aq))) (fun _=>(.d (.d (.d .nil)))) (fun _=>rfl) (fun _=>rfl)) rfl) (fun v=>cK _ v)) (DB bx e6 qS (by decide))))) (bD (oH (Ev.b9 (post2:=(pD eY _ _)) (gO (ag (sv (toY (aw (a:=cE) (e:=D.str) rfl))) aq) (fun _=>(.d .nil)) (fun _=>rfl) (fun _=>rfl)) rfl) rfl)) (jd (jm (sv (aK (sv (aw (a:=cE) (e:=D.str) rfl)) (sv (cD D.str (sS "pour"))) (ia bx bx qS (by decide))))) (bD (iU (φ:=fun v18=>v18) (Ev.map (fun(z17:(D×List Int)×((D×List Int)×Unit))=>((D.tup [(D.str cE),z17.1.1,z17.2.1.1]),z17.2.1.2)) (pE eY _ S) (gO (ag (sv (toY (aw (a:=cE) (e:=D.str) rfl))) (aW (sv (Ev.map (fun v=>(D.int v.1,v.2)) (pE eY _ S) (bQ (R':=R) (post:=(pE D.int _ S)) (ag (sv (aw (a:=ax) (e:=(eL D.int)) rfl)) (ag (sv (dS (a:=bY.2) rfl)) aq)) (.d (.d .nil)) rfl (il (ax:=ax) (ay:=bY.2) hr hw) (fun _=>rfl)) fun _=>rfl)) fun a13=>(aW (sv (Ev.map (fun v=>(D.int v.1,v.2)) (pE eY _ S) (bQ (R':=R) (post:=(pE D.int _ S)) (ag (sv (aw (a:=ax) (e:=(eL D.int)) rfl)) (ag (sv (dS (a:=a13.2) rfl)) aq)) (.d (.d .nil)) rfl (il (ax:=ax) (ay:=a13.2) hr hw) (fun _=>rfl)) fun _=>rfl)) fun a14=>aq))) (fun _=>(.d (.d (.d .nil)))) (fun _=>rfl) (fun _=>rfl)) fun _=>rfl) fun _=>rfl)) (bD (iU (φ:=fun v22=>v22) (Ev.map (fun(z21:(D×List Int)×Unit)=>((D.tup [(D.str cE),z21.1.1]),z21.1.2)) (pE eY _ S) (gO (ag (sv (toY (aw (a:=cE) (e:=D.str) rfl))) (aW (sv (Ev.map (fun v=>(D.int v.1,v.2)) (pE eY _ S) (bQ (R':=R) (post:=(pE D.int _ S)) (ag (sv (aw (a:=ax) (e:=(eL D.int)) rfl)) (ag (sv (dS (a:=bY.2) rfl)) aq)) (.d (.d .nil)) rfl (il (ax:=ax) (ay:=bY.2) hr hw) (fun _=>rfl)) fun _=>rfl)) fun a19=>aq)) (fun _=>(.d (.d .nil))) (fun _=>rfl) (fun _=>rfl)) fun _=>rfl) fun _=>rfl)))))))))
def nr(bJ:D):M ((List Nat)):=((m6 bJ (0:Int)).bind js).bind fun oK=>(((mJ bJ (some (1:Int)) (none:Option Int)).bind jN).bind fun a2=>foldM (fun(c3:List Nat) (one4:D)=>((((M.ok one4).bind nI).bind fun b5=>if b5=true then(((bw c3 (sS " ")).bind fun a45=>((((M.ok one4).bind pq).bind fun a46=>(M.ok ()).bind fun w47=>M.ok (a46,w47)).bind fun z48=>o6 z48.1).bind fun a49=>bw a45 a49).bind fun ke=>M.ok ke)else((((oO one4 ((eL eY) ([]:List D))).bind fun b51=>if b51=true then((bw c3 (sS " none")).bind fun kf=>M.ok kf)else((((M.ok one4).bind (tP (mw js js))).bind fun a69=>foldM (fun(c70:List Nat) (bN:List Nat×List Nat)=>(((bw c70 (sS " ")).bind fun a72=>bw a72 bN.1).bind fun a73=>bw a73 (sS ":'")).bind fun g0=>(foldM (fun(c75:List Nat) (cS:List Nat)=>((bw c75 cS).bind fun a77=>(d7 [(sS ""),(sS "'")] (if(eqB cS (sS "'"))=true then(1:Int)else 0)).bind fun a78=>bw a77 a78).bind fun f7=>M.ok f7) g0 (chars bN.2)).bind fun r80=>(bw r80 (sS "'")).bind fun ij=>M.ok ij) c3 a69).bind fun r82=>M.ok r82)):M (List Nat)).bind fun j67=>M.ok j67)):M (List Nat)).bind fun j44=>M.ok j44) oK a2).bind fun r83=>M.ok (r83)
theorem zb{R:List Ob→Prop}{σ:List Ob}{bJ:D}:cx R gp [.d (eY bJ)] σ (nr bJ) (fun v=>(.val (.d (D.str v)),σ)):=(di (aO (fun oK=>[some (.v (.d (eY bJ))),some (.v (.d (D.str oK))),none,none,none,none]) (dB (z6 (aK (sv (aw (a:=bJ) (e:=eY) rfl)) (sv (cD D.int (0:Int))) Gk) qF uu)) (fun _=>rfl) fun oK=>(iB (mW (P:=fun(c3:List Nat)=>[some (.v (.d (eY bJ))),some (.v (.d (D.str c3))),none,none,none,none]) (S:=fun(c3:List Nat)=>σ) (lA:=(fun(a2:List D)=>a2)) (c0:=fun(a2:List D)=>oK) (mb:=(fun(c3:List Nat) (one4:D)=>((((M.ok one4).bind nI).bind fun b5=>if b5=true then(((bw c3 (sS " ")).bind fun a45=>((((M.ok one4).bind pq).bind fun a46=>(M.ok ()).bind fun w47=>M.ok (a46,w47)).bind fun z48=>o6 z48.1).bind fun a49=>bw a45 a49).bind fun ke=>M.ok ke)else((((oO one4 ((eL eY) ([]:List D))).bind fun b51=>if b51=true then((bw c3 (sS " none")).bind fun kf=>M.ok kf)else((((M.ok one4).bind (tP (mw js js))).bind fun a69=>foldM (fun(c70:List Nat) (bN:List Nat×List Nat)=>(((bw c70 (sS " ")).bind fun a72=>bw a72 bN.1).bind fun a73=>bw a73 (sS ":'")).bind fun g0=>(foldM (fun(c75:List Nat) (cS:List Nat)=>((bw c75 cS).bind fun a77=>(d7 [(sS ""),(sS "'")] (if(eqB cS (sS "'"))=true then(1:Int)else 0)).bind fun a78=>bw a77 a78).bind fun f7=>M.ok f7) g0 (chars bN.2)).bind fun r80=>(bw r80 (sS "'")).bind fun ij=>M.ok ij) c3 a69).bind fun r82=>M.ok r82)):M (List Nat)).bind fun j67=>M.ok j67)):M (List Nat)).bind fun j44=>M.ok j44)) (uN (sv (qJ (sv (aw (a:=bJ) (e:=eY) rfl)) (pe (sv (cD D.int (1:Int)))) pn Hj))) (fun _=>by(repeat' (first | exact trivial | refine And.intro rfl ?_))) (fun _=>rfl) (fun c3 one4=>cm) (fun c3 one4=>(xc (b:=fun v=>v) (Pc:=fun(j44:List Nat)=>[some (.v (.d (eY bJ))),some (.v (.d (D.str j44))),some (.v (.d (eY one4))),none,none,none]) (Sc:=fun(j44:List Nat)=>σ) (tB (b:=fun v=>v) (sv (Hn (sv (aw (a:=one4) (e:=eY) rfl))))) (fun b5=>(aO (fun ke=>[some (.v (.d (eY bJ))),some (.v (.d (D.str ke))),some (.v (.d (eY one4))),none,none,none]) (dB (yc (sv (aK (sv (aw (a:=c3) (e:=D.str) rfl)) (sv (cD D.str (sS " "))) gA)) (fun a45=>(sv (tw (aW (sv (z6 (aw (a:=one4) (e:=eY) rfl) Em Ho)) fun a46=>aq) fun z48=>Eb))) fun a45 a49=>gA)) (fun _=>rfl) fun ke=>(mr rfl (by(repeat' (first | exact trivial | refine And.intro rfl ?_)))))) (fun b5=>(xc (b:=fun v=>v) (Pc:=fun(j67:List Nat)=>[some (.v (.d (eY bJ))),some (.v (.d (D.str j67))),some (.v (.d (eY one4))),none,none,none]) (Sc:=fun(j67:List Nat)=>σ) (tB (b:=fun v=>v) (sv (aK (sv (aw (a:=one4) (e:=eY) rfl)) (sn (Ev.b9 (post2:=(pN (oL eY) _ _)) (cO (l:=fun _=>([]:List D)) (e:=eY) aq (fun _=>.nil) (fun _=>rfl) (fun _=>rfl)) rfl) (fun v=>cK _ v)) (LF bx bx)))) (fun b51=>(aO (fun kf=>[some (.v (.d (eY bJ))),some (.v (.d (D.str kf))),some (.v (.d (eY one4))),none,none,none]) (dB (aK (sv (aw (a:=c3) (e:=D.str) rfl)) (sv (cD D.str (sS " none"))) gA)) (fun _=>rfl) fun kf=>(mr rfl (by(repeat' (first | exact trivial | refine And.intro rfl ?_)))))) (fun b51=>(iB (mW (P:=fun(c70:List Nat)=>[some (.v (.d (eY bJ))),some (.v (.d (D.str c70))),some (.v (.d (eY one4))),none,none,none]) (S:=fun(c70:List Nat)=>σ) (lA:=(fun(a69:List (List Nat×List Nat))=>a69)) (c0:=fun(a69:List (List Nat×List Nat))=>c3) (mb:=(fun(c70:List Nat) (bN:List Nat×List Nat)=>(((bw c70 (sS " ")).bind fun a72=>bw a72 bN.1).bind fun a73=>bw a73 (sS ":'")).bind fun g0=>(foldM (fun(c75:List Nat) (cS:List Nat)=>((bw c75 cS).bind fun a77=>(d7 [(sS ""),(sS "'")] (if(eqB cS (sS "'"))=true then(1:Int)else 0)).bind fun a78=>bw a77 a78).bind fun f7=>M.ok f7) g0 (chars bN.2)).bind fun r80=>(bw r80 (sS "'")).bind fun ij=>M.ok ij)) (DD (sv (z6 (aw (a:=one4) (e:=eY) rfl) (Eo (BH qF qF)) (GF (EH uu uu))))) (fun _=>by(repeat' (first | exact trivial | refine And.intro rfl ?_))) (fun _=>rfl) (fun c70 bN=>(vd rfl rfl (gD cm (gD cm qP)))) (fun c70 bN=>(aO (fun g0=>[some (.v (.d (eY bJ))),some (.v (.d (D.str g0))),some (.v (.d (eY one4))),some (.v (.d (D.str bN.1))),some (.v (.d (D.str bN.2))),none]) (dB (cJ (sv (cJ (sv (aK (sv (aw (a:=c70) (e:=D.str) rfl)) (sv (cD D.str (sS " "))) gA)) (fun a72=>(sv (aw (a:=bN.1) (e:=D.str) rfl))) fun a72=>gA)) (fun a73=>(sv (cD D.str (sS ":'")))) fun a73=>gA)) (fun _=>rfl) fun g0=>(iB (yH (P:=fun(c75:List Nat)=>[some (.v (.d (eY bJ))),some (.v (.d (D.str c75))),some (.v (.d (eY one4))),some (.v (.d (D.str bN.1))),some (.v (.d (D.str bN.2))),none]) (S:=fun(c75:List Nat)=>σ) (c0:=g0) (mb:=(fun(c75:List Nat) (cS:List Nat)=>((bw c75 cS).bind fun a77=>(d7 [(sS ""),(sS "'")] (if(eqB cS (sS "'"))=true then(1:Int)else 0)).bind fun a78=>bw a77 a78).bind fun f7=>M.ok f7)) (Bb (sv (aw (a:=bN.2) (e:=D.str) rfl))) (by(repeat' (first | exact trivial | refine And.intro rfl ?_))) rfl (fun c75 cS=>cm) (fun c75 cS=>(aO (fun f7=>[some (.v (.d (eY bJ))),some (.v (.d (D.str f7))),some (.v (.d (eY one4))),some (.v (.d (D.str bN.1))),some (.v (.d (D.str bN.2))),some (.v (.d (D.str cS)))]) (dB (yc (sv (aK (sv (aw (a:=c75) (e:=D.str) rfl)) (sv (aw (a:=cS) (e:=D.str) rfl)) gA)) (fun a77=>(sv (aK (sn (Ev.b9 (post2:=(pN (oL D.str) _ _)) (cO (l:=fun _=>([(sS ""),(sS "'")]:List (List Nat))) (e:=D.str) (ag (sv (cD D.str (sS ""))) (ag (sv (cD D.str (sS "'"))) aq)) (fun _=>(.d (.d .nil))) (fun _=>rfl) (fun _=>rfl)) rfl) (fun v=>cK _ v)) (sv (dr (ag (sv (aK (sv (aw (a:=cS) (e:=D.str) rfl)) (sv (cD D.str (sS "'"))) (ia bx bx qS (by decide)))) aq) AR)) (nG e6)))) fun a77 a78=>gA)) (fun _=>rfl) fun f7=>(hZ rfl (by(repeat' (first | exact trivial | refine And.intro rfl ?_))))))) fun r80=>(aO (fun ij=>[some (.v (.d (eY bJ))),some (.v (.d (D.str ij))),some (.v (.d (eY one4))),some (.v (.d (D.str bN.1))),some (.v (.d (D.str bN.2))),none]) (dB (aK (sv (aw (a:=r80) (e:=D.str) rfl)) (sv (cD D.str (sS "'"))) gA)) (fun _=>rfl) fun ij=>(hZ rfl (by(repeat' (first | exact trivial | refine And.intro rfl ?_))))))))) fun r82=>(mr rfl (by(repeat' (first | exact trivial | refine And.intro rfl ?_)))))) fun j67=>(mr rfl (by(repeat' (first | exact trivial | refine And.intro rfl ?_)))))) fun j44=>(hZ rfl (by(repeat' (first | exact trivial | refine And.intro rfl ?_))))))) fun r83=>(bD (oH (aw (a:=r83) (e:=D.str) rfl) rfl)))))
def ff(n5:List Nat)(aG:List Nat):M ((List Nat)):=(((bw n5 (sS ":'")).bind fun a1=>(xm aG (sS "'") (sS "''")).bind fun a2=>bw a1 a2).bind fun a3=>bw a3 (sS "'")).bind fun v4=>M.ok (v4)
theorem xA{R:List Ob→Prop}{σ:List Ob}{n5:List Nat}{aG:List Nat}:cx R gX [.d (D.str n5),.d (D.str aG)] σ (ff n5 aG) (fun v=>(.val (.d (D.str v)),σ)):=(di (bD (iU (φ:=fun v4=>v4) (cJ (sv (yc (sv (aK (sv (aw (a:=n5) (e:=D.str) rfl)) (sv (cD D.str (sS ":'"))) gA)) (fun a1=>(sv (JO (i:=1) rfl))) fun a1 a2=>gA)) (fun a3=>(sv (cD D.str (sS "'")))) fun a3=>gA) fun _=>rfl)))
def eV(bj:List (List Nat×List Nat)):M ((List Nat)):=(if(eqB (bj.length:Int) (0:Int))=true then(M.ok ((sS "none")))else((((dH (fun(bc:List Nat×List Nat)=>M.ok true) (fun(bc:List Nat×List Nat)=>nox (ff bc.1 bc.2)) bj).bind fun a2=>(M.ok ()).bind fun w3=>M.ok (a2,w3)).bind fun z4=>joinM (sS " ") z4.1).bind fun v5=>M.ok (v5)))
theorem ue{R:List Ob→Prop}{σ:List Ob}{bj:List (List Nat×List Nat)}:cx R eT [.d ((eL (bo D.str D.str)) bj)] σ (eV bj) (fun v=>(.val (.d (D.str v)),σ)):=(di (jd (jm (sv (aK (sv (dr (ag (sv (aw (a:=bj) (e:=(eL (bo D.str D.str))) rfl)) aq) (ui e6))) (sv (cD D.int (0:Int))) (ia bx bx qI (by decide))))) (bD (oH (cD D.str (sS "none")) rfl)) (bD (iU (φ:=fun v5=>v5) (m3 (sv (cD D.str (sS " "))) (fun _ _=>rfl) (aW (sn (xj (q:=[some (.v (.d ((eL (bo D.str D.str)) bj))),none,none]) (p2:=fun(bc:List Nat×List Nat)=>[some (.v (.d ((eL (bo D.str D.str)) bj))),some (.v (.d (D.str bc.1))),some (.v (.d (D.str bc.2)))]) (p3:=fun(bc:List Nat×List Nat)=>[some (.v (.d ((eL (bo D.str D.str)) bj))),some (.v (.d (D.str bc.1))),some (.v (.d (D.str bc.2)))]) (mt:=(fun(bc:List Nat×List Nat)=>M.ok true)) (me:=(fun(bc:List Nat×List Nat)=>nox (ff bc.1 bc.2))) (e:=D.str) (DD (sv (aw (a:=bj) (e:=(eL (bo D.str D.str))) rfl))) rfl (fun(bc:List Nat×List Nat)=>⟨(vd rfl rfl (gD cm (gD cm qP))),lC,(vm (bQ (R':=R) (post:=(pD D.str _ _)) (ag (sv (aw (a:=bc.1) (e:=D.str) rfl)) (ag (sv (aw (a:=bc.2) (e:=D.str) rfl)) aq)) (.d (.d .nil)) rfl (xA (n5:=bc.1) (aG:=bc.2)) (fun _=>rfl)))⟩) (fun _=>by(repeat' (first | exact trivial | refine And.intro rfl ?_))) (fun _=>by(repeat' (first | exact trivial | refine And.intro rfl ?_)))) (fun v=>cK _ v)) fun a2=>aq) fun z4=>(tH e6)) fun _=>rfl))))
def ny(bJ:D):M ((List Nat)):=((((m6 bJ (0:Int)).bind js).bind fun a1=>(M.ok ()).bind fun w2=>M.ok (a1,w2)).bind fun z3=>M.ok [z3.1]).bind fun qz=>(((mJ bJ (some (1:Int)) (none:Option Int)).bind jN).bind fun a5=>foldM (fun(c6:List (List Nat)) (one7:D)=>((((M.ok one7).bind iZ).bind fun b8=>if b8=true then(((((((M.ok one7).bind (tP (mw js js))).bind fun a24=>(M.ok ()).bind fun w25=>M.ok (a24,w25)).bind fun z26=>nox (eV z26.1)).bind fun a27=>(M.ok ()).bind fun w28=>M.ok (a27,w28)).bind fun z29=>eX c6 z29.1).bind fun lx=>M.ok lx)else(((((((M.ok one7).bind pq).bind fun a31=>(M.ok ()).bind fun w32=>M.ok (a31,w32)).bind fun z33=>o6 z33.1).bind fun a34=>(M.ok ()).bind fun w35=>M.ok (a34,w35)).bind fun z36=>eX c6 z36.1).bind fun ly=>M.ok ly)):M (List (List Nat))).bind fun j23=>M.ok j23) qz a5).bind fun r38=>(joinM (sS " ") r38).bind fun v39=>M.ok (v39)
theorem zc{R:List Ob→Prop}{σ:List Ob}{bJ:D}:cx R gc [.d (eY bJ)] σ (ny bJ) (fun v=>(.val (.d (D.str v)),σ)):=(di (aO (fun qz=>[some (.v (.d (eY bJ))),some (.own ((oL D.str) qz)),none]) (tW (Ev.map (fun(z3:List Nat×Unit)=>[z3.1]) (pN (oL D.str) _ _) (cO (l:=fun z3=>([z3.1]:List (List Nat))) (e:=D.str) (aW (sv (z6 (aK (sv (aw (a:=bJ) (e:=eY) rfl)) (sv (cD D.int (0:Int))) Gk) qF uu)) fun a1=>aq) (fun _=>(.d .nil)) (fun _=>rfl) (fun _=>rfl)) fun _=>rfl)) (fun _=>rfl) fun qz=>(iB (mW (P:=fun(c6:List (List Nat))=>[some (.v (.d (eY bJ))),some (.own ((oL D.str) c6)),none]) (S:=fun(c6:List (List Nat))=>σ) (lA:=(fun(a5:List D)=>a5)) (c0:=fun(a5:List D)=>qz) (mb:=(fun(c6:List (List Nat)) (one7:D)=>((((M.ok one7).bind iZ).bind fun b8=>if b8=true then(((((((M.ok one7).bind (tP (mw js js))).bind fun a24=>(M.ok ()).bind fun w25=>M.ok (a24,w25)).bind fun z26=>nox (eV z26.1)).bind fun a27=>(M.ok ()).bind fun w28=>M.ok (a27,w28)).bind fun z29=>eX c6 z29.1).bind fun lx=>M.ok lx)else(((((((M.ok one7).bind pq).bind fun a31=>(M.ok ()).bind fun w32=>M.ok (a31,w32)).bind fun z33=>o6 z33.1).bind fun a34=>(M.ok ()).bind fun w35=>M.ok (a34,w35)).bind fun z36=>eX c6 z36.1).bind fun ly=>M.ok ly)):M (List (List Nat))).bind fun j23=>M.ok j23)) (uN (sv (qJ (sv (aw (a:=bJ) (e:=eY) rfl)) (pe (sv (cD D.int (1:Int)))) pn Hj))) (fun _=>by(repeat' (first | exact trivial | refine And.intro rfl ?_))) (fun _=>rfl) (fun c6 one7=>cm) (fun c6 one7=>(xc (b:=fun v=>v) (Pc:=fun(j23:List (List Nat))=>[some (.v (.d (eY bJ))),some (.own ((oL D.str) j23)),some (.v (.d (eY one7)))]) (Sc:=fun(j23:List (List Nat))=>σ) (tB (b:=fun v=>v) (sv (HR (sv (aw (a:=one7) (e:=eY) rfl))))) (fun b8=>(aO (fun lx=>[some (.v (.d (eY bJ))),some (.own ((oL D.str) lx)),some (.v (.d (eY one7)))]) (jq (m3 (hU (ie (a:=c6) rfl)) (fun _ hf=>qk (gv rfl) hf) (aW (sv (Ag (R':=R) (post:=(pD D.str _ _)) (aW (sv (z6 (aw (a:=one7) (e:=eY) rfl) (Eo (BH qF qF)) (GF (EH uu uu)))) fun a24=>aq) (fun _=>(.d .nil)) (fun _=>rfl) (fun z26=>(ue (bj:=z26.1))) (fun _ _=>rfl))) fun a27=>aq) fun z29=>(qA rfl))) (fun _=>rfl) fun lx=>(mr rfl (by(repeat' (first | exact trivial | refine And.intro rfl ?_)))))) (fun b8=>(aO (fun ly=>[some (.v (.d (eY bJ))),some (.own ((oL D.str) ly)),some (.v (.d (eY one7)))]) (jq (m3 (hU (ie (a:=c6) rfl)) (fun _ hf=>qk (gv rfl) hf) (aW (sv (tw (aW (sv (z6 (aw (a:=one7) (e:=eY) rfl) Em Ho)) fun a31=>aq) fun z33=>Eb)) fun a34=>aq) fun z36=>(qA rfl))) (fun _=>rfl) fun ly=>(mr rfl (by(repeat' (first | exact trivial | refine And.intro rfl ?_)))))) fun j23=>(hZ rfl (by(repeat' (first | exact trivial | refine And.intro rfl ?_))))))) fun r38=>(bD (iU (φ:=fun v39=>v39) (l0 (sv (cD D.str (sS " "))) (fun _ _=>rfl) (ag (hU (ie (a:=r38) rfl)) aq) (tH (gv rfl))) fun _=>rfl)))))
def iN(aG:List Nat):M Bool:=(andM ((M.ok (0:Int)).bind fun a1=>(iF aG).bind fun a2=>if decide (a1<a2)=true then(M.ok (12:Int)).bind fun a3=>M.ok (decide (a2≤a3))else M.ok false) (((dH (fun(jk:List Nat)=>M.ok true) (fun(jk:List Nat)=>M.ok (subIn jk (sS "abcdefghijklmnopqrstuvwxyz"))) (chars aG)).bind fun a5=>(M.ok ()).bind fun w6=>M.ok (a5,w6)).bind fun z7=>M.ok (z7.1.all id))).bind fun v8=>M.ok (v8)
theorem Bp{R:List Ob→Prop}{σ:List Ob}{aG:List Nat}:cx R jZ [.d (D.str aG)] σ (iN aG) (fun v=>(.val (.d (D.bl v)),σ)):=(di (bD (iU (φ:=fun v8=>v8) (Ct (sv (Km (k1:=fun a b=>decide (a<b)) (k2:=fun a b=>decide (a≤b)) (sv (cD D.int (0:Int))) (fun _=>(sv (dr (ag (sv (aw (a:=aG) (e:=D.str) rfl)) aq) oa))) (fun _ _=>(sv (cD D.int (12:Int)))) (fun _ _=>A3) (fun _ _=>Hv))) (zp (sv (tw (aW (sn (xj (q:=[some (.v (.d (D.str aG))),none]) (p2:=fun(jk:List Nat)=>[some (.v (.d (D.str aG))),some (.v (.d (D.str jk)))]) (p3:=fun(jk:List Nat)=>[some (.v (.d (D.str aG))),some (.v (.d (D.str jk)))]) (mt:=(fun(jk:List Nat)=>M.ok true)) (me:=(fun(jk:List Nat)=>M.ok (subIn jk (sS "abcdefghijklmnopqrstuvwxyz")))) (e:=D.bl) (Bb (sv (aw (a:=aG) (e:=D.str) rfl))) rfl (fun(jk:List Nat)=>⟨cm,lC,(vm (aK (sv (aw (a:=jk) (e:=D.str) rfl)) (sv (cD D.str (sS "abcdefghijklmnopqrstuvwxyz"))) DG))⟩) (fun _=>by(repeat' (first | exact trivial | refine And.intro rfl ?_))) (fun _=>by(repeat' (first | exact trivial | refine And.intro rfl ?_)))) (fun v=>cK _ v)) fun a5=>aq) fun z7=>(JS e6))))) fun _=>rfl)))
def eG(bj:List (List Nat×List Nat)):M Unit:=(foldM (fun(c1:List Nat) (bV:Int×(List Nat×List Nat))=>(orM ((nox (iN bV.2.1)).bind fun v=>M.ok (!v)) (M.ok (!hX c1 bV.2.1))).bind fun b3=>if b3=true then((M.ok bV.1).bind fun a4=>M.exc ⟨"NoField",some (D.int a4)⟩)else(M.ok bV.2.1)) (sS "") (tA bj)).bind fun r5=>M.ok ()
theorem o7{R:List Ob→Prop}{σ:List Ob}(hR:R σ){bj:List (List Nat×List Nat)}:cx R dt [.d ((eL (bo D.str D.str)) bj)] σ (eG bj) (fun v=>(.val (.d (eN v)),σ)):=(DE (P:=fun _=>[none,none,none,none,none]) (jY [some (.v (.d ((eL (bo D.str D.str)) bj))),some (.v (.d (D.str (sS "")))),none,none,none] (dB (cD D.str (sS ""))) rfl (iB (yH (P:=fun(c1:List Nat)=>[some (.v (.d ((eL (bo D.str D.str)) bj))),some (.v (.d (D.str c1))),none,none,none]) (S:=fun(c1:List Nat)=>σ) (c0:=(sS "")) (mb:=(fun(c1:List Nat) (bV:Int×(List Nat×List Nat))=>(orM ((nox (iN bV.2.1)).bind fun v=>M.ok (!v)) (M.ok (!hX c1 bV.2.1))).bind fun b3=>if b3=true then((M.ok bV.1).bind fun a4=>M.exc ⟨"NoField",some (D.int a4)⟩)else(M.ok bV.2.1))) (HZ (sv (aw (a:=bj) (e:=(eL (bo D.str D.str))) rfl))) (by(repeat' (first | exact trivial | refine And.intro rfl ?_))) rfl (fun c1 bV=>(vd rfl rfl (gD cm (gD (vd rfl rfl (gD cm (gD cm qP))) qP)))) (fun c1 bV=>(DR (b:=fun v=>v) (An (Ir (tB (b:=fun v=>v) (sv (bQ (R':=R) (post:=(pD D.bl _ _)) (ag (sv (aw (a:=bV.2.1) (e:=D.str) rfl)) aq) (.d .nil) rfl (Bp (aG:=bV.2.1)) (fun _=>rfl))))) (AM (jm (sv (aK (sv (aw (a:=bV.2.1) (e:=D.str) rfl)) (sv (aw (a:=c1) (e:=D.str) rfl)) LN))))) (fun b3=>(bD (DN (sv (aw (a:=bV.1) (e:=D.int) rfl)) (fun _=>hR)))) (fun b3=>(jY [some (.v (.d ((eL (bo D.str D.str)) bj))),some (.v (.d (D.str bV.2.1))),some (.v (.d (D.int bV.1))),some (.v (.d (D.str bV.2.1))),some (.v (.d (D.str bV.2.2)))] (dB (aw (a:=bV.2.1) (e:=D.str) rfl)) rfl (hZ rfl (by(repeat' (first | exact trivial | refine And.intro rfl ?_))))))))) fun r5=>(mr (p':=[none,none,none,none,none]) rfl (by(repeat' (first | exact trivial | refine And.intro rfl ?_)))))) (fun _=>rfl))
def fW(jl:Bool):M Unit:=(if(!jl)=true then(M.exc ⟨"NoLine",none⟩)else(M.ok ()))
theorem n0{R:List Ob→Prop}{σ:List Ob}(hR:R σ){jl:Bool}:cx R dX [.d (D.bl jl)] σ (fW jl) (fun v=>(.val (.d (eN v)),σ)):=(DE (P:=fun _=>[none]) (jd (xC (jm (sv (aw (a:=jl) (e:=D.bl) rfl)))) (bD (FI hR)) (mr (p':=[none]) rfl (by(repeat' (first | exact trivial | refine And.intro rfl ?_))))) (fun _=>rfl))
def eZ(aG:List Nat):M Int:=(((andM ((M.ok (0:Int)).bind fun a1=>(iF aG).bind fun a2=>if decide (a1<a2)=true then(M.ok (60:Int)).bind fun a3=>M.ok (decide (a2≤a3))else M.ok false) (orM ((ic aG (0:Int)).bind fun a4=>M.ok (!(eqB a4 (sS "0")))) (M.ok (eqB aG (sS "0"))))).bind fun a5=>(M.ok ()).bind fun w6=>M.ok (a5,w6)).bind fun z7=>fW z7.1).bind fun u8=>(foldM (fun(c9:Unit) (kg:List Nat)=>(fW (subIn kg (sS "0123456789"))).bind fun u11=>M.ok ()) () (chars aG)).bind fun r12=>(yf aG).bind fun v13=>M.ok (v13)
theorem ru{R:List Ob→Prop}{σ:List Ob}(hR:R σ){aG:List Nat}:cx R eW [.d (D.str aG)] σ (eZ aG) (fun v=>(.val (.d (D.int v)),σ)):=(di (aO (fun u8=>[some (.v (.d (D.str aG))),none]) (jq (oj (post:=(pD eN _ _)) (aW (sv (Ct (sv (Km (k1:=fun a b=>decide (a<b)) (k2:=fun a b=>decide (a≤b)) (sv (cD D.int (0:Int))) (fun _=>(sv (dr (ag (sv (aw (a:=aG) (e:=D.str) rfl)) aq) oa))) (fun _ _=>(sv (cD D.int (60:Int)))) (fun _ _=>A3) (fun _ _=>Hv))) (zp (sv (IT (sv (cJ (sv (aK (sv (aw (a:=aG) (e:=D.str) rfl)) (sv (cD D.int (0:Int))) xT)) (fun a4=>(sv (cD D.str (sS "0")))) fun a4=>(DJ bx bx qS (by decide)))) (HI (sv (aK (sv (aw (a:=aG) (e:=D.str) rfl)) (sv (cD D.str (sS "0"))) (ia bx bx qS (by decide)))))))))) fun a5=>aq) (fun _=>(.d .nil)) (fun _=>rfl) (fun z7=>(n0 (jl:=z7.1) hR)) (fun _ _=>rfl))) (fun _=>rfl) fun u8=>(iB (yH (P:=fun(c9:Unit)=>[some (.v (.d (D.str aG))),none]) (S:=fun(c9:Unit)=>σ) (c0:=()) (mb:=(fun(c9:Unit) (kg:List Nat)=>(fW (subIn kg (sS "0123456789"))).bind fun u11=>M.ok ())) (Bb (sv (aw (a:=aG) (e:=D.str) rfl))) (by(repeat' (first | exact trivial | refine And.intro rfl ?_))) rfl (fun c9 kg=>cm) (fun c9 kg=>(aO (fun u11=>[some (.v (.d (D.str aG))),some (.v (.d (D.str kg)))]) (jq (j8 (post:=(pD eN _ _)) (ag (sv (aK (sv (aw (a:=kg) (e:=D.str) rfl)) (sv (cD D.str (sS "0123456789"))) DG)) aq) (.d .nil) rfl (n0 (jl:=(subIn kg (sS "0123456789"))) hR) (fun _=>rfl))) (fun _=>rfl) fun u11=>(hZ rfl (by(repeat' (first | exact trivial | refine And.intro rfl ?_))))))) fun r12=>(bD (iU (φ:=fun v13=>v13) (dr (ag (sv (aw (a:=aG) (e:=D.str) rfl)) aq) J3) fun _=>rfl)))))
end K33
namespace K33
open PySem L2 PyProof.Rows Vw
abbrev eo:List Nat×Int→Ob:=fun a=>.ins "FieldReader" [("line",.d (.str a.1)),("at",.d (.int a.2))]
def au(aF:List Nat×Int)(bB:Int):M ((List Nat)):=(Bn aF.1 (some aF.2) (some (aF.2+bB))).bind fun v1=>M.ok (v1)
theorem cc{R:List Ob→Prop}{σ:List Ob}{n:Nat}{aF:List Nat×Int}{bB:Int}(hk:σ[n]? =some (eo aF)):cx R bA [.r n,.d (D.int bB)] σ (au aF bB) (fun v=>(.val (.d (D.str v)),σ)):=(di (bD (iU (φ:=fun v1=>v1) (qJ (sv (gV (i:=0) (a:=aF.1) (e:=fun v=>.d (D.str v)) rfl hk rfl rfl)) (pe (sv (gV (i:=0) (a:=aF.2) (e:=fun v=>.d (D.int v)) rfl hk rfl rfl))) (pe (sv (aK (sv (gV (i:=0) (a:=aF.2) (e:=fun v=>.d (D.int v)) rfl hk rfl rfl)) (sv (aw (a:=bB) (e:=D.int) rfl)) iu))) Gq) fun _=>rfl)))
def aN(aF:List Nat×Int)(d9:List Nat):M (Unit×(List Nat×Int)):=((((((iF d9).bind fun a1=>(M.ok ()).bind fun w2=>M.ok (a1,w2)).bind fun z3=>nox (au aF z3.1)).bind fun a4=>M.ok (eqB a4 d9)).bind fun a5=>(M.ok ()).bind fun w6=>M.ok (a5,w6)).bind fun z7=>fW z7.1).bind fun u8=>((iF d9).bind fun a9=>M.ok (aF.1,(aF.2+a9))).bind fun d10=>M.ok ((),d10)
theorem eO{R:List Ob→Prop}{S:(List Nat×Int)→List Ob}{n:Nat}(hr:∀ d,(S d)[n]? =some (eo d))(hw:∀ d d',(S d).set n (eo d')=S d')(hR:∀ d,R (S d)){aF:List Nat×Int}{d9:List Nat}:cx R cG [.r n,.d (D.str d9)] (S aF) (aN aF d9) (fun v=>(.val (.d (eN v.1)),S v.2)):=(DE (P:=fun _=>[none,none]) (aO (fun u8=>[some (.v (.r n)),some (.v (.d (D.str d9)))]) (jq (oj (post:=(pD eN _ _)) (aW (sv (cJ (sv (Fu (R':=R) (post:=(pD D.str _ _)) (sv (dS (a:=aF) rfl)) (eQ (hr _) rfl) (aW (sv (dr (ag (sv (aw (a:=d9) (e:=D.str) rfl)) aq) oa)) fun a1=>aq) (fun _=>(.d .nil)) (fun _=>rfl) (fun z3=>(cc (aF:=aF) (bB:=z3.1) (hr _) )) (fun _ _=>rfl))) (fun a4=>(sv (aw (a:=d9) (e:=D.str) rfl))) fun a4=>(ia bx bx qS (by decide)))) fun a5=>aq) (fun _=>(.d .nil)) (fun _=>rfl) (fun z7=>(n0 (jl:=z7.1) (hR _))) (fun _ _=>rfl))) (fun _=>rfl) fun u8=>(aO (fun d10=>[some (.v (.r n)),some (.v (.d (D.str d9)))]) (xP (φ:=fun a9=>(aF.1,(aF.2+a9))) (S:=S) (a:=aF.2) rfl rfl (hr _) rfl rfl (sv (dr (ag (sv (aw (a:=d9) (e:=D.str) rfl)) aq) oa)) (fun a9=>hw _ (aF.1,(aF.2+a9)))) (fun _=>rfl) fun d10=>(mr (p':=[none,none]) rfl (by(repeat' (first | exact trivial | refine And.intro rfl ?_)))))) (fun _=>rfl))
def bK(aF:List Nat×Int):M (List Nat×(List Nat×Int)):=(nQ (fun(c1:List Nat×Int)=>andM ((iF c1.1).bind fun a2=>M.ok (decide (c1.2<a2))) ((ic c1.1 c1.2).bind fun a3=>M.ok (subIn a3 (sS "abcdefghijklmnopqrstuvwxyz")))) (fun(c1:List Nat×Int)=>((M.ok (1:Int)).bind fun a4=>M.ok (c1.1,(c1.2+a4))).bind fun d5=>M.ok d5) ip aF).bind fun r6=>(Bn r6.1 (some aF.2) (some r6.2)).bind fun v7=>M.ok ((v7,r6))
theorem lN{R:List Ob→Prop}{S:(List Nat×Int)→List Ob}{n:Nat}(hr:∀ d,(S d)[n]? =some (eo d))(hw:∀ d d',(S d).set n (eo d')=S d'){aF:List Nat×Int}:cx R dV [.r n] (S aF) (bK aF) (fun v=>(.val (.d (D.str v.1)),S v.2)):=(di (jY [some (.v (.r n)),some (.v (.d (D.int aF.2)))] (dB (gV (i:=0) (a:=aF.2) (e:=fun v=>.d (D.int v)) rfl (hr _) rfl rfl)) rfl (iB (Dx (P:=fun(c1:List Nat×Int)=>[some (.v (.r n)),some (.v (.d (D.int aF.2)))]) (S:=fun(c1:List Nat×Int)=>S c1) (c0:=aF) (mt:=(fun(c1:List Nat×Int)=>andM ((iF c1.1).bind fun a2=>M.ok (decide (c1.2<a2))) ((ic c1.1 c1.2).bind fun a3=>M.ok (subIn a3 (sS "abcdefghijklmnopqrstuvwxyz"))))) (mb:=(fun(c1:List Nat×Int)=>((M.ok (1:Int)).bind fun a4=>M.ok (c1.1,(c1.2+a4))).bind fun d5=>M.ok d5)) (by(repeat' (first | exact trivial | refine And.intro rfl ?_))) rfl (fun c1=>(JA (tB (b:=fun v=>v) (sv (mf (sv (gV (i:=0) (a:=c1.2) (e:=fun v=>.d (D.int v)) rfl (hr _) rfl rfl)) (sv (dr (ag (sv (gV (i:=0) (a:=c1.1) (e:=fun v=>.d (D.str v)) rfl (hr _) rfl rfl)) aq) oa)) fun a2=>A3))) (Hy (tB (b:=fun v=>v) (sv (cJ (sv (aK (sv (gV (i:=0) (a:=c1.1) (e:=fun v=>.d (D.str v)) rfl (hr _) rfl rfl)) (sv (gV (i:=0) (a:=c1.2) (e:=fun v=>.d (D.int v)) rfl (hr _) rfl rfl)) xT)) (fun a3=>(sv (cD D.str (sS "abcdefghijklmnopqrstuvwxyz")))) fun a3=>DG)))))) (fun c1=>(aO (fun d5=>[some (.v (.r n)),some (.v (.d (D.int aF.2)))]) (xP (φ:=fun a4=>(c1.1,(c1.2+a4))) (S:=S) (a:=c1.2) rfl rfl (hr _) rfl rfl (sv (cD D.int (1:Int))) (fun a4=>hw _ (c1.1,(c1.2+a4)))) (fun _=>rfl) fun d5=>(hZ rfl (by(repeat' (first | exact trivial | refine And.intro rfl ?_))))))) fun r6=>(bD (iU (φ:=fun v7=>(v7,r6)) (qJ (sv (gV (i:=0) (a:=r6.1) (e:=fun v=>.d (D.str v)) rfl (hr _) rfl rfl)) (pe (sv (aw (a:=aF.2) (e:=D.int) rfl))) (pe (sv (gV (i:=0) (a:=r6.2) (e:=fun v=>.d (D.int v)) rfl (hr _) rfl rfl))) Gq) fun _=>rfl)))))
def bL(aF:List Nat×Int):M (List Nat×(List Nat×Int)):=(aN aF (sS "'")).bind fun u1=>(nQ (fun(c2:(List (List Nat))×(List Nat×Int))=>orM ((nox (au c2.2 (1:Int))).bind fun a3=>M.ok (!(eqB a3 (sS "'")))) ((nox (au c2.2 (2:Int))).bind fun a4=>M.ok (eqB a4 (sS "''")))) (fun(c2:(List (List Nat))×(List Nat×Int))=>((((nox (au c2.2 (1:Int))).bind fun a5=>M.ok (!(eqB a5 (sS "")))).bind fun a6=>(M.ok ()).bind fun w7=>M.ok (a6,w7)).bind fun z8=>fW z8.1).bind fun u9=>(((nox (au c2.2 (1:Int))).bind fun a10=>(M.ok ()).bind fun w11=>M.ok (a10,w11)).bind fun z12=>eX c2.1 z12.1).bind fun hO=>((((((nox (au c2.2 (1:Int))).bind fun a14=>M.ok (eqB a14 (sS "'"))).bind fun a15=>(M.ok ()).bind fun w16=>M.ok (a15,w16)).bind fun z17=>M.ok (if z17.1=true then(1:Int)else 0)).bind fun a18=>M.ok ((1:Int)+a18)).bind fun a19=>M.ok (c2.2.1,(c2.2.2+a19))).bind fun d20=>M.ok (hO,d20)) ip (([]:List (List Nat)),u1.2)).bind fun r21=>(aN r21.2 (sS "'")).bind fun u22=>(joinM (sS "") r21.1).bind fun v23=>M.ok ((v23,u22.2))
theorem lU{R:List Ob→Prop}{S:(List Nat×Int)→List Ob}{n:Nat}(hr:∀ d,(S d)[n]? =some (eo d))(hw:∀ d d',(S d).set n (eo d')=S d')(hR:∀ d,R (S d)){aF:List Nat×Int}:cx R dU [.r n] (S aF) (bL aF) (fun v=>(.val (.d (D.str v.1)),S v.2)):=(di (aO (fun u1=>[some (.v (.r n)),none]) (jq (jz (post:=(pE eN _ S)) (sv (dS (a:=aF) rfl)) (eQ (hr _) rfl) (ag (sv (cD D.str (sS "'"))) aq) (.d .nil) rfl (eO (aF:=aF) (d9:=(sS "'")) hr hw hR) (fun _=>rfl))) (fun _=>rfl) fun u1=>(jY [some (.v (.r n)),some (.own ((oL D.str) ([]:List (List Nat))))] (tW (Ev.b9 (post2:=(pN (oL D.str) _ _)) (cO (l:=fun _=>([]:List (List Nat))) (e:=D.str) aq (fun _=>.nil) (fun _=>rfl) (fun _=>rfl)) rfl)) rfl (iB (Dx (P:=fun(c2:(List (List Nat))×(List Nat×Int))=>[some (.v (.r n)),some (.own ((oL D.str) c2.1))]) (S:=fun(c2:(List (List Nat))×(List Nat×Int))=>S c2.2) (c0:=(([]:List (List Nat)),u1.2)) (mt:=(fun(c2:(List (List Nat))×(List Nat×Int))=>orM ((nox (au c2.2 (1:Int))).bind fun a3=>M.ok (!(eqB a3 (sS "'")))) ((nox (au c2.2 (2:Int))).bind fun a4=>M.ok (eqB a4 (sS "''"))))) (mb:=(fun(c2:(List (List Nat))×(List Nat×Int))=>((((nox (au c2.2 (1:Int))).bind fun a5=>M.ok (!(eqB a5 (sS "")))).bind fun a6=>(M.ok ()).bind fun w7=>M.ok (a6,w7)).bind fun z8=>fW z8.1).bind fun u9=>(((nox (au c2.2 (1:Int))).bind fun a10=>(M.ok ()).bind fun w11=>M.ok (a10,w11)).bind fun z12=>eX c2.1 z12.1).bind fun hO=>((((((nox (au c2.2 (1:Int))).bind fun a14=>M.ok (eqB a14 (sS "'"))).bind fun a15=>(M.ok ()).bind fun w16=>M.ok (a15,w16)).bind fun z17=>M.ok (if z17.1=true then(1:Int)else 0)).bind fun a18=>M.ok ((1:Int)+a18)).bind fun a19=>M.ok (c2.2.1,(c2.2.2+a19))).bind fun d20=>M.ok (hO,d20))) (by(repeat' (first | exact trivial | refine And.intro rfl ?_))) rfl (fun c2=>(An (tB (b:=fun v=>v) (sv (cJ (sv (lq (R':=R) (post:=(pD D.str _ _)) (sv (dS (a:=c2.2) rfl)) (eQ (hr _) rfl) (ag (sv (cD D.int (1:Int))) aq) (.d .nil) rfl (cc (aF:=c2.2) (bB:=(1:Int)) (hr _) ) (fun _=>rfl))) (fun a3=>(sv (cD D.str (sS "'")))) fun a3=>(DJ bx bx qS (by decide))))) (AM (tB (b:=fun v=>v) (sv (cJ (sv (lq (R':=R) (post:=(pD D.str _ _)) (sv (dS (a:=c2.2) rfl)) (eQ (hr _) rfl) (ag (sv (cD D.int (2:Int))) aq) (.d .nil) rfl (cc (aF:=c2.2) (bB:=(2:Int)) (hr _) ) (fun _=>rfl))) (fun a4=>(sv (cD D.str (sS "''")))) fun a4=>(ia bx bx qS (by decide)))))))) (fun c2=>(aO (fun u9=>[some (.v (.r n)),some (.own ((oL D.str) c2.1))]) (jq (oj (post:=(pD eN _ _)) (aW (sv (cJ (sv (lq (R':=R) (post:=(pD D.str _ _)) (sv (dS (a:=c2.2) rfl)) (eQ (hr _) rfl) (ag (sv (cD D.int (1:Int))) aq) (.d .nil) rfl (cc (aF:=c2.2) (bB:=(1:Int)) (hr _) ) (fun _=>rfl))) (fun a5=>(sv (cD D.str (sS "")))) fun a5=>(DJ bx bx qS (by decide)))) fun a6=>aq) (fun _=>(.d .nil)) (fun _=>rfl) (fun z8=>(n0 (jl:=z8.1) (hR _))) (fun _ _=>rfl))) (fun _=>rfl) fun u9=>(aO (fun hO=>[some (.v (.r n)),some (.own ((oL D.str) hO))]) (jq (m3 (hU (ie (a:=c2.1) rfl)) (fun _ hf=>qk (gv rfl) hf) (aW (sv (lq (R':=R) (post:=(pD D.str _ _)) (sv (dS (a:=c2.2) rfl)) (eQ (hr _) rfl) (ag (sv (cD D.int (1:Int))) aq) (.d .nil) rfl (cc (aF:=c2.2) (bB:=(1:Int)) (hr _) ) (fun _=>rfl))) fun a10=>aq) fun z12=>(qA rfl))) (fun _=>rfl) fun hO=>(aO (fun d20=>[some (.v (.r n)),some (.own ((oL D.str) hO))]) (xP (φ:=fun a19=>(c2.2.1,(c2.2.2+a19))) (S:=S) (a:=c2.2.2) rfl rfl (hr _) rfl rfl (sv (mf (sv (cD D.int (1:Int))) (sv (tw (aW (sv (cJ (sv (lq (R':=R) (post:=(pD D.str _ _)) (sv (dS (a:=c2.2) rfl)) (eQ (hr _) rfl) (ag (sv (cD D.int (1:Int))) aq) (.d .nil) rfl (cc (aF:=c2.2) (bB:=(1:Int)) (hr _) ) (fun _=>rfl))) (fun a14=>(sv (cD D.str (sS "'")))) fun a14=>(ia bx bx qS (by decide)))) fun a15=>aq) fun z17=>AR)) fun a18=>iu)) (fun a19=>hw _ (c2.2.1,(c2.2.2+a19)))) (fun _=>rfl) fun d20=>(hZ rfl (by(repeat' (first | exact trivial | refine And.intro rfl ?_))))))))) fun r21=>(aO (fun u22=>[some (.v (.r n)),some (.own ((oL D.str) r21.1))]) (jq (jz (post:=(pE eN _ S)) (sv (dS (a:=r21.2) rfl)) (eQ (hr _) rfl) (ag (sv (cD D.str (sS "'"))) aq) (.d .nil) rfl (eO (aF:=r21.2) (d9:=(sS "'")) hr hw hR) (fun _=>rfl))) (fun _=>rfl) fun u22=>(bD (iU (φ:=fun v23=>(v23,u22.2)) (l0 (sv (cD D.str (sS ""))) (fun _ _=>rfl) (ag (hU (ie (a:=r21.1) rfl)) aq) (tH (gv rfl))) fun _=>rfl)))))))
def aM(aF:List Nat×Int):M ((List Nat×List Nat)×(List Nat×Int)):=(nox (bK aF)).bind fun bc=>(aN bc.2 (sS ":")).bind fun u2=>(((bL u2.2).bind fun a3=>(M.ok ()).bind fun w4=>M.ok (a3,w4)).bind fun z5=>M.ok ((bc.1,z5.1.1),z5.1.2)).bind fun v6=>M.ok (v6)
theorem gI{R:List Ob→Prop}{S:(List Nat×Int)→List Ob}{n:Nat}(hr:∀ d,(S d)[n]? =some (eo d))(hw:∀ d d',(S d).set n (eo d')=S d')(hR:∀ d,R (S d)){aF:List Nat×Int}:cx R cI [.r n] (S aF) (aM aF) (fun v=>(.val (.d ((bo D.str D.str) v.1)),S v.2)):=(di (aO (fun bc=>[some (.v (.r n)),some (.v (.d (D.str bc.1)))]) (dB (lq (R':=R) (post:=(pE D.str _ S)) (sv (dS (a:=aF) rfl)) (eQ (hr _) rfl) aq .nil rfl (lN (aF:=aF) hr hw ) (fun _=>rfl))) (fun _=>rfl) fun bc=>(aO (fun u2=>[some (.v (.r n)),some (.v (.d (D.str bc.1)))]) (jq (jz (post:=(pE eN _ S)) (sv (dS (a:=bc.2) rfl)) (eQ (hr _) rfl) (ag (sv (cD D.str (sS ":"))) aq) (.d .nil) rfl (eO (aF:=bc.2) (d9:=(sS ":")) hr hw hR) (fun _=>rfl))) (fun _=>rfl) fun u2=>(bD (iU (φ:=fun v6=>v6) (Ev.map (fun(z5:(List Nat×(List Nat×Int))×Unit)=>((bc.1,z5.1.1),z5.1.2)) (pE (bo D.str D.str) _ S) (gO (ag (sv (aw (a:=bc.1) (e:=D.str) rfl)) (aW (sv (jz (post:=(pE D.str _ S)) (sv (dS (a:=u2.2) rfl)) (eQ (hr _) rfl) aq .nil rfl (lU (aF:=u2.2) hr hw hR) (fun _=>rfl))) fun a3=>aq)) (fun _=>(.d (.d .nil))) (fun _=>rfl) (fun _=>rfl)) fun _=>rfl) fun _=>rfl)))))
end K33
namespace K33
open PySem L2 PyProof.Rows Vw
theorem wK(line:List Nat):ek [.r 0,.d (.str line)] [.ins "FieldReader" []]=.ok (.val (.d .non)) ⟨[],[eo (line,0)]⟩:=by kernel_rfl
def iP(aG:List Nat):M ((Bool×(List (List Nat×List Nat)))×List Ob):=(if(eqB aG (sS "none"))=true then(M.ok (((true,([]:List (List Nat×List Nat))),([]:List Ob))))else((((aM (aG,(0:Int))).bind fun a2=>(M.ok ()).bind fun w3=>M.ok (a2,w3)).bind fun z4=>M.ok ([z4.1.1],z4.1.2)).bind fun mH=>(nQ (fun(c6:(List (List Nat×List Nat))×(List Nat×Int))=>(iF aG).bind fun a7=>M.ok (decide (c6.2.2<a7))) (fun(c6:(List (List Nat×List Nat))×(List Nat×Int))=>(aN c6.2 (sS " ")).bind fun u8=>(((aM u8.2).bind fun a9=>(M.ok ()).bind fun w10=>M.ok (a9,w10)).bind fun z11=>(eX c6.1 z11.1.1).bind fun v=>M.ok (v,z11.1.2)).bind fun fE=>M.ok (fE.1,fE.2)) ip (mH.1,mH.2)).bind fun r13=>(nox (eG r13.1)).bind fun u14=>M.ok (((false,r13.1),([eo r13.2]:List Ob)))))
theorem th{aG:List Nat}:cx (fun _=>True) cu [.d (D.str aG)] [] (iP aG) (fun v=>((bif v.1.1 then RV.new ((oL (bo D.str D.str)) v.1.2)else RV.val (.d ((eL (bo D.str D.str)) v.1.2))),v.2)):=(di (jd (jm (sv (aK (sv (aw (a:=aG) (e:=D.str) rfl)) (sv (cD D.str (sS "none"))) (ia bx bx qS (by decide))))) (bD (KJ (Ev.b9 (post2:=(pN (oL (bo D.str D.str)) _ _)) (cO (l:=fun _=>([]:List (List Nat×List Nat))) (e:=(bo D.str D.str)) aq (fun _=>.nil) (fun _=>rfl) (fun _=>rfl)) rfl) rfl)) (Gh [some (.v (.d (D.str aG))),some (.v (.r 0)),none] ([eo (aG,(0:Int))]:List Ob) (dB (JQ (o:=fun _=>eo (aG,(0:Int))) (ag (sv (aw (a:=aG) (e:=D.str) rfl)) aq) (fun _=>(.d .nil)) (fun _=>rfl) (fun _=>wK _))) rfl rfl (aO (fun mH=>[some (.v (.d (D.str aG))),some (.v (.r 0)),some (.own ((oL (bo D.str D.str)) mH.1))]) (tW (Ev.map (fun(z4:((List Nat×List Nat)×(List Nat×Int))×Unit)=>([z4.1.1],z4.1.2)) (Er (oL (bo D.str D.str)) _ (fun(d:List Nat×Int)=>[eo d])) (cO (l:=fun z4=>([z4.1.1]:List (List Nat×List Nat))) (e:=(bo D.str D.str)) (aW (sv (jz (post:=(pE (bo D.str D.str) _ (fun(d:List Nat×Int)=>[eo d]))) (sv (dS (a:=(aG,(0:Int))) rfl)) (eQ rfl rfl) aq .nil rfl (gI (aF:=(aG,(0:Int))) (S:=(fun(d:List Nat×Int)=>[eo d])) (n:=0) (fun _=>rfl) (fun _ _=>rfl) (fun _=>trivial)) (fun _=>rfl))) fun a2=>aq) (fun _=>(.d .nil)) (fun _=>rfl) (fun _=>rfl)) fun _=>rfl)) (fun _=>rfl) fun mH=>(iB (Dx (P:=fun(c6:(List (List Nat×List Nat))×(List Nat×Int))=>[some (.v (.d (D.str aG))),some (.v (.r 0)),some (.own ((oL (bo D.str D.str)) c6.1))]) (S:=fun(c6:(List (List Nat×List Nat))×(List Nat×Int))=>(fun(d:List Nat×Int)=>[eo d]) c6.2) (c0:=(mH.1,mH.2)) (mt:=(fun(c6:(List (List Nat×List Nat))×(List Nat×Int))=>(iF aG).bind fun a7=>M.ok (decide (c6.2.2<a7)))) (mb:=(fun(c6:(List (List Nat×List Nat))×(List Nat×Int))=>(aN c6.2 (sS " ")).bind fun u8=>(((aM u8.2).bind fun a9=>(M.ok ()).bind fun w10=>M.ok (a9,w10)).bind fun z11=>(eX c6.1 z11.1.1).bind fun v=>M.ok (v,z11.1.2)).bind fun fE=>M.ok (fE.1,fE.2))) (by(repeat' (first | exact trivial | refine And.intro rfl ?_))) rfl (fun c6=>(tB (b:=fun v=>v) (sv (mf (sv (gV (i:=1) (a:=c6.2.2) (e:=fun v=>.d (D.int v)) rfl rfl rfl rfl)) (sv (dr (ag (sv (aw (a:=aG) (e:=D.str) rfl)) aq) oa)) fun a7=>A3)))) (fun c6=>(aO (fun u8=>[some (.v (.d (D.str aG))),some (.v (.r 0)),some (.own ((oL (bo D.str D.str)) c6.1))]) (jq (jz (post:=(pE eN _ (fun(d:List Nat×Int)=>[eo d]))) (sv (dS (a:=c6.2) rfl)) (eQ rfl rfl) (ag (sv (cD D.str (sS " "))) aq) (.d .nil) rfl (eO (aF:=c6.2) (d9:=(sS " ")) (S:=(fun(d:List Nat×Int)=>[eo d])) (n:=0) (fun _=>rfl) (fun _ _=>rfl) (fun _=>trivial)) (fun _=>rfl))) (fun _=>rfl) fun u8=>(aO (fun fE=>[some (.v (.d (D.str aG))),some (.v (.r 0)),some (.own ((oL (bo D.str D.str)) fE.1))]) (jq (m3 (hU (ie (a:=c6.1) rfl)) (fun _ hf=>qk (gv rfl) hf) (aW (sv (jz (post:=(pE (bo D.str D.str) _ (fun(d:List Nat×Int)=>[eo d]))) (sv (dS (a:=u8.2) rfl)) (eQ rfl rfl) aq .nil rfl (gI (aF:=u8.2) (S:=(fun(d:List Nat×Int)=>[eo d])) (n:=0) (fun _=>rfl) (fun _ _=>rfl) (fun _=>trivial)) (fun _=>rfl))) fun a9=>aq) fun z11=>(Ev.map (fun v=>(v,z11.1.2)) (MC 2 (oL (bo D.str D.str)) _ (fun(d:List Nat×Int)=>[eo d])) (qA rfl) fun _=>rfl))) (fun _=>rfl) fun fE=>(hZ rfl (by(repeat' (first | exact trivial | refine And.intro rfl ?_)))))))) fun r13=>(aO (fun u14=>[some (.v (.d (D.str aG))),some (.v (.r 0)),some (.v (.d ((eL (bo D.str D.str)) r13.1)))]) (Hr (jq (j8 (post:=(pD eN _ _)) (ag (hU (ie (a:=r13.1) rfl)) aq) (.o rfl (cK _ _) .nil) rfl (o7 (bj:=r13.1) trivial) (fun _=>rfl)))) (fun _=>rfl) fun u14=>(bD (oH (aw (a:=r13.1) (e:=(eL (bo D.str D.str))) rfl) rfl))))))))
def eM(aG:List Nat):M (Bool×(List (List Nat×List Nat))):=(iP aG).bind fun v=>M.ok v.1
theorem mI{aG:List Nat}:mP cu [(D.str aG)] (eM aG) (fun v=>(bif v.1 then RV.new ((oL (bo D.str D.str)) v.2)else RV.val (.d ((eL (bo D.str D.str)) v.2)))):=cx.toI th (fun v=>JU (cK _ v.2))
def nE(ej:List Nat):M D:=(rS ej (sS " ")).bind fun t1=>(if(eqB t1.1 (sS "put"))=true then((((((eM t1.2.2).bind fun v=>M.ok v.2).bind fun v=>M.ok ((eL (bo D.str D.str)) v)).bind fun a2=>(M.ok ()).bind fun w3=>M.ok (a2,w3)).bind fun z4=>M.ok (D.tup [(D.str (sS "put")),z4.1])).bind fun v5=>M.ok (v5))else((if(eqB t1.1 (sS "change"))=true then((rS t1.2.2 (sS " ")).bind fun t6=>((((eZ t6.1).bind fun v=>M.ok (D.int v)).bind fun a7=>((((eM t6.2.2).bind fun v=>M.ok v.2).bind fun v=>M.ok ((eL (bo D.str D.str)) v)).bind fun a8=>(M.ok ()).bind fun w9=>M.ok (a8,w9)).bind fun w10=>M.ok (a7,w10)).bind fun z11=>M.ok (D.tup [(D.str (sS "change")),z11.1,z11.2.1])).bind fun v12=>M.ok (v12))else((if(i8 ej [(sS "stamp"),(sS "seal"),(sS "thin")])=true then(M.ok ((D.tup [(D.str ej)])))else((fW (i8 t1.1 [(sS "take"),(sS "drop"),(sS "pack"),(sS "pour")])).bind fun u13=>((u7 t1.2.2 (sS " ")).bind fun l15=>dH (fun(part14:List Nat)=>M.ok true) (fun(part14:List Nat)=>nox (eZ part14)) l15).bind fun dN=>(fW (eqB (dN.length:Int) ((1:Int)+(if(eqB t1.1 (sS "pour"))=true then(1:Int)else 0)))).bind fun u17=>(((ot [(D.str t1.1)] (dN.map D.int)).bind fun a18=>(M.ok ()).bind fun w19=>M.ok (a18,w19)).bind fun z20=>M.ok (D.tup (z20.1.map eY))).bind fun v21=>M.ok (v21)))))))
theorem zd{R:List Ob→Prop}{σ:List Ob}(hR:R σ){ej:List Nat}:cx R gi [.d (D.str ej)] σ (nE ej) (fun v=>(.val (.d (eY v)),σ)):=(di (aO (fun t1=>[some (.v (.d (D.str ej))),none,some (.v (.d (D.str t1.1))),some (.v (.d (D.str t1.2.1))),some (.v (.d (D.str t1.2.2))),none,none,none]) (Ky (sv (l0 (sv (aw (a:=ej) (e:=D.str) rfl)) (fun _ _=>rfl) (ag (sv (cD D.str (sS " "))) aq) EC)) fun _=>(vd rfl rfl (gD cm (gD cm (gD cm qP))))) (fun _=>rfl) fun t1=>(jd (jm (sv (aK (sv (aw (a:=t1.1) (e:=D.str) rfl)) (sv (cD D.str (sS "put"))) (ia bx bx qS (by decide))))) (bD (iU (φ:=fun v5=>v5) (Ev.map (fun(z4:D×Unit)=>(D.tup [(D.str (sS "put")),z4.1])) (pD eY _ _) (gO (ag (sv (toY (cD D.str (sS "put")))) (aW (toY (Ii (o:=(oL (bo D.str D.str))) (d:=(eL (bo D.str D.str))) (yP (post:=(fun v=>((bif v.1 then RV.new ((oL (bo D.str D.str)) v.2)else RV.val (.d ((eL (bo D.str D.str)) v.2))),_,_))) (ds:=[D.str t1.2.2]) (ag (sv (aw (a:=t1.2.2) (e:=D.str) rfl)) aq) (.d .nil) rfl mI (fun _=>rfl) hR) (fun v=>cK _ v))) fun a2=>aq)) (fun _=>(.d (.d .nil))) (fun _=>rfl) (fun _=>rfl)) fun _=>rfl) fun _=>rfl)) (jd (jm (sv (aK (sv (aw (a:=t1.1) (e:=D.str) rfl)) (sv (cD D.str (sS "change"))) (ia bx bx qS (by decide))))) (aO (fun t6=>[some (.v (.d (D.str ej))),none,some (.v (.d (D.str t1.1))),some (.v (.d (D.str t6.2.1))),some (.v (.d (D.str t1.2.2))),some (.v (.d (D.str t6.1))),some (.v (.d (D.str t6.2.2))),none]) (Ky (sv (l0 (sv (aw (a:=t1.2.2) (e:=D.str) rfl)) (fun _ _=>rfl) (ag (sv (cD D.str (sS " "))) aq) EC)) fun _=>(vd rfl rfl (gD cm (gD cm (gD cm qP))))) (fun _=>rfl) fun t6=>(bD (iU (φ:=fun v12=>v12) (Ev.map (fun(z11:D×(D×Unit))=>(D.tup [(D.str (sS "change")),z11.1,z11.2.1])) (pD eY _ _) (gO (ag (sv (toY (cD D.str (sS "change")))) (aW (sv (toY (j8 (post:=(pD D.int _ _)) (ag (sv (aw (a:=t6.1) (e:=D.str) rfl)) aq) (.d .nil) rfl (ru (aG:=t6.1) hR) (fun _=>rfl)))) fun a7=>(aW (toY (Ii (o:=(oL (bo D.str D.str))) (d:=(eL (bo D.str D.str))) (yP (post:=(fun v=>((bif v.1 then RV.new ((oL (bo D.str D.str)) v.2)else RV.val (.d ((eL (bo D.str D.str)) v.2))),_,_))) (ds:=[D.str t6.2.2]) (ag (sv (aw (a:=t6.2.2) (e:=D.str) rfl)) aq) (.d .nil) rfl mI (fun _=>rfl) hR) (fun v=>cK _ v))) fun a8=>aq))) (fun _=>(.d (.d (.d .nil)))) (fun _=>rfl) (fun _=>rfl)) fun _=>rfl) fun _=>rfl))) (jd (jm (sv (aK (sv (aw (a:=ej) (e:=D.str) rfl)) (sn (Ev.b9 (post2:=(pN (oL D.str) _ _)) (cO (l:=fun _=>([(sS "stamp"),(sS "seal"),(sS "thin")]:List (List Nat))) (e:=D.str) (ag (sv (cD D.str (sS "stamp"))) (ag (sv (cD D.str (sS "seal"))) (ag (sv (cD D.str (sS "thin"))) aq))) (fun _=>(.d (.d (.d .nil)))) (fun _=>rfl) (fun _=>rfl)) rfl) (fun v=>cK _ v)) (DB bx e6 qS (by decide))))) (bD (oH (Ev.b9 (post2:=(pD eY _ _)) (gO (ag (sv (toY (aw (a:=ej) (e:=D.str) rfl))) aq) (fun _=>(.d .nil)) (fun _=>rfl) (fun _=>rfl)) rfl) rfl)) (aO (fun u13=>[some (.v (.d (D.str ej))),none,some (.v (.d (D.str t1.1))),some (.v (.d (D.str t1.2.1))),some (.v (.d (D.str t1.2.2))),none,none,none]) (jq (j8 (post:=(pD eN _ _)) (ag (sv (aK (sv (aw (a:=t1.1) (e:=D.str) rfl)) (sn (Ev.b9 (post2:=(pN (oL D.str) _ _)) (cO (l:=fun _=>([(sS "take"),(sS "drop"),(sS "pack"),(sS "pour")]:List (List Nat))) (e:=D.str) (ag (sv (cD D.str (sS "take"))) (ag (sv (cD D.str (sS "drop"))) (ag (sv (cD D.str (sS "pack"))) (ag (sv (cD D.str (sS "pour"))) aq)))) (fun _=>(.d (.d (.d (.d .nil))))) (fun _=>rfl) (fun _=>rfl)) rfl) (fun v=>cK _ v)) (DB bx e6 qS (by decide)))) aq) (.d .nil) rfl (n0 (jl:=(i8 t1.1 [(sS "take"),(sS "drop"),(sS "pack"),(sS "pour")])) hR) (fun _=>rfl))) (fun _=>rfl) fun u13=>(aO (fun dN=>[some (.v (.d (D.str ej))),some (.own ((oL D.int) dN)),some (.v (.d (D.str t1.1))),some (.v (.d (D.str t1.2.1))),some (.v (.d (D.str t1.2.2))),none,none,none]) (tW (AY (q:=[some (.v (.d (D.str ej))),none,some (.v (.d (D.str t1.1))),some (.v (.d (D.str t1.2.1))),some (.v (.d (D.str t1.2.2))),none,none,none]) (p2:=fun(part14:List Nat)=>[some (.v (.d (D.str ej))),none,some (.v (.d (D.str t1.1))),some (.v (.d (D.str t1.2.1))),some (.v (.d (D.str t1.2.2))),none,none,some (.v (.d (D.str part14)))]) (p3:=fun(part14:List Nat)=>[some (.v (.d (D.str ej))),none,some (.v (.d (D.str t1.1))),some (.v (.d (D.str t1.2.1))),some (.v (.d (D.str t1.2.2))),none,none,some (.v (.d (D.str part14)))]) (mt:=(fun(part14:List Nat)=>M.ok true)) (me:=(fun(part14:List Nat)=>nox (eZ part14))) (e:=D.int) (DD (sn (l0 (sv (aw (a:=t1.2.2) (e:=D.str) rfl)) (fun _ _=>rfl) (ag (sv (cD D.str (sS " "))) aq) ID) (fun v=>cK _ v))) rfl (fun(part14:List Nat)=>⟨cm,lC,(vm (bQ (R':=R) (post:=(pD D.int _ _)) (ag (sv (aw (a:=part14) (e:=D.str) rfl)) aq) (.d .nil) rfl (ru (aG:=part14) hR) (fun _=>rfl)))⟩) (fun _=>by(repeat' (first | exact trivial | refine And.intro rfl ?_))) (fun _=>by(repeat' (first | exact trivial | refine And.intro rfl ?_))))) (fun _=>rfl) fun dN=>(aO (fun u17=>[some (.v (.d (D.str ej))),some (.own ((oL D.int) dN)),some (.v (.d (D.str t1.1))),some (.v (.d (D.str t1.2.1))),some (.v (.d (D.str t1.2.2))),none,none,none]) (jq (j8 (post:=(pD eN _ _)) (ag (sv (aK (sv (dr (ag (hU (ie (a:=dN) rfl)) aq) (ui (gv rfl)))) (sv (aK (sv (cD D.int (1:Int))) (sv (dr (ag (sv (aK (sv (aw (a:=t1.1) (e:=D.str) rfl)) (sv (cD D.str (sS "pour"))) (ia bx bx qS (by decide)))) aq) AR)) iu)) (ia bx bx qI (by decide)))) aq) (.d .nil) rfl (n0 (jl:=(eqB (dN.length:Int) ((1:Int)+(if(eqB t1.1 (sS "pour"))=true then(1:Int)else 0)))) hR) (fun _=>rfl))) (fun _=>rfl) fun u17=>(bD (iU (φ:=fun v21=>v21) (tw (aW (sn (aK (sn (Ev.b9 (post2:=(pN (oL eY) _ _)) (cO (l:=fun _=>([(D.str t1.1)]:List D)) (e:=eY) (ag (sv (toY (aw (a:=t1.1) (e:=D.str) rfl))) aq) (fun _=>(.d .nil)) (fun _=>rfl) (fun _=>rfl)) rfl) (fun v=>cK _ v)) (hU (Lj (a:=dN.map D.int) (o:=oL D.int dN) rfl)) (add_l e6 (JN rfl))) (fun v=>cK _ v)) fun a18=>aq) fun z20=>(Et e6)) fun _=>rfl))))))))))
end K33
namespace K33
open PySem L2 PyProof.Rows Vw
def Dr(l:List Int):Prop:=∀ x∈l,0≤x∧x<2147483648
theorem la{l:List Int}(h:Dr l):Sat (cL l) fun r=>0≤r.1∧r.1<2147483648∧Dr r.2:=by
 unfold cL
 refine uK (fun hl=>az ⟨by omega,by omega,h⟩) fun hl=>?_
 obtain⟨y,hy,e⟩:=Ft (l:=l) (by simpa using hl)
 rw[e,M.aa]
 exact az ⟨(h y hy).1,(h y hy).2,fun x hx=>h x (List.dropLast_subset l hx)⟩
theorem vy(script:List Int)(t:Int):Sat (ot (cy script (none:Option Int) (some (63:Int))) [t]) fun L=>0<L.length∧L.length≤64:=by
 have e:cy script none (some (63:Int))=script.take 63:=Sh.BP script 63
 rw[e]
 exact HW (sM (by simp;omega)) ⟨by simp,by simp;omega⟩
theorem Bx(script:List Int)(turn many:Nat)(ht:turn≤1000)(hm:many≤1000):Sat (jj script (turn:Int) (many:Int)) Dr:=by
 unfold jj
 refine av (vy script turn) fun L ⟨l1,l2⟩=>?_
 refine av (P:=fun _=>True) (av (P:=fun _=>True) (av (P:=fun _=>True) (av (lb (P:=fun _=>True) (by omega) (by omega) fun _ _=>trivial) fun a _=>az trivial) fun _ _=>az trivial) fun _ _=>az trivial) fun b _=>uK (fun _=>?_) fun _=>?_
 ·rw[pL (F:=fun(c:Int)=>c/100000) (fun _ _=>rfl) (fun _ _=>rfl) (by omega),M.aa,show((turn:Int)+(many:Int))=((turn+many:Nat):Int) by omega,zR (by omega),M.aa]
  refine av (n8 (fun n c=>c.1.length≤n∧c.2.length=L.length∧Dr c.1) ⟨by simp,by simp,fun x hx=>by cases hx⟩ fun n c x hx hn ⟨i1,i2,i3⟩=>?_) fun r hr=>az hr.2.2
  have hx:=uA hx
  simp at hn
  rw[nS (by omega),M.aa]
  have hj:0≤x%(c.2.length:Int)∧x%(c.2.length:Int)<c.2.length:=⟨Int.emod_nonneg _ (by omega),Int.emod_lt_of_pos _ (by omega)⟩
  obtain⟨y,_,ey⟩:=yk hj.1 hj.2
  simp only[ey,M.aa]
  refine av (P:=fun j=>j.length≤n+1∧Dr j) (uK (fun _=>?_) fun _=>az ⟨by omega,i3⟩) fun j hj2=>?_
  ·rw[eB (by omega),M.aa]
   refine az ⟨by simp;omega,fun z hz=>?_⟩
   rcases List.mem_append.mp hz with hz | hz
   ·exact i3 z hz
   ·simp at hz
    omega
  ·rw[EO hj.1 hj.2,M.aa]
   exact az ⟨hj2.1,by simp[i2],hj2.2⟩
 ·rw[zR (by omega),M.aa]
  refine av (n8 (fun n c=>c.length≤n∧Dr c) ⟨by simp,fun x hx=>by cases hx⟩ fun n c x hx hn ⟨i1,i3⟩=>?_) fun r hr=>az hr.2
  have hx:=uA hx
  simp at hn
  have hb:∀ {z:Int},0≤z→z<9223372036854775808→z.natAbs<2^63:=fun h1 h2=>by omega
  have hq:0≤(x+(turn:Int))*(x+(turn:Int))∧(x+(turn:Int))*(x+(turn:Int))≤2000*2000:=⟨Int.mul_nonneg (by omega) (by omega),Int.mul_le_mul (by omega) (by omega) (by omega) (by omega)⟩
  rw[iI 63 63 (hb (by omega) (by omega)) (hb (by omega) (by omega)) (by omega) (by omega) (by omega),M.aa,iI 63 63 (hb (by omega) (by omega)) (by decide) (by omega) (by omega) (by omega),M.aa,M.aa,nS (by omega)]
  have hj:0≤x%(L.length:Int)∧x%(L.length:Int)<L.length:=⟨Int.emod_nonneg _ (by omega),Int.emod_lt_of_pos _ (by omega)⟩
  obtain⟨y,_,ey⟩:=yk hj.1 hj.2
  simp only[M.aa,ey]
  generalize (x+(turn:Int))*(x+(turn:Int))=S at hq ⊢
  have hr:0≤y%2147483647∧y%2147483647<2147483647:=by omega
  generalize y%2147483647=Y at hr ⊢
  rw[iI 63 63 (hb (by omega) (by omega)) (by decide) (by omega) (by omega) (by omega)]
  simp only[M.aa]
  have hr2:0≤(Y+(S*7919+104729))*48271%2147483647∧(Y+(S*7919+104729))*48271%2147483647<2147483647:=by omega
  generalize (Y+(S*7919+104729))*48271%2147483647=W at hr2 ⊢
  rw[iI 63 63 (hb (by omega) (by omega)) (hb (by omega) (by omega)) (by omega) (by omega) (by omega)]
  simp only[M.aa]
  rw[iI (a:=69621) 63 63 (by decide) (hb (by omega) (by omega)) (by omega) (by omega) (by omega)]
  simp only[M.aa]
  generalize W*W=W2
  have hr3:0≤(W2+69621*x)%2147483629∧(W2+69621*x)%2147483629<2147483629:=by omega
  generalize (W2+69621*x)%2147483629=U at hr3 ⊢
  rw[iI 63 63 (hb (by omega) (by omega)) (hb (by omega) (by omega)) (by omega) (by omega) (by omega)]
  simp only[M.aa]
  rw[eB (by omega),M.aa]
  refine az ⟨by simp;omega,fun z hz=>?_⟩
  rcases List.mem_append.mp hz with hz | hz
  ·exact i3 z hz
  ·simp at hz
   omega
theorem hJ{a m:Int}(h:0<m):0≤a%m∧a%m<m:=⟨Int.emod_nonneg _ (by omega),Int.emod_lt_of_pos _ h⟩
abbrev Ws:Type:=List (List Nat)
abbrev Doc:Type:=List (List Nat×List Nat)
def oZ:List Nat:=sS "abcdefghijklmnopqrstuvwxyz"
def gu(u:List Nat):Prop:=1≤u.length∧u.length≤12∧∀ c∈u,c∈oZ
def Ris(l:Ws):Prop:=l.Pairwise fun a b=>hX a b=true
def DocOk(d:Doc):Prop:=d.length≤3∧(∀ x∈d,gu x.1∧x.2.length≤10)∧Ris (d.map (·.1))
theorem zT:(sS "abcdefghijklmnopqrstuvwxyz").length=26:=by decide+kernel
theorem B4{κ α:Type}[DecidableEq κ](l:List (κ×α))(k:κ)(v:α):(iE l k v).map (·.1)=if k∈l.map (·.1)then l.map (·.1)else l.map (·.1)++[k]:=by
 unfold iE
 by_cases h:k∈l.map (·.1)
 ·have h1:(l.any fun p=>decide (p.1=k))=true:=by
   obtain⟨p,hp,e⟩:=List.mem_map.mp h
   exact List.any_eq_true.mpr ⟨p,hp,decide_eq_true e⟩
  rw[if_pos h1,if_pos h,List.map_map]
  apply List.map_congr_left
  intro p hp
  show(if p.1=k then(p.1,v)else p).1=p.1
  split<;> rfl
 ·have h1:¬ (l.any fun p=>decide (p.1=k))=true:=fun z=>by
   obtain⟨p,hp,e⟩:=List.any_eq_true.mp z
   exact h (List.mem_map.mpr ⟨p,hp,of_decide_eq_true e⟩)
  rw[if_neg h1,if_neg h]
  simp
theorem Cv(i:Int):Sat (ic (sS "abcdefghijklmnopqrstuvwxyz") (i%26)) fun u=>∃ c,c∈oZ∧u=[c]:=by
 have h:=hJ (a:=i) (m:=26) (by decide)
 obtain⟨a,ha,e⟩:=Ce (l:=sS "abcdefghijklmnopqrstuvwxyz") h.1 (by rw[zT];exact h.2) (by rw[zT];omega)
 exact⟨[a],e,a,ha,rfl⟩
theorem xw:∀ l:Ws,(∀ u∈l,∃ c,c∈oZ∧u=[c])→l.flatten.length=l.length∧∀ c∈l.flatten,c∈oZ
 | [],_=>⟨rfl,fun c h=>by cases h⟩
 | u::l,h=>by
  obtain⟨c,hc,e⟩:=h u (by simp)
  obtain⟨h1,h2⟩:=xw l fun v hv=>h v (by simp[hv])
  subst e
  refine⟨by simp[h1],fun x hx=>?_⟩
  rw[List.flatten_cons]at hx
  rcases List.mem_append.mp hx with hx | hx
  ·rw[List.mem_singleton]at hx;rw[hx];exact hc
  ·exact h2 x hx
theorem Aa:∀ l:Ws,(∀ u∈l,∃ c,c∈oZ∧u=[c])→(l.map (·.length)).sum=l.length
 | [],_=>rfl
 | u::l,h=>by
  obtain⟨c,hc,e⟩:=h u (by simp)
  rw[List.map_cons,List.sum_cons,Aa l fun v hv=>h v (by simp[hv]),e]
  simp
  omega
theorem Hi{l:Ws}(hn:l.Nodup):Ris (jS l):=by
 have h1:=y0 l
 have h2:(jS l).Nodup:=(kY l).nodup_iff.mpr hn
 refine(h1.and h2).imp fun {a b} ⟨q1,q2⟩=>?_
 cases e:hX a b with
 | true=>rfl
 | false=>
  have:iK b a=true:=by unfold iK;rw[e];rfl
  exact absurd (yl q1 this) q2
theorem BV{d:List Int}(hd:Dr d):Sat (i6 d) fun r=>(r.1.length≤3∧(∀ u∈r.1,gu u)∧Ris r.1)∧Dr r.2:=by
 unfold i6
 rw[M.bind_assoc]
 refine av (P:=fun(a:List Int×List Int)=>a.1.length≤3∧Dr a.2) ?_ fun a ⟨ha,hda⟩=>?_
 ·refine av (P:=fun(z:(Int×List Int)×Unit)=>(z.1.1≤3∧0≤z.1.1)∧Dr z.1.2) ?_ fun z ⟨hz,hz2⟩=>?_
  ·refine av (P:=fun(z:Int×List Int)=>(z.1≤3∧0≤z.1)∧Dr z.2) ?_ fun z hz=>az hz
   refine av (P:=fun(z:Int×List Int)=>(0≤z.1∧z.1<6)∧Dr z.2) (av (eC (la hd)) fun a ha=>az ⟨hJ (by decide),ha.2.2⟩) fun z ⟨hz,hz2⟩=>?_
   exact av (lb (P:=fun v=>v≤3∧0≤v) hz.1 (by simpa using hz.2) (by intro a ha;simp at ha;omega)) fun v hv=>az ⟨hv,hz2⟩
  ·rw[uD (by omega) (by omega),M.aa]
   exact az ⟨by simp;omega,hz2⟩
 ·refine av (n8 (fun n (c:List (List Nat×Bool)×List Int)=>(c.1.length≤n∧(c.1.map (·.1)).Nodup∧∀ u∈c.1.map (·.1),gu u)∧Dr c.2) ⟨⟨by simp,by simp,fun u h=>by cases h⟩,hda⟩ ?_) fun r hr=>?_
  ·intro n c x hx hn ⟨⟨i1,i2,i3⟩,i4⟩
   refine av (eC (la i4)) fun nu hnu=>?_
   have h11:=hJ (a:=nu.1) (m:=11) (by decide)
   refine av (P:=fun(w:List Nat)=>1≤w.length∧w.length≤11∧∀ c∈w,c∈oZ) ?_ fun w hw=>?_
   ·refine av (P:=fun(z:Ws×Unit)=>z.1.length=(1+nu.1%11).toNat∧∀ u∈z.1,∃ c,c∈oZ∧u=[c]) ?_ fun z hz=>?_
    ·refine av (P:=fun(z:Ws)=>z.length=(1+nu.1%11).toNat∧∀ u∈z,∃ c,c∈oZ∧u=[c]) ?_ fun z hz=>az hz
     rw[uD (by omega) (by omega),M.aa]
     refine ur (B0 (fun u=>∃ c,c∈oZ∧u=[c]) (fun _ _=>rfl) (fun j hj=>?_) (by simp;omega)) fun r hr=>⟨by rw[hr.1];simp,hr.2⟩
     have hj:=uA hj
     have hjj:0≤j*j∧j*j≤20*20:=⟨Int.mul_nonneg hj.1 hj.1,Int.mul_le_mul (by omega) (by omega) (by omega) (by omega)⟩
     rw[iI 10 10 (by omega) (by omega) (by decide) (by decide) (by decide),M.aa,iI 10 10 (by omega) (by decide) (by decide) (by decide) (by decide)]
     simp only[M.aa]
     exact Cv _
    ·unfold joinM
     rw[show sS ""=[]from by kernel_rfl,bP (decide_eq_true (by rw[Aa _ hz.2];simp;omega)),M.aa,vP]
     obtain⟨f1,f2⟩:=xw _ hz.2
     exact az ⟨by omega,by omega,f2⟩
   ·refine av (P:=fun(l:List (List Nat×Bool))=>l.length≤n+1∧(l.map (·.1)).Nodup∧∀ u∈l.map (·.1),gu u) ?_ fun l hl=>az ⟨hl,hnu.2.2⟩
    rw[M.aa]
    refine av (P:=gu) (av (Cv _) fun u ⟨c,hc,e⟩=>?_) fun u hu=>?_
    ·rw[e,dc (by simp;omega)]
     refine az ⟨by simp,by simp;omega,fun x hx=>?_⟩
     rcases List.mem_append.mp hx with hx | hx
     ·rw[List.mem_singleton]at hx;rw[hx];exact hc
     ·exact hw.2.2 x hx
    ·unfold x6
     rw[bP (decide_eq_true (by rw[zL];omega)),M.aa]
     have hk:=B4 c.1 u true
     refine az ⟨?_,?_,?_⟩
     ·have:(iE c.1 u true).length=((iE c.1 u true).map (·.1)).length:=by simp
      rw[this,hk]
      split<;> simp<;> omega
     ·rw[hk]
      split
      ·exact i2
      ·rename_i hu2
       exact List.nodup_append.mpr ⟨i2,by simp,fun a ha b hb e=>by rw[List.mem_singleton]at hb;rw[e,hb]at ha;exact hu2 ha⟩
     ·rw[hk]
      split
      ·exact i3
      ·intro x hx
       rcases List.mem_append.mp hx with hx | hx
       ·exact i3 x hx
       ·rw[List.mem_singleton]at hx;rw[hx];exact hu
  ·obtain⟨⟨i1,i2,i3⟩,i4⟩:=hr
   unfold C8
   refine av (P:=fun(l:Ws)=>l.length≤3∧(∀ u∈l,gu u)∧Ris l) ?_ fun v hv=>az ⟨hv,i4⟩
   rw[bP (decide_eq_true (by simp;omega)),M.aa]
   refine az ⟨?_,fun u hu=>i3 u ((kY _).mem_iff.mp hu),Hi i2⟩
   rw[(kY _).length_eq]
   simp
   omega
theorem Du{d:List Int}(hd:Dr d):Sat (gk d) fun r=>r.1.length≤10∧Dr r.2:=by
 unfold gk
 rw[M.aa,M.bind_assoc]
 refine av (P:=fun(a:List Int×List Int)=>a.1.length≤9∧Dr a.2) ?_ fun a ⟨ha,hda⟩=>?_
 ·refine av (P:=fun(z:(Int×List Int)×Unit)=>(z.1.1<10∧0≤z.1.1)∧Dr z.1.2) ?_ fun z ⟨hz,hz2⟩=>?_
  ·refine av (P:=fun(z:Int×List Int)=>(z.1<10∧0≤z.1)∧Dr z.2) ?_ fun z hz=>az hz
   exact av (eC (la hd)) fun a ha=>az ⟨⟨(hJ (by decide)).2,(hJ (by decide)).1⟩,ha.2.2⟩
  ·rw[uD (by omega) (by omega),M.aa]
   exact az ⟨by simp;omega,hz2⟩
 ·refine av (n8 (fun n (c:List Nat×List Int)=>c.1.length≤n∧Dr c.2) ⟨by show(sS "").length≤0;decide+kernel,hda⟩ ?_) fun r hr=>az ⟨by have:=hr.1;show r.1.length≤10;omega,hr.2⟩
  intro n c x hx hn ⟨i1,i4⟩
  refine av (eC (la i4)) fun nu hnu=>?_
  have h3:=hJ (a:=nu.1) (m:=3) (by decide)
  refine av (lb (P:=fun(u:List Nat)=>1≤u.length∧u.length≤100) h3.1 (by simpa using h3.2) (fun a ha=>?_)) fun u hu=>?_
  ·simp only[List.mem_cons,List.not_mem_nil,or_false]at ha
   rcases ha with rfl | rfl | rfl<;> exact⟨by decide+kernel,by decide+kernel⟩
  ·refine av (P:=fun(l:List Nat)=>l.length≤n+1) ?_ fun l hl=>az ⟨hl,hnu.2.2⟩
   rw[iO (by omega),M.aa,nS (by omega),M.aa]
   have hj:=hJ (a:=nu.1/3) (m:=(u.length:Int)) (by omega)
   obtain⟨y,_,e⟩:=Ce (l:=u) hj.1 hj.2 (by omega)
   rw[e,M.aa,dc (by simp;omega)]
   exact az (by simp;omega)
theorem p0{d:List Int}(hd:Dr d):Sat (dA d) fun r=>DocOk r.1∧Dr r.2:=by
 unfold dA
 refine av (P:=fun(r:Doc×List Int)=>DocOk r.1∧Dr r.2) ?_ fun v hv=>az hv
 refine av (eC (BV hd)) fun a ⟨⟨a1,a2,a3⟩,a4⟩=>?_
 have key:∀ (l:Ws) (acc:Doc) (c:List Int),Dr c→acc.length+l.length≤1000→Sat (ig (fun(fS:List Nat) (c2:List Int)=>M.ok true) (fun fS c2=>((nox (gk c2)).bind fun a3=>(M.ok ()).bind fun w4=>M.ok (a3,w4)).bind fun z5=>M.ok ((fS,z5.1.1),z5.1.2)) acc l c) fun r=>∃ k:Doc,r.1=acc++k∧k.map (·.1)=l∧(∀ x∈k,x.2.length≤10)∧Dr r.2:=by
  intro l
  induction l with
  | nil=>intro acc c hc _;exact az ⟨[],by simp,rfl,(fun x hx=>by cases hx),hc⟩
  | cons u l ih=>
   intro acc c hc hl
   simp only[List.length_cons]at hl
   unfold ig
   rw[M.aa,if_pos rfl]
   refine av (P:=fun(y:(List Nat×List Nat)×List Int)=>(y.1.1=u∧y.1.2.length≤10)∧Dr y.2) (av (P:=fun(z:(List Nat×List Int)×Unit)=>z.1.1.length≤10∧Dr z.1.2) (av (eC (Du hc)) fun v hv=>az hv) fun z hz=>az ⟨⟨rfl,hz.1⟩,hz.2⟩) fun y ⟨hy,hy2⟩=>?_
   rw[bP (decide_eq_true (by rw[zL];omega)),M.aa]
   refine ur (ih (acc++[y.1]) y.2 hy2 (by simp;omega)) fun r ⟨k,k1,k2,k3,k4⟩=>⟨y.1::k,by rw[k1];simp,by rw[List.map_cons,k2,hy.1],fun x hx=>?_,k4⟩
   rcases List.mem_cons.mp hx with hx | hx
   ·rw[hx];exact hy.2
   ·exact k3 x hx
 unfold qC
 refine eC (ur (key a.1 [] a.2 a4 (by simp;omega)) fun r ⟨k,k1,k2,k3,k4⟩=>⟨?_,k4⟩)
 rw[List.nil_append]at k1
 unfold DocOk
 rw[k1,k2]
 refine⟨?_,fun x hx=>⟨a2 x.1 ?_,k3 x hx⟩,a3⟩
 ·have:k.length=(k.map (·.1)).length:=by simp
  rw[this,k2]
  exact a1
 ·rw[←k2]
  exact List.mem_map_of_mem hx
end K33
namespace K33
open PySem L2 PyProof.Rows Vw
theorem zW{a b:Int}(h1:0≤b)(h2:b≤1000000)(h3:a.natAbs<2^64):yA a b=.ok (a^b.toNat):=by
 unfold yA
 rw[bP (decide_eq_true ⟨h1,h2,h3⟩)]
 rfl
inductive Dd where
 | put (d:Doc)
 | change (n:Nat) (d:Doc)
 | bare (w:List Nat)
 | one (w:List Nat) (n:Nat)
 | pour (n m:Nat)
abbrev er:Doc→D:=eL (bo D.str D.str)
def aV:Dd→D
 | .put d=>.tup [.str (sS "put"),er d]
 | .change n d=>.tup [.str (sS "change"),.int n,er d]
 | .bare w=>.tup [.str w]
 | .one w n=>.tup [.str w,.int n]
 | .pour n m=>.tup [.str (sS "pour"),.int n,.int m]
def Ax:Ws:=[sS "stamp",sS "seal",sS "thin"]
def Ca:Ws:=[sS "take",sS "drop",sS "pack"]
def i7:Dd→Prop
 | .put d=>DocOk d
 | .change n d=>n<10^60∧DocOk d
 | .bare w=>w∈Ax
 | .one w n=>w∈Ca∧n<10^60
 | .pour n m=>n<10^60∧m<10^60
theorem A7{T:Type}[DecidableEq T]{a:T}{l:List T}(h:a∈l):i8 a l=true:=by unfold i8;exact decide_eq_true h
theorem K8{T:Type}[DecidableEq T]{a:T}{l:List T}(h:i8 a l=true):a∈l:=by unfold i8 at h;exact of_decide_eq_true h
theorem KD{T:Type}[DecidableEq T]{a:T}{l:List T}(h:a∉l):i8 a l=false:=by unfold i8;exact decide_eq_false h
theorem AS{s d:List Int}(hd:Dr d):Sat (cT s d) fun r=>(∃ n:Nat,r.1=n∧n<10^60)∧Dr r.2:=by
 unfold cT
 refine av (eC (la hd)) fun o ho=>?_
 refine av (vy s o.1) fun L ⟨l1,l2⟩=>?_
 have nat:∀ {x:Int},0≤x→x<10^60→∃ n:Nat,x=n∧n<10^60:=fun {x} h1 h2=>⟨x.toNat,by omega,by omega⟩
 refine av (P:=fun(x:Int)=>∃ n:Nat,x=n∧n<10^60) ?_ fun x hx=>az ⟨hx,ho.2.2⟩
 have h4:=hJ (a:=o.1) (m:=4) (by decide)
 have h4':=hJ (a:=o.1/4) (m:=4) (by decide)
 have h10:=hJ (a:=o.1/4) (m:=10) (by decide)
 refine av (P:=fun(l:List Int)=>l.length=4∧∀ x∈l,∃ n:Nat,x=n∧n<10^60) ?_ fun l hl=>lb h4.1 (by rw[hl.1];exact h4.2) hl.2
 refine av (P:=fun(z:Int×Int×Unit)=>(0≤z.1∧z.1<10^60)∧(0≤z.2.1∧z.2.1<10^60)) ?_ fun z hz=>az ⟨rfl,fun x hx=>?_⟩
 ·refine av (P:=fun(x:Int)=>0≤x∧x<10^60) ?_ fun x hx=>av (P:=fun(w:Int×Unit)=>0≤w.1∧w.1<10^60) ?_ fun w hw=>az ⟨hx,hw⟩
  ·refine av (P:=fun _=>True) ?_ fun y _=>?_
   ·rw[nS (by omega),M.aa]
    have hj:=hJ (a:=o.1/4) (m:=(L.length:Int)) (by omega)
    exact lb hj.1 hj.2 fun _ _=>trivial
   ·rw[zW (by decide) (by decide) (by decide),M.aa,nS (by decide)]
    exact az (hJ (by decide))
  ·rw[zW (by decide) (by decide) (by decide)]
   simp only[M.aa]
   refine az ?_
   have h1:=ho.1
   have h2:=ho.2.1
   show 0≤(10:Int)^(59:Int).toNat+o.1∧(10:Int)^(59:Int).toNat+o.1<10^60
   have e:(10:Int)^(59:Int).toNat=10^59:=rfl
   rw[e]
   omega
 ·simp only[List.mem_cons,List.not_mem_nil,or_false]at hx
  rcases hx with rfl | rfl | rfl | rfl
  ·exact nat h10.1 (by omega)
  ·exact nat h4'.1 (by omega)
  ·exact nat hz.1.1 hz.1.2
  ·exact nat hz.2.1 hz.2.2
theorem C1{s d:List Int}(hd:Dr d):Sat (nv s d) fun r=>(∃ q,r.1=aV q∧i7 q)∧Dr r.2:=by
 unfold nv
 refine av (eC (la hd)) fun o ho=>?_
 have h11:=hJ (a:=o.1) (m:=11) (by decide)
 refine av (lb (P:=fun w=>w∈[sS "put",sS "change",sS "take",sS "stamp",sS "drop",sS "seal",sS "pour",sS "thin",sS "pack"]) h11.1 (by simpa using h11.2) (fun a ha=>?_)) fun w hw=>?_
 ·simp only[List.mem_cons,List.not_mem_nil,or_false]at ha ⊢
  rcases ha with h | h | h | h | h | h | h | h | h | h | h<;> simp[h]
 have hdd:=ho.2.2
 have doc:Sat ((nox (dA o.2)).bind fun v=>M.ok ((eL (bo D.str D.str)) v.1,v.2)) fun r=>(∃ x,r.1=er x∧DocOk x)∧Dr r.2:=av (eC (p0 hdd)) fun v hv=>az ⟨⟨v.1,rfl,hv.1⟩,hv.2⟩
 have num:∀ {d:List Int},Dr d→Sat ((nox (cT s d)).bind fun v=>M.ok (D.int v.1,v.2)) fun r=>(∃ n:Nat,r.1=.int (n:Int)∧n<10^60)∧Dr r.2:=fun {d} h=>av (eC (AS h)) fun v ⟨⟨n,e,hn⟩,h2⟩=>az ⟨⟨n,by rw[e],hn⟩,h2⟩
 by_cases c1:w=sS "put"
 ·rw[if_pos (by rw[c1];exact decide_eq_true rfl)]
  refine av (P:=fun(r:D×List Int)=>(∃ q,r.1=aV q∧i7 q)∧Dr r.2) ?_ fun v hv=>az hv
  refine av (P:=fun(z:(D×List Int)×Unit)=>(∃ x,z.1.1=er x∧DocOk x)∧Dr z.1.2) (av doc fun v hv=>az hv) fun z ⟨⟨x,e,hx⟩,h2⟩=>az ⟨⟨.put x,?_,hx⟩,h2⟩
  rw[c1,e]
  rfl
 ·rw[if_neg (by intro h;exact c1 (of_decide_eq_true h))]
  by_cases c2:w=sS "change"
  ·rw[if_pos (by rw[c2];exact decide_eq_true rfl)]
   refine av (P:=fun(r:D×List Int)=>(∃ q,r.1=aV q∧i7 q)∧Dr r.2) ?_ fun v hv=>az hv
   refine av (P:=fun(z:(D×List Int)×(D×List Int)×Unit)=>(∃ n:Nat,z.1.1=.int (n:Int)∧n<10^60)∧(∃ x,z.2.1.1=er x∧DocOk x)∧Dr z.2.1.2) ?_ fun z ⟨⟨n,e1,hn⟩,⟨x,e,hx⟩,h2⟩=>az ⟨⟨.change n x,?_,hn,hx⟩,h2⟩
   ·refine av (num hdd) fun a ⟨ha,ha2⟩=>av (P:=fun(z:(D×List Int)×Unit)=>(∃ x,z.1.1=er x∧DocOk x)∧Dr z.1.2) (av (av (eC (p0 ha2)) fun v hv=>az (P:=fun(r:D×List Int)=>(∃ x,r.1=er x∧DocOk x)∧Dr r.2) ⟨⟨v.1,rfl,hv.1⟩,hv.2⟩) fun v hv=>az hv) fun z hz=>az ⟨ha,hz⟩
   ·rw[c2,e1,e]
    rfl
  ·rw[if_neg (by intro h;exact c2 (of_decide_eq_true h))]
   by_cases c3:w∈[sS "stamp",sS "seal",sS "thin"]
   ·rw[if_pos (A7 c3)]
    exact az ⟨⟨.bare w,rfl,c3⟩,hdd⟩
   ·rw[if_neg (fun h=>c3 (K8 h))]
    by_cases c4:w=sS "pour"
    ·rw[if_pos (by rw[c4];exact decide_eq_true rfl)]
     refine av (P:=fun(r:D×List Int)=>(∃ q,r.1=aV q∧i7 q)∧Dr r.2) ?_ fun v hv=>az hv
     refine av (P:=fun(z:(D×List Int)×(D×List Int)×Unit)=>(∃ n:Nat,z.1.1=.int (n:Int)∧n<10^60)∧(∃ n:Nat,z.2.1.1=.int (n:Int)∧n<10^60)∧Dr z.2.1.2) ?_ fun z ⟨⟨n,e1,hn⟩,⟨m,e,hm⟩,h2⟩=>az ⟨⟨.pour n m,?_,hn,hm⟩,h2⟩
     ·refine av (num hdd) fun a ⟨ha,ha2⟩=>av (P:=fun(z:(D×List Int)×Unit)=>(∃ n:Nat,z.1.1=.int (n:Int)∧n<10^60)∧Dr z.1.2) (av (num ha2) fun v hv=>az hv) fun z hz=>az ⟨ha,hz⟩
     ·rw[c4,e1,e]
      rfl
    ·rw[if_neg (by intro h;exact c4 (of_decide_eq_true h))]
     refine av (P:=fun(r:D×List Int)=>(∃ q,r.1=aV q∧i7 q)∧Dr r.2) ?_ fun v hv=>az hv
     refine av (P:=fun(z:(D×List Int)×Unit)=>(∃ n:Nat,z.1.1=.int (n:Int)∧n<10^60)∧Dr z.1.2) (av (num hdd) fun v hv=>az hv) fun z ⟨⟨n,e1,hn⟩,h2⟩=>az ⟨⟨.one w n,?_,?_,hn⟩,h2⟩
     ·rw[e1]
      rfl
     ·simp only[List.mem_cons,List.not_mem_nil,or_false]at hw c3
      unfold Ca
      simp only[List.mem_cons,List.not_mem_nil,or_false]
      rcases hw with h | h | h | h | h | h | h | h | h<;> simp_all
end K33
namespace K33
open PySem L2 PyProof.Rows Vw
theorem eS(a:List Nat):TL.tl (Vw.st a)=a:=by simp[TL.tl,Vw.st]
theorem BX(a b:List Nat):Vw.st (a++b)=Vw.st a++Vw.st b:=TL.ext_tl (by rw[TL.tl_append,eS,eS,eS])
theorem CZ{a b:List Nat}(h:32∉a):mC (a++32::b) [32]=(a,[32],b):=by
 have e:=TL.partition_app (y:=Vw.st [32]) (s:=32) (S:=[]) (eS [32]) (a:=Vw.st a) (b:=Vw.st b) (by rw[eS];exact h)
 rw[←BX,←BX,List.append_assoc,List.singleton_append]at e
 unfold mC
 rw[e]
 show(TL.tl (Vw.st a),TL.tl (Vw.st [32]),TL.tl (Vw.st b))=_
 rw[eS,eS,eS]
theorem BO{a:List Nat}(h:32∉a):mC a [32]=(a,[],[]):=by
 have e:=TL.partition_none (y:=Vw.st [32]) (s:=32) (S:=[]) (eS [32]) (a:=Vw.st a) (by rw[eS];exact h)
 unfold mC
 rw[e]
 show(TL.tl (Vw.st a),TL.tl Str.empty,TL.tl Str.empty)=_
 rw[eS]
 rfl
theorem zu(a:List Nat):sx a [32]=TL.spl [32] 0 [] a:=by
 have e:=TL.split_spl (Vw.st a) (Vw.st [32]) (by rw[eS];simp) (TL.kind_ok (by kernel_rfl))
 rw[eS,eS]at e
 exact e
theorem Dq{a:List Nat}(h:32∉a):sx a [32]=[a]:=by
 rw[zu,TL.spl_last1 h]
 rfl
theorem CT{a b:List Nat}(ha:32∉a)(hb:32∉b):sx (a++32::b) [32]=[a,b]:=by
 rw[zu]
 have e:a++32::b=a++(32::[]++b):=rfl
 rw[e,TL.spl_part1 ha,TL.spl_last1 hb]
 rfl
def qt(t:List Nat):List Nat:=t.flatMap fun c=>if c=39 then [39,39]else [c]
theorem qY(c:Nat)(t:List Nat):qt (c::t)=(if c=39 then [39,39]else [c])++qt t:=by
 unfold qt
 rw[List.flatMap_cons]
theorem sG:∀ t:List Nat,StrLaws.replL [39] [39,39] t=qt t
 | []=>by rw[StrLaws.replL_nil];rfl
 | c::t=>by
  rw[qY]
  by_cases h:c=39
  ·rw[StrLaws.replL_hit (by simp) (by rw[h];rfl),if_pos h,←sG t]
   rfl
  ·rw[StrLaws.replL_miss (by simpa using h),if_neg h,←sG t]
   rfl
theorem FO(t:List Nat):yi t [39] [39,39]=qt t:=by
 unfold yi
 rw[StrLaws.replace_list (by decide)]
 rw[←sG]
 show StrLaws.replL (TL.tl (Vw.st [39])) (TL.tl (Vw.st [39,39])) (TL.tl (Vw.st t))=_
 rw[eS,eS,eS]
theorem ua:∀ t:List Nat,(qt t).length≤2*t.length
 | []=>by simp[qt]
 | c::t=>by
  have:=ua t
  rw[qY]
  split<;> simp<;> omega
theorem nO(n:Nat):bU (n:Int)=TL.numL n:=TL.tl_num n
theorem dP{n:Nat}(h:n<10^60):1≤(bU (n:Int)).length∧(bU (n:Int)).length≤60:=by
 rw[nO]
 exact⟨List.length_pos_iff.mpr (TL.numL_ne n),TL.numL_len (by decide) h⟩
theorem tK(n:Nat):32∉bU (n:Int):=by rw[nO];exact TL.numL_free (.inl (by decide))
theorem E4(n:Nat):∀ c∈bU (n:Int),c∈sS "0123456789":=by
 rw[nO]
 intro c hc
 have:=TL.numL_digits n c hc
 have all:∀ k∈List.range 10,48+k∈sS "0123456789":=by decide+kernel
 have:=all (c- 48) (List.mem_range.mpr (by omega))
 rwa[show 48+(c- 48)=c by omega]at this
theorem BQ(n:Nat):n≠0→∀ c t,bU (n:Int)=c::t→c≠48:=by
 rw[nO]
 induction n using Nat.strongRecOn with
 | _ n ih=>
  intro hn c t e
  by_cases h:n<10
  ·rw[TL.numL_lt h]at e
   cases e
   omega
  ·rw[TL.numL_step (by omega)]at e
   cases en:TL.numL (n/10)with
   | nil=>exact absurd en (TL.numL_ne _)
   | cons c' t'=>
    rw[en]at e
    cases e
    exact ih (n/10) (by omega) (by omega) c t' en
theorem CV:bU ((0:Nat):Int)=[48]:=by rw[nO,TL.numL_lt (by decide)]
theorem E7{n:Nat}(h:n<10^60):yf (bU (n:Int))=.ok (n:Int):=by
 have hl:=(dP h).2
 have hl2:(TL.numL n).length≤60:=TL.numL_len (by decide) h
 unfold yf zx
 have e:(⟨(bU (n:Int)).toArray⟩:Str)=Str.ofString (toString (n:Int)):=by unfold bU;simp
 rw[e,TL.int_num (by omega)]
 dsimp only
 rw[if_pos (by omega)]
theorem str_ok{n:Nat}(h:n<10^60):o6 (n:Int)=.ok (bU (n:Int)):=by
 unfold o6
 have:((n:Int)).natAbs.log2<1920:=by
  rw[Int.natAbs_natCast]
  by_cases h0:n=0
  ·subst h0;decide
  ·exact Nat.lt_of_lt_of_le ((Nat.log2_lt h0).mpr (Nat.lt_of_lt_of_le h (show 10^60≤2^200 by decide))) (by decide)
 rw[bP (decide_eq_true this),M.aa]
theorem gQ{T:Type}[DecidableEq T](a:T):eqB a a=true:=by unfold eqB;exact decide_eq_true rfl
theorem iT{T:Type}[DecidableEq T]{a b:T}(h:a≠b):eqB a b=false:=by unfold eqB;exact decide_eq_false h
theorem vF{T:Type}(F:Unit→T→M Unit):∀ l:List T,(∀ x∈l,F () x=.ok ())→foldM F () l=.ok ()
 | [],_=>rfl
 | x::l,h=>by rw[bH,h x (by simp),M.aa,vF F l fun y hy=>h y (by simp[hy])]
theorem p6{n:Nat}(h:n<10^60):eZ (bU (n:Int))=.ok (n:Int):=by
 obtain⟨l1,l2⟩:=dP h
 unfold eZ
 rw[iO (by omega)]
 simp only[M.aa]
 rw[decide_eq_true (by omega)]
 simp only[if_true,M.aa]
 rw[decide_eq_true (by omega)]
 simp only[qK,if_true]
 have h0:(orM ((ic (bU (n:Int)) (0:Int)).bind fun a4=>M.ok (!(eqB a4 (sS "0")))) (M.ok (eqB (bU (n:Int)) (sS "0"))))=.ok true:=by
  have e0:sS "0"=[48]:=by kernel_rfl
  rw[e0]
  cases e:bU (n:Int)with
  | nil=>rw[e]at l1;simp at l1
  | cons c t=>
   have ex:ic (c::t) (0:Int)=.ok [c]:=by
    unfold ic
    rw[bP (decide_eq_true (by rw[←e,zL];omega)),M.aa,show(0:Int)=((0:Nat):Int)from rfl,Vw.atI_nat (by simp)]
    rfl
   rw[ex,M.aa]
   by_cases hn:n=0
   ·have ez:(c::t)=[48]:=by rw[←e,hn];exact CV
    rw[ez]
    cases ez
    rfl
   ·have:=BQ n hn c t e
    rw[iT (by simpa using this)]
    rfl
 rw[h0]
 simp only[M.aa]
 rw[show fW true=.ok ()from rfl,M.aa,vF]
 ·rw[M.aa,E7 h]
  rfl
 ·intro x hx
  unfold chars at hx
  obtain⟨c,hc,e⟩:=List.mem_map.mp hx
  subst e
  rw[sV,decide_eq_true (E4 n c hc)]
  rfl
end K33
namespace K33
open PySem L2 PyProof.Rows Vw
theorem om:sS " "=[32]:=by kernel_rfl
theorem AE:sS "'"=[39]:=by kernel_rfl
theorem Gx:sS "''"=[39,39]:=by kernel_rfl
theorem Ha:sS ":'"=[58,39]:=by kernel_rfl
theorem K7:sS ":"=[58]:=by kernel_rfl
theorem CA:sS ""=[]:=by kernel_rfl
theorem KU:sS " none"=32::sS "none":=by kernel_rfl
def fld(x:List Nat×List Nat):List Nat:=x.1++58::39::(qt x.2++[39])
def fK(d:Doc):List Nat:=if d=[]then sS "none" else TL.joinL [32] (d.map fld)
def hV:Dd→List Nat
 | .put d=>sS "put"++32::fK d
 | .change n d=>sS "change"++32::(bU (n:Int)++32::fK d)
 | .bare w=>w
 | .one w n=>w++32::bU (n:Int)
 | .pour n m=>sS "pour"++32::(bU (n:Int)++32::bU (m:Int))
theorem nP{x:List Nat×List Nat}(h:gu x.1∧x.2.length≤10):(fld x).length≤40:=by
 have h1:=h.1.2.1
 have h2:=ua x.2
 unfold fld
 simp
 omega
theorem yh(a:List Nat):∀ (u:List Nat) (r:Ws),TL.joinL a (u::r)=u++r.flatMap fun w=>a++w
 | u,[]=>by simp[TL.joinL]
 | u,v::r=>by
  rw[TL.joinL,yh a v r,List.flatMap_cons]
  simp
def fU(d:Doc):List Nat:=d.flatMap fun x=>32::fld x
theorem iM(x:List Nat×List Nat)(d:Doc):fK (x::d)=fld x++fU d:=by
 unfold fK fU
 rw[if_neg (by simp),List.map_cons,yh,List.flatMap_map]
 rfl
theorem jx(x:List Nat×List Nat)(d:Doc):fU (x::d)=32::(fld x++fU d):=by
 unfold fU
 rw[List.flatMap_cons]
 simp
theorem z9:∀ d:Doc,(∀ x∈d,gu x.1∧x.2.length≤10)→(fU d).length≤41*d.length
 | [],h=>by simp[fU]
 | x::d,h=>by
  have a:=z9 d fun y hy=>h y (by simp[hy])
  have b:=nP (h x (by simp))
  rw[jx]
  simp
  omega
theorem mh{d:Doc}(h:DocOk d):(fK d).length≤170:=by
 cases d with
 | nil=>unfold fK;rw[if_pos rfl];decide+kernel
 | cons x d=>
  have a:=z9 d fun y hy=>h.2.1 y (by simp[hy])
  have b:=nP (h.2.1 x (by simp))
  have c:=h.1
  rw[iM]
  simp at c ⊢
  omega
theorem wA{x:List Nat×List Nat}(h:gu x.1∧x.2.length≤10):ff x.1 x.2=.ok (fld x):=by
 have h1:=h.1.2.1
 have h2:=h.2
 have h3:=ua x.2
 unfold ff
 rw[Ha,AE,Gx,dc (by simp;omega),M.aa]
 have e:xm x.2 [39] [39,39]=.ok (qt x.2):=by
  unfold xm
  rw[bP (decide_eq_true (by simp;omega)),M.aa,FO]
 rw[e]
 simp only[M.aa]
 rw[dc (by simp;omega),M.aa,dc (by simp;omega),M.aa]
 unfold fld
 simp
theorem yI:∀ (l:Doc) (acc:Ws),(∀ x∈l,gu x.1∧x.2.length≤10)→acc.length+l.length≤1000→ef (fun(bc:List Nat×List Nat)=>M.ok true) (fun(bc:List Nat×List Nat)=>nox (ff bc.1 bc.2)) acc l=.ok (acc++l.map fld)
 | [],acc,h,hl=>by simp[ef]
 | x::l,acc,h,hl=>by
  simp only[List.length_cons]at hl
  unfold ef
  rw[M.aa,if_pos rfl,wA (h x (by simp)),fm,M.aa,bP (decide_eq_true (by rw[zL];omega)),M.aa,yI l _ (fun y hy=>h y (by simp[hy])) (by simp;omega)]
  simp
theorem zS:∀ l:Doc,(∀ x∈l,gu x.1∧x.2.length≤10)→((l.map fld).map (·.length)).sum≤40*l.length
 | [],_=>by simp
 | x::l,h=>by
  have a:=zS l fun y hy=>h y (by simp[hy])
  have b:=nP (h x (by simp))
  simp only[List.map_cons,List.sum_cons,List.length_cons]at a ⊢
  omega
theorem x9{d:Doc}(h:DocOk d):eV d=.ok (fK d):=by
 unfold eV
 have hl:=h.1
 by_cases e:d=[]
 ·subst e
  rfl
 ·have:¬ (d.length:Int)=0:=fun z=>e (List.length_eq_zero_iff.mp (by omega))
  rw[iT this]
  simp only[Bool.false_eq_true,if_false]
  unfold dH
  rw[yI d [] h.2.1 (by simp;omega),fm]
  simp only[M.aa,List.nil_append]
  unfold joinM
  have hs:=zS d h.2.1
  rw[om,bP (decide_eq_true (by simp only[List.length_map,List.length_cons,List.length_nil];omega)),M.aa,sL]
  unfold fK
  rw[if_neg e]
  rfl
theorem oI(t:List Nat):js (.str t)=.ok t:=rfl
theorem AQ(t:Int):pq (.int t)=.ok t:=rfl
theorem IH{T:Type}{e:T→D}{f:D→M T}(hf:∀ a,f (e a)=.ok a)(l:List T):tP f (eL e l)=.ok l:=by
 show nD f (l.map e)=_
 induction l with
 | nil=>rfl
 | cons a l ih=>rw[List.map_cons,nD,hf,M.aa,ih];rfl
theorem xD(d:Doc):tP (mw js js) (er d)=.ok d:=IH (e:=bo D.str D.str) (fun _=>rfl) d
theorem EV(d:Doc):oO (er d) ((eL eY) ([]:List D))=.ok (decide (d=[])):=by
 have E:EqE er _:=qL (Mp qS qS)
 have h1:=E.cmp (by decide) d []
 have h2:=E.eq d []
 show oO (er d) (er [])=_
 unfold oO
 rw[if_pos h1,h2]
theorem nW{l:Ws}(h:(l.map (·.length)).sum≤1000)(h2:l.length≤10):joinM (sS " ") l=.ok (TL.joinL [32] l):=by
 unfold joinM
 rw[om,bP (decide_eq_true (by simp only[List.length_cons,List.length_nil];omega)),M.aa,sL]
theorem rZ{w:List Nat}(h:w∈Ax∨w∈Ca):w.length≤5:=by
 have:∀ w∈Ax++Ca,w.length≤5:=by decide+kernel
 exact this w (List.mem_append.mpr h)
theorem xE{q:Dd}(h:i7 q):ny (aV q)=.ok (hV q):=by
 unfold ny
 cases q with
 | put d=>
  have h0:m6 (aV (.put d)) (0:Int)=.ok (.str (sS "put")):=rfl
  have h1:mJ (aV (.put d)) (some (1:Int)) none=.ok (.tup [er d]):=rfl
  have hd:iZ (er d)=.ok true:=rfl
  have hl:=mh h
  have h3:(sS "put").length=3:=by decide+kernel
  simp only[h0,h1,M.aa,oI,jN,bH,eF,hd,if_true,xD,x9 h,fm]
  rw[eB (by simp),M.aa]
  simp only[M.aa]
  rw[nW (by simp;omega) (by simp)]
  rfl
 | change n d=>
  obtain⟨hn,hd2⟩:=h
  have h0:m6 (aV (.change n d)) (0:Int)=.ok (.str (sS "change")):=rfl
  have h1:mJ (aV (.change n d)) (some (1:Int)) none=.ok (.tup [.int n,er d]):=rfl
  have hd:iZ (er d)=.ok true:=rfl
  have hi:iZ (.int (n:Int))=.ok false:=rfl
  have hl:=mh hd2
  have hln:=(dP hn).2
  have h3:(sS "change").length=6:=by decide+kernel
  simp only[h0,h1,M.aa,oI,AQ,jN,bH,eF,hd,hi,if_true,if_false,Bool.false_eq_true,xD,x9 hd2,fm,str_ok hn]
  rw[eB (by simp),M.aa]
  simp only[M.aa]
  rw[eB (by simp),M.aa]
  simp only[M.aa]
  rw[nW (by simp;omega) (by simp)]
  rfl
 | bare w=>
  have h0:m6 (aV (.bare w)) (0:Int)=.ok (.str w):=rfl
  have h1:mJ (aV (.bare w)) (some (1:Int)) none=.ok (.tup []):=rfl
  have hw:=rZ (.inl h)
  simp only[h0,h1,M.aa,oI,jN,eF]
  rw[nW (by simp;omega) (by simp)]
  rfl
 | one w n=>
  obtain⟨hw,hn⟩:=h
  have h0:m6 (aV (.one w n)) (0:Int)=.ok (.str w):=rfl
  have h1:mJ (aV (.one w n)) (some (1:Int)) none=.ok (.tup [.int n]):=rfl
  have hi:iZ (.int (n:Int))=.ok false:=rfl
  have hln:=(dP hn).2
  have hw:=rZ (.inr hw)
  simp only[h0,h1,M.aa,oI,AQ,jN,bH,eF,hi,if_true,if_false,Bool.false_eq_true,fm,str_ok hn]
  rw[eB (by simp),M.aa]
  simp only[M.aa]
  rw[nW (by simp;omega) (by simp)]
  rfl
 | pour n m=>
  obtain⟨hn,hm⟩:=h
  have h0:m6 (aV (.pour n m)) (0:Int)=.ok (.str (sS "pour")):=rfl
  have h1:mJ (aV (.pour n m)) (some (1:Int)) none=.ok (.tup [.int n,.int m]):=rfl
  have hi:iZ (.int (n:Int))=.ok false:=rfl
  have hj:iZ (.int (m:Int))=.ok false:=rfl
  have hln:=(dP hn).2
  have hlm:=(dP hm).2
  have h3:(sS "pour").length=4:=by decide+kernel
  simp only[h0,h1,M.aa,oI,AQ,jN,bH,eF,hi,hj,if_true,if_false,Bool.false_eq_true,fm,str_ok hn,str_ok hm]
  rw[eB (by simp),M.aa]
  simp only[M.aa]
  rw[eB (by simp),M.aa]
  simp only[M.aa]
  rw[nW (by simp;omega) (by simp)]
  rfl
end K33
namespace K33
open PySem L2 PyProof.Rows Vw
def gL:List Nat→List Nat→M (List Nat):=(fun(c75:List Nat) (cS:List Nat)=>((bw c75 cS).bind fun a77=>(d7 [(sS ""),(sS "'")] (if(eqB cS (sS "'"))=true then(1:Int)else 0)).bind fun a78=>bw a77 a78).bind fun f7=>M.ok f7)
def hL:List Nat→List Nat×(List Nat)→M (List Nat):=(fun(c70:List Nat) (bN:List Nat×List Nat)=>(((bw c70 (sS " ")).bind fun a72=>bw a72 bN.1).bind fun a73=>bw a73 (sS ":'")).bind fun g0=>(foldM gL g0 (chars bN.2)).bind fun r80=>(bw r80 (sS "'")).bind fun ij=>M.ok ij)
def lL:List Nat→D→M (List Nat):=(fun(c3:List Nat) (one4:D)=>((((M.ok one4).bind nI).bind fun b5=>if b5=true then(((bw c3 (sS " ")).bind fun a45=>((((M.ok one4).bind pq).bind fun a46=>(M.ok ()).bind fun w47=>M.ok (a46,w47)).bind fun z48=>o6 z48.1).bind fun a49=>bw a45 a49).bind fun ke=>M.ok ke)else((((oO one4 ((eL eY) ([]:List D))).bind fun b51=>if b51=true then((bw c3 (sS " none")).bind fun kf=>M.ok kf)else((((M.ok one4).bind (tP (mw js js))).bind fun a69=>foldM hL c3 a69).bind fun r82=>M.ok r82)):M (List Nat)).bind fun j67=>M.ok j67)):M (List Nat)).bind fun j44=>M.ok j44)
theorem E6(d:D):nr d=((m6 d (0:Int)).bind js).bind fun oK=>(((mJ d (some (1:Int)) (none:Option Int)).bind jN).bind fun a2=>foldM lL oK a2).bind fun r83=>M.ok (r83):=rfl
theorem Jc{c:List Nat}{s:Nat}(h:c.length≤1000):gL c [s]=.ok (c++(if s=39 then [39,39]else [s])):=by
 unfold gL
 rw[AE,CA,dc (by simp;omega),M.aa]
 by_cases e:s=39
 ·rw[if_pos e,e,gQ,if_pos rfl]
  rw[show d7 [([]:List Nat),[39]] (1:Int)=.ok [39]from rfl,M.aa,dc (by simp;omega),M.aa]
  simp
 ·rw[if_neg e,iT (by simpa using e)]
  simp only[Bool.false_eq_true,if_false]
  rw[show d7 [([]:List Nat),[39]] (0:Int)=.ok []from rfl,M.aa,dc (by simp;omega),M.aa]
  simp
theorem zB:∀ (t c:List Nat),c.length+2*t.length≤900→foldM gL c (chars t)=.ok (c++qt t)
 | [],c,h=>by show M.ok c=_;simp[qt]
 | s::t,c,h=>by
  simp only[List.length_cons]at h
  show foldM gL c ([s]::chars t)=_
  rw[bH,Jc (by omega),M.aa,zB t _ (by split<;> simp<;> omega),qY]
  simp
theorem I4{c:List Nat}{x:List Nat×List Nat}(hx:gu x.1∧x.2.length≤10)(h:c.length≤500):hL c x=.ok (c++32::fld x):=by
 have h1:=hx.1.2.1
 have h2:=hx.2
 have h3:=ua x.2
 unfold hL
 rw[om,Ha,AE,dc (by simp;omega),M.aa,dc (by simp;omega),M.aa,dc (by simp;omega),M.aa]
 rw[zB _ _ (by simp;omega),M.aa,dc (by simp;omega),M.aa]
 unfold fld
 simp
theorem zv:∀ (d:Doc) (c:List Nat),(∀ x∈d,gu x.1∧x.2.length≤10)→c.length+41*d.length≤500→foldM hL c d=.ok (c++fU d)
 | [],c,h,hl=>by simp[fU]
 | x::d,c,h,hl=>by
  have hf:=nP (h x (by simp))
  simp only[List.length_cons]at hl
  rw[bH,I4 (h x (by simp)) (by omega),M.aa,zv d _ (fun y hy=>h y (by simp[hy])) (by simp;omega),jx]
  simp
theorem sO{c:List Nat}{n:Nat}(hn:n<10^60)(h:c.length≤300):lL c (.int (n:Int))=.ok (c++32::bU (n:Int)):=by
 have hl:=(dP hn).2
 unfold lL
 simp only[M.aa,show nI (.int (n:Int))=.ok true from rfl,if_true,AQ,str_ok hn]
 rw[om,dc (by simp;omega),M.aa,dc (by simp;omega),M.aa]
 simp
theorem Cq{c:List Nat}{d:Doc}(hd:DocOk d)(h:c.length≤300):lL c (er d)=.ok (c++32::fK d):=by
 unfold lL
 simp only[M.aa,show nI (er d)=.ok false from rfl,Bool.false_eq_true,if_false,EV]
 by_cases e:d=[]
 ·rw[decide_eq_true e]
  simp only[if_true]
  rw[KU,dc (by rw[List.length_cons];have:(sS "none").length=4:=(by decide+kernel);omega)]
  simp only[M.aa]
  unfold fK
  rw[if_pos e]
 ·rw[decide_eq_false e]
  simp only[Bool.false_eq_true,if_false]
  rw[xD,M.aa,zv d c hd.2.1 (by have:=hd.1;omega)]
  simp only[M.aa]
  cases d with
  | nil=>exact absurd rfl e
  | cons x d=>rw[iM,jx]
theorem E2{q:Dd}(h:i7 q):nr (aV q)=.ok (hV q):=by
 rw[E6]
 cases q with
 | put d=>
  have h0:m6 (aV (.put d)) (0:Int)=.ok (.str (sS "put")):=rfl
  have h1:mJ (aV (.put d)) (some (1:Int)) none=.ok (.tup [er d]):=rfl
  have h3:(sS "put").length=3:=by decide+kernel
  rw[h0,h1]
  simp only[M.aa,oI,jN]
  rw[bH,Cq h (by omega),M.aa,eF,M.aa]
  rfl
 | change n d=>
  obtain⟨hn,hd⟩:=h
  have h0:m6 (aV (.change n d)) (0:Int)=.ok (.str (sS "change")):=rfl
  have h1:mJ (aV (.change n d)) (some (1:Int)) none=.ok (.tup [.int n,er d]):=rfl
  have h3:(sS "change").length=6:=by decide+kernel
  have hl:=(dP hn).2
  rw[h0,h1]
  simp only[M.aa,oI,jN]
  rw[bH,sO hn (by omega),M.aa,bH,Cq hd (by simp;omega),M.aa,eF,M.aa]
  show M.ok _=M.ok (sS "change"++32::(bU (n:Int)++32::fK d))
  simp
 | bare w=>
  have h0:m6 (aV (.bare w)) (0:Int)=.ok (.str w):=rfl
  have h1:mJ (aV (.bare w)) (some (1:Int)) none=.ok (.tup []):=rfl
  rw[h0,h1]
  rfl
 | one w n=>
  obtain⟨hw,hn⟩:=h
  have h0:m6 (aV (.one w n)) (0:Int)=.ok (.str w):=rfl
  have h1:mJ (aV (.one w n)) (some (1:Int)) none=.ok (.tup [.int n]):=rfl
  have hw:=rZ (.inr hw)
  rw[h0,h1]
  simp only[M.aa,oI,jN]
  rw[bH,sO hn (by omega),M.aa,eF,M.aa]
  rfl
 | pour n m=>
  obtain⟨hn,hm⟩:=h
  have h0:m6 (aV (.pour n m)) (0:Int)=.ok (.str (sS "pour")):=rfl
  have h1:mJ (aV (.pour n m)) (some (1:Int)) none=.ok (.tup [.int n,.int m]):=rfl
  have h3:(sS "pour").length=4:=by decide+kernel
  have hl:=(dP hn).2
  rw[h0,h1]
  simp only[M.aa,oI,jN]
  rw[bH,sO hn (by omega),M.aa,bH,sO hm (by simp;omega),M.aa,eF,M.aa]
  show M.ok _=M.ok (sS "pour"++32::(bU (n:Int)++32::bU (m:Int)))
  simp
end K33
namespace K33
open PySem L2 PyProof.Rows Vw
def rs(P X:List Nat):List Nat×Int:=(P++X,(P.length:Int))
theorem rQ{P X:List Nat}{k:Nat}(h:P.length+X.length≤100000):au (rs P X) (k:Int)=.ok (X.take k):=by
 unfold au rs
 dsimp only
 rw[BN (by simp;omega),M.aa]
 rw[show(P.length:Int)+(k:Int)=((P.length+k:Nat):Int)from(Int.natCast_add ..).symm,sA,Nat.add_sub_cancel_left,List.drop_left]
theorem pM{P X:List Nat}(h:P.length+X.length≤100000):au (rs P X) (1:Int)=.ok (X.take 1):=rQ (k:=1) h
theorem Cf{P X:List Nat}(h:P.length+X.length≤100000):au (rs P X) (2:Int)=.ok (X.take 2):=rQ (k:=2) h
theorem lY:fW true=.ok ():=rfl
theorem uj{P t Y:List Nat}(h:P.length+(t++Y).length≤100000):aN (rs P (t++Y)) t=.ok ((),rs (P++t) Y):=by
 have hl:(t++Y).length=t.length+Y.length:=by simp
 unfold aN
 rw[iO (by omega)]
 simp only[M.aa]
 rw[rQ h,fm,M.aa,List.take_left,gQ]
 simp only[M.aa]
 rw[lY]
 simp only[M.aa]
 unfold rs
 simp
theorem xV{S:List Nat}:∀ (w P Y:List Nat) (n:Nat),(∀ c∈w,c∈S)→(∀ c,Y.head? =some c→c∉S)→w.length<n→P.length+w.length+Y.length≤100000→
  nQ (fun(c1:List Nat×Int)=>andM ((iF c1.1).bind fun a2=>M.ok (decide (c1.2<a2))) ((ic c1.1 c1.2).bind fun a3=>M.ok (subIn a3 S))) (fun(c1:List Nat×Int)=>((M.ok (1:Int)).bind fun a4=>M.ok (c1.1,(c1.2+a4))).bind fun d5=>M.ok d5) n (rs P (w++Y))=.ok (rs (P++w) Y)
 | [],P,Y,0,h1,h2,h3,h4=>by omega
 | [],P,Y,n+1,h1,h2,h3,h4=>by
  rw[List.append_nil]
  refine uC ?_
  unfold rs
  dsimp only[List.nil_append]
  rw[iO (by simp at h4 ⊢;omega)]
  simp only[M.aa]
  cases Y with
  | nil=>
   rw[decide_eq_false (by simp)]
   rfl
  | cons c Y=>
   rw[decide_eq_true (by simp;omega)]
   simp only[qK,if_true]
   unfold ic
   rw[bP (decide_eq_true (by simp at h4 ⊢;rw[zL];omega)),M.aa,Vw.atI_nat (by simp)]
   simp only[List.getElem_append_right,Nat.le_refl,Nat.sub_self,List.getElem_cons_zero,M.aa]
   rw[sV,decide_eq_false (h2 c rfl)]
 | c::w,P,Y,0,h1,h2,h3,h4=>by omega
 | c::w,P,Y,n+1,h1,h2,h3,h4=>by
  have hl:P.length+(c::w++Y).length≤100000:=by simp at h4 ⊢;omega
  rw[n7 (c':=rs (P++[c]) (w++Y)) ?_ ?_]
  ·rw[xV w (P++[c]) Y n (fun x hx=>h1 x (by simp[hx])) h2 (by simpa using h3) (by simp at h4 ⊢;omega)]
   rw[List.append_assoc]
   rfl
  ·unfold rs
   dsimp only
   rw[iO (by simp at hl ⊢;omega)]
   simp only[M.aa]
   rw[decide_eq_true (by simp;omega)]
   simp only[qK,if_true]
   unfold ic
   rw[bP (decide_eq_true (by simp at hl ⊢;rw[zL];omega)),M.aa,Vw.atI_nat (by simp)]
   simp only[List.cons_append,List.getElem_append_right,Nat.le_refl,Nat.sub_self,List.getElem_cons_zero,M.aa]
   rw[sV,decide_eq_true (h1 c (by simp))]
  ·simp only[M.aa]
   unfold rs
   simp
theorem EY{P w Y:List Nat}(h1:∀ c∈w,c∈oZ)(h2:∀ c,Y.head? =some c→c∉oZ)(h:P.length+(w++Y).length≤90000):bK (rs P (w++Y))=.ok (w,rs (P++w) Y):=by
 have hl:(w++Y).length=w.length+Y.length:=by simp
 unfold bK
 rw[show sS "abcdefghijklmnopqrstuvwxyz"=oZ from rfl,xV w P Y ip h1 h2 (by unfold ip;omega) (by omega),M.aa]
 unfold rs
 dsimp only
 rw[BN (by simp;omega),M.aa,sA]
 rw[show(P++w).length-P.length=w.length by simp,List.append_assoc,List.drop_left,List.take_left]
theorem pw:∀ (t:List Nat) (acc:Ws) (P Y:List Nat) (n:Nat),Y.head? ≠some 39→t.length<n→P.length+(qt t++39::Y).length≤90000→acc.length+t.length≤1000→
  nQ (fun(c2:(List (List Nat))×(List Nat×Int))=>orM ((nox (au c2.2 (1:Int))).bind fun a3=>M.ok (!(eqB a3 [39]))) ((nox (au c2.2 (2:Int))).bind fun a4=>M.ok (eqB a4 [39,39]))) (fun(c2:(List (List Nat))×(List Nat×Int))=>((((nox (au c2.2 (1:Int))).bind fun a5=>M.ok (!(eqB a5 []))).bind fun a6=>M.ok (a6,())).bind fun z8=>fW z8.1).bind fun u9=>(((nox (au c2.2 (1:Int))).bind fun a10=>M.ok (a10,())).bind fun z12=>eX c2.1 z12.1).bind fun hO=>((((((nox (au c2.2 (1:Int))).bind fun a14=>M.ok (eqB a14 [39])).bind fun a15=>M.ok (a15,())).bind fun z17=>M.ok (if z17.1=true then(1:Int)else 0)).bind fun a18=>M.ok ((1:Int)+a18)).bind fun a19=>M.ok (c2.2.1,(c2.2.2+a19))).bind fun d20=>M.ok (hO,d20)) n (acc,rs P (qt t++39::Y))=.ok (acc++t.map (fun c=>[c]),rs (P++qt t) (39::Y))
 | [],acc,P,Y,0,h1,h2,h3,h4=>by omega
 | [],acc,P,Y,n+1,h1,h2,h3,h4=>by
  rw[show qt []=[]from rfl]at h3 ⊢
  rw[List.nil_append]at h3 ⊢
  rw[List.map_nil,List.append_nil,List.append_nil]
  refine uC ?_
  dsimp only
  rw[pM (by simp at h3 ⊢;omega),Cf (by simp at h3 ⊢;omega)]
  simp only[fm,M.aa]
  have e1:List.take 1 (39::Y)=[39]:=rfl
  rw[e1,gQ]
  simp only[Bool.not_true,Hc,Bool.false_eq_true,if_false]
  cases Y with
  | nil=>rfl
  | cons y Y=>
   rw[iT (fun e=>h1 (by simp at e;rw[e];rfl))]
 | c::t,acc,P,Y,0,h1,h2,h3,h4=>by omega
 | c::t,acc,P,Y,n+1,h1,h2,h3,h4=>by
  have hq:qt (c::t)=(if c=39 then [39,39]else [c])++qt t:=qY c t
  rw[hq,List.append_assoc]at h3 ⊢
  by_cases hc:c=39
  ·rw[if_pos hc]at h3 ⊢
   have hl:P.length+([39,39]++(qt t++39::Y)).length≤100000:=by omega
   rw[n7 (c':=(acc++[[39]],rs (P++[39,39]) (qt t++39::Y))) ?_ ?_]
   ·rw[pw t (acc++[[39]]) (P++[39,39]) Y n h1 (by simpa using h2) (by simp only[List.length_append,List.length_cons,List.length_nil]at h3 ⊢;omega) (by simp at h4 ⊢;omega)]
    simp[hc]
   ·dsimp only
    rw[pM hl,Cf hl]
    rfl
   ·dsimp only
    rw[pM hl]
    simp only[fm,M.aa]
    have e1:List.take 1 ([39,39]++(qt t++39::Y))=[39]:=rfl
    rw[e1,iT (a:=[39]) (b:=[]) (by simp),Bool.not_false,lY]
    simp only[M.aa]
    rw[eB (by simp at h4;omega)]
    simp only[M.aa]
    rw[gQ]
    unfold rs
    simp
  ·rw[if_neg hc]at h3 ⊢
   have hl:P.length+([c]++(qt t++39::Y)).length≤100000:=by omega
   rw[n7 (c':=(acc++[[c]],rs (P++[c]) (qt t++39::Y))) ?_ ?_]
   ·rw[pw t (acc++[[c]]) (P++[c]) Y n h1 (by simpa using h2) (by simp only[List.length_append,List.length_cons,List.length_nil]at h3 ⊢;omega) (by simp at h4 ⊢;omega)]
    simp
   ·dsimp only
    rw[pM hl]
    simp only[fm,M.aa]
    rw[show([c]++(qt t++39::Y)).take 1=[c]from rfl,iT (a:=[c]) (b:=[39]) (by simpa using hc)]
    rfl
   ·dsimp only
    rw[pM hl]
    simp only[fm,M.aa]
    rw[show([c]++(qt t++39::Y)).take 1=[c]from rfl,iT (a:=[c]) (b:=[]) (by simp),Bool.not_false,lY]
    simp only[M.aa]
    rw[eB (by simp at h4;omega)]
    simp only[M.aa]
    rw[iT (a:=[c]) (b:=[39]) (by simpa using hc)]
    unfold rs
    simp
theorem B2(t:List Nat):(t.map fun c=>[c]).flatten=t:=by
 induction t with
 | nil=>rfl
 | cons c t ih=>rw[List.map_cons,List.flatten_cons,ih];rfl
theorem C0(t:List Nat):((t.map fun c=>[c]).map (·.length)).sum=t.length:=by
 induction t with
 | nil=>rfl
 | cons c t ih=>simp only[List.map_cons,List.sum_cons,ih,List.length_cons,List.length_nil];omega
theorem Fd{P t Y:List Nat}(hY:Y.head? ≠some 39)(ht:t.length≤500)(h:P.length+(39::(qt t++39::Y)).length≤80000):bL (rs P (39::(qt t++39::Y)))=.ok (t,rs (P++39::(qt t++[39])) Y):=by
 unfold bL
 rw[AE,Gx,CA]
 rw[show 39::(qt t++39::Y)=[39]++(qt t++39::Y)from rfl,uj (by simp at h ⊢;omega)]
 simp only[M.aa]
 rw[pw t [] (P++[39]) Y ip hY (by unfold ip;omega) (by simp at h ⊢;omega) (by simp;omega)]
 simp only[M.aa]
 rw[show(39::Y)=[39]++Y from rfl,uj (by simp at h ⊢;omega)]
 simp only[M.aa,List.nil_append]
 unfold joinM
 rw[bP (decide_eq_true (by rw[C0];simp;omega)),M.aa,vP,B2]
 simp
theorem xR{P Y:List Nat}{x:List Nat×List Nat}(hx:gu x.1∧x.2.length≤10)(hY:Y.head? ≠some 39)(h:P.length+(fld x++Y).length≤70000):aM (rs P (fld x++Y))=.ok (x,rs (P++fld x) Y):=by
 have e:fld x++Y=x.1++([58]++(39::(qt x.2++39::Y))):=by unfold fld;simp
 rw[e]at h ⊢
 unfold aM
 rw[K7,EY hx.1.2.2 (fun c hc=>by simp at hc;rw[←hc];decide+kernel) (by omega),fm]
 simp only[M.aa]
 rw[uj (by simp at h ⊢;omega)]
 simp only[M.aa]
 rw[Fd hY (by have:=hx.2;omega) (by simp at h ⊢;omega)]
 simp only[M.aa]
 unfold fld
 simp
end K33
namespace K33
open PySem L2 PyProof.Rows Vw
theorem all_map(F:List Nat→Bool)(l:Ws)(h:∀ x∈l,F x=true):(l.map F).all id=true:=by
 rw[List.all_eq_true]
 intro b hb
 obtain⟨x,hx,e⟩:=List.mem_map.mp hb
 rw[←e]
 exact h x hx
theorem AW{u:List Nat}(h:gu u):iN u=.ok true:=by
 obtain⟨h1,h2,h3⟩:=h
 unfold iN
 rw[iO (by omega)]
 simp only[M.aa]
 rw[decide_eq_true (by omega)]
 simp only[if_true,M.aa]
 rw[decide_eq_true (by omega)]
 simp only[qK,if_true]
 have hc:(chars u).length=u.length:=by unfold chars;simp
 rw[pL (F:=fun s=>subIn s (sS "abcdefghijklmnopqrstuvwxyz")) (fun _ _=>rfl) (fun _ _=>rfl) (by omega)]
 simp only[M.aa]
 rw[all_map]
 intro x hx
 unfold chars at hx
 obtain⟨c,hc,e⟩:=List.mem_map.mp hx
 subst e
 rw[sV]
 exact decide_eq_true (h3 c hc)
theorem wi(F:List Nat→(Int×(List Nat×List Nat))→M (List Nat))(hF:∀ (c:List Nat) (i:Int) (x:List Nat×List Nat),gu x.1→hX c x.1=true→F c (i,x)=.ok x.1):∀ (d:Doc) (c:List Nat) (g:Nat→Int),(∀ x∈d,gu x.1∧x.2.length≤10)→Ris (c::d.map (·.1))→∃ r,foldM F c (d.mapIdx fun i x=>(g i,x))=.ok r
 | [],c,g,h,hr=>⟨c,rfl⟩
 | x::d,c,g,h,hr=>by
  unfold Ris at hr
  rw[List.map_cons,List.pairwise_cons]at hr
  rw[List.mapIdx_cons,bH,hF c _ x (h x (by simp)).1 (hr.1 x.1 (by simp)),M.aa]
  exact wi F hF d x.1 (fun i=>g (i+1)) (fun y hy=>h y (by simp[hy])) hr.2
theorem FT{d:Doc}(h:DocOk d):eG d=.ok ():=by
 unfold eG
 have hr:Ris (sS ""::d.map (·.1)):=by
  unfold Ris
  rw[List.pairwise_cons]
  refine⟨fun u hu=>?_,h.2.2⟩
  obtain⟨x,hx,e⟩:=List.mem_map.mp hu
  have:=(h.2.1 x hx).1.1
  rw[CA]
  subst e
  cases hx1:x.1 with
  | nil=>rw[hx1]at this;simp at this
  | cons a t=>exact decide_eq_true (List.nil_lt_cons a t)
 have:=wi (fun(c1:List Nat) (bV:Int×(List Nat×List Nat))=>(orM ((nox (iN bV.2.1)).bind fun v=>M.ok (!v)) (M.ok (!hX c1 bV.2.1))).bind fun b3=>if b3=true then((M.ok bV.1).bind fun a4=>M.exc ⟨"NoField",some (D.int a4)⟩)else(M.ok bV.2.1)) (fun c i x hx hl=>by
  dsimp only
  rw[AW hx,hl]
  rfl) d (sS "") (fun i=>(i:Int)) h.2.1 hr
 obtain⟨r,e⟩:=this
 show(foldM _ (sS "") (tA d)).bind _=_
 unfold tA
 rw[e]
 rfl
theorem xF{T:List Nat}(hT:T.length≤60000):∀ (d acc:Doc) (P:List Nat) (n:Nat),(∀ x∈d,gu x.1∧x.2.length≤10)→P.length+(fU d).length=T.length→d.length<n→acc.length+d.length≤1000→
  nQ (fun(c6:(List (List Nat×List Nat))×(List Nat×Int))=>(iF T).bind fun a7=>M.ok (decide (c6.2.2<a7))) (fun(c6:(List (List Nat×List Nat))×(List Nat×Int))=>(aN c6.2 [32]).bind fun u8=>(((aM u8.2).bind fun a9=>M.ok (a9,())).bind fun z11=>(eX c6.1 z11.1.1).bind fun v=>M.ok (v,z11.1.2)).bind fun fE=>M.ok (fE.1,fE.2)) n (acc,rs P (fU d))=.ok (acc++d,rs (P++fU d) [])
 | [],acc,P,0,h1,h2,h3,h4=>by omega
 | [],acc,P,n+1,h1,h2,h3,h4=>by
  have e:fU []=[]:=rfl
  rw[e]at h2 ⊢
  rw[List.append_nil,List.append_nil]
  refine uC ?_
  rw[iO (by omega),M.aa,decide_eq_false (by unfold rs;simp at h2 ⊢;omega)]
 | x::d,acc,P,0,h1,h2,h3,h4=>by omega
 | x::d,acc,P,n+1,h1,h2,h3,h4=>by
  have hx:=h1 x (by simp)
  have hf:=nP hx
  rw[jx]at h2 ⊢
  have hl:(32::(fld x++fU d)).length=1+(fld x++fU d).length:=by rw[List.length_cons];omega
  rw[hl]at h2
  have hl2:(fld x++fU d).length=(fld x).length+(fU d).length:=by simp
  rw[n7 (c':=(acc++[x],rs (P++[32]++fld x) (fU d))) ?_ ?_]
  ·rw[xF hT d (acc++[x]) (P++[32]++fld x) n (fun y hy=>h1 y (by simp[hy])) (by simp only[List.length_append,List.length_cons,List.length_nil];omega) (by simpa using h3) (by simp at h4 ⊢;omega)]
   simp
  ·rw[iO (by omega),M.aa,decide_eq_true (by unfold rs;dsimp only;omega)]
  ·dsimp only
   rw[show(32::(fld x++fU d))=[32]++(fld x++fU d)from rfl,uj (by rw[List.singleton_append,hl];omega)]
   simp only[M.aa]
   have hY:(fU d).head? ≠some 39:=by
    cases d with
    | nil=>simp[fU]
    | cons y d=>rw[jx];simp
   rw[xR hx hY (by simp only[List.length_append,List.length_cons,List.length_nil];omega)]
   simp only[M.aa]
   rw[eB (by simp at h4;omega)]
   simp only[M.aa]
theorem FP{d:Doc}(h:DocOk d)(hd:d≠[]):fK d≠sS "none":=by
 cases d with
 | nil=>exact absurd rfl hd
 | cons x d=>
  intro e
  have h1:58∈fK (x::d):=by rw[iM];unfold fld;simp
  rw[e]at h1
  have:58∉sS "none":=by decide+kernel
  exact this h1
theorem yV{d:Doc}(h:DocOk d):(eM (fK d)).bind (fun v=>M.ok v.2)=.ok d:=by
 unfold eM iP
 by_cases hd:d=[]
 ·subst hd
  rw[show fK []=sS "none" from rfl,gQ]
  rfl
 ·have hl:=mh h
  rw[iT (FP h hd),om]
  simp only[Bool.false_eq_true,if_false]
  cases d with
  | nil=>exact absurd rfl hd
  | cons x d=>
   have hx:=h.2.1 x (by simp)
   have hY:(fU d).head? ≠some 39:=by
    cases d with
    | nil=>simp[fU]
    | cons y d=>rw[jx];simp
   have e0:(fK (x::d),(0:Int))=rs [] (fld x++fU d):=by rw[iM];rfl
   have hl2:=hl
   rw[iM]at hl2
   rw[e0,xR hx hY (by simp at hl2 ⊢;omega)]
   simp only[M.aa]
   have h3:=h.1
   rw[xF (T:=fK (x::d)) (by omega) d [x] ([]++fld x) ip (fun y hy=>h.2.1 y (by simp[hy])) (by rw[iM];simp) (by unfold ip;simp at h3;omega) (by simp at h3 ⊢;omega)]
   simp only[M.aa,List.singleton_append]
   rw[FT h]
   rfl
end K33
namespace K33
open PySem L2 PyProof.Rows Vw
theorem yM:∀ w∈[sS "put",sS "change",sS "take",sS "drop",sS "pack",sS "pour",sS "stamp",sS "seal",sS "thin"],32∉w∧w.length≤6:=by decide+kernel
theorem mn{a b:List Nat}(h:32∉a)(hl:a.length+b.length≤60000):rS (a++32::b) (sS " ")=.ok (a,[32],b):=by
 unfold rS
 rw[om,bP (decide_eq_true ⟨by simp,by rw[zL];simp;omega⟩),M.aa,CZ h]
theorem Co{a:List Nat}(h:32∉a)(hl:a.length≤60000):rS a (sS " ")=.ok (a,[],[]):=by
 unfold rS
 rw[om,bP (decide_eq_true ⟨by simp,by rw[zL];omega⟩),M.aa,BO h]
theorem DO{a:List Nat}(h:32∉a)(hl:a.length≤60000):u7 a (sS " ")=.ok [a]:=by
 unfold u7
 rw[om,bP (decide_eq_true ⟨by simp,by rw[zL];omega⟩),M.aa,Dq h]
theorem CP{a b:List Nat}(ha:32∉a)(hb:32∉b)(hl:a.length+b.length≤60000):u7 (a++32::b) (sS " ")=.ok [a,b]:=by
 unfold u7
 rw[om,bP (decide_eq_true ⟨by simp,by rw[zL];simp;omega⟩),M.aa,CT ha hb]
theorem DX:32∉sS "put"∧(sS "put").length≤6:=yM _ (by simp)
theorem y4:32∉sS "change"∧(sS "change").length≤6:=yM _ (by simp)
theorem B7:32∉sS "pour"∧(sS "pour").length≤6:=yM _ (by simp)
theorem Lo:eqB (sS "change") (sS "put")=false:=by kernel_rfl
theorem K6:eqB (sS "pour") (sS "put")=false:=by kernel_rfl
theorem Li:eqB (sS "pour") (sS "change")=false:=by kernel_rfl
theorem zm:∀ w∈Ax,eqB w (sS "put")=false∧eqB w (sS "change")=false∧32∉w∧w.length≤6:=by decide+kernel
theorem Ig:∀ w∈Ca,eqB w (sS "put")=false∧eqB w (sS "change")=false∧eqB w (sS "pour")=false∧32∉w∧w.length≤6∧w∈[sS "take",sS "drop",sS "pack",sS "pour"]:=by decide+kernel
theorem zO{a b:List Nat}:i8 (a++32::b) [sS "stamp",sS "seal",sS "thin"]=false:=by
 refine KD fun h=>?_
 have:=(zm _ h).2.2.1
 exact this (by simp)
theorem xr(F:List Nat→M Int)(hF:∀ n:Nat,n<10^60→F (bU (n:Int))=.ok (n:Int)):∀ (ns:List Nat) (acc:List Int),(∀ n∈ns,n<10^60)→acc.length+ns.length≤100→ef (fun(part14:List Nat)=>M.ok true) F acc (ns.map fun(n:Nat)=>bU (n:Int))=.ok (acc++ns.map fun(n:Nat)=>(n:Int))
 | [],acc,h,hl=>by simp[ef]
 | n::ns,acc,h,hl=>by
  simp only[List.length_cons]at hl
  rw[List.map_cons]
  unfold ef
  rw[M.aa,if_pos rfl,hF n (h n (by simp)),M.aa,bP (decide_eq_true (by rw[zL];omega)),M.aa,xr F hF ns _ (fun m hm=>h m (by simp[hm])) (by simp;omega)]
  simp
theorem vL{ns:List Nat}(h:∀ n∈ns,n<10^60)(hl:ns.length≤2):dH (fun(part14:List Nat)=>M.ok true) (fun(part14:List Nat)=>nox (eZ part14)) (ns.map fun(n:Nat)=>bU (n:Int))=.ok (ns.map fun(n:Nat)=>(n:Int)):=by
 unfold dH
 rw[xr _ (fun n hn=>by rw[p6 hn];rfl) ns [] h (by simp;omega),fm,List.nil_append]
theorem xY{q:Dd}(h:i7 q):nE (hV q)=.ok (aV q):=by
 unfold nE
 cases q with
 | put d=>
  have hl:=mh h
  rw[show hV (.put d)=sS "put"++32::fK d from rfl,mn DX.1 (by have:=DX.2;omega),M.aa]
  dsimp only
  rw[gQ,if_pos rfl,yV h]
  rfl
 | change n d=>
  obtain⟨hn,hd⟩:=h
  have hl:=mh hd
  have hln:=(dP hn).2
  have h6:=y4.2
  rw[show hV (.change n d)=sS "change"++32::(bU (n:Int)++32::fK d)from rfl,mn y4.1 (by simp;omega),M.aa]
  dsimp only
  rw[Lo,gQ]
  simp only[Bool.false_eq_true,if_false,if_true]
  rw[mn (tK n) (by omega),M.aa]
  dsimp only
  rw[p6 hn,yV hd]
  rfl
 | bare w=>
  obtain⟨b1,b2,b3,b4⟩:=zm w h
  rw[show hV (.bare w)=w from rfl,Co b3 (by omega),M.aa]
  dsimp only
  rw[b1,b2,show i8 w [sS "stamp",sS "seal",sS "thin"]=true from A7 h]
  rfl
 | one w n=>
  obtain⟨hw,hn⟩:=h
  obtain⟨b1,b2,b3,b4,b5,b6⟩:=Ig w hw
  have hln:=(dP hn).2
  rw[show hV (.one w n)=w++32::bU (n:Int)from rfl,mn b4 (by omega),M.aa]
  dsimp only
  rw[b1,b2,b3,zO,A7 b6,lY]
  simp only[Bool.false_eq_true,if_false,M.aa]
  rw[DO (tK n) (by omega),M.aa]
  have hc:=vL (ns:=[n]) (by simpa using hn) (by simp)
  rw[show([n].map fun(n:Nat)=>bU (n:Int))=[bU (n:Int)]from rfl]at hc
  rw[hc,M.aa]
  rw[show eqB ((([n].map fun(n:Nat)=>(n:Int)).length:Int)) ((1:Int)+0)=true from rfl,lY,M.aa,sM (by simp)]
  rfl
 | pour n m=>
  obtain⟨hn,hm⟩:=h
  have hln:=(dP hn).2
  have hlm:=(dP hm).2
  have h6:=B7.2
  rw[show hV (.pour n m)=sS "pour"++32::(bU (n:Int)++32::bU (m:Int))from rfl,mn B7.1 (by simp;omega),M.aa]
  dsimp only
  rw[K6,Li,zO,A7 (by simp),lY,gQ]
  simp only[Bool.false_eq_true,if_false,if_true,M.aa]
  rw[CP (tK n) (tK m) (by omega),M.aa]
  have hc:=vL (ns:=[n,m]) (by intro x hx;simp at hx;rcases hx with rfl | rfl<;> assumption) (by simp)
  rw[show([n,m].map fun(n:Nat)=>bU (n:Int))=[bU (n:Int),bU (m:Int)]from rfl]at hc
  rw[hc,M.aa]
  rw[show eqB ((([n,m].map fun(n:Nat)=>(n:Int)).length:Int)) ((1:Int)+1)=true from rfl,lY,M.aa,sM (by simp)]
  rfl
end K33
namespace Vw
open PySem L2
end Vw
namespace Vw
open PySem L2
section
variable{R:List Ob→Prop}{p:Pt}{σ:List Ob}{A B T U:Type}{i j n:Nat}
theorem Ki{x:Val}(h:p[i]? =some (some (.v x))):Ev R p σ (ae i) (.ok ()) (fun _=>(.val x,p,σ)):=Ev.at (r:=fun _=>RV.val x) fun sg hf=>by
 rw[iw,hf.2 _ _ h]
end
end Vw
namespace K33
open PySem L2 PyProof.Rows Vw
abbrev RT:List Ob→Prop:=fun _=>True
abbrev lz:List Int→D:=eL D.int
abbrev xd(d:D):Option Sl:=some (.v (.d d))
def Go(p:Pt)(σ:List Ob)(b:State→Res Fl)(p':Pt)(σ':List Ob):Prop:=∀ sg,Fits p sg→∃ sg',b ⟨sg,σ⟩=.ok .nx ⟨sg',σ'⟩∧Fits p' sg'
section
variable{R:List Ob→Prop}{p p1 p2 p3:Pt}{σ σ1 σ2 σ3:List Ob}{A B T:Type}
theorem kO{b:State→Res Fl}{a:A}{P:A→Pt}{S:A→List Ob}(h:Ev RT p σ b (.ok a) (fun v=>(.nx,P v,S v))):Go p σ b (P a) (S a):=fun sg hf=>h sg hf
theorem EK{b:State→Res Fl}(h:Go p σ b p1 σ1)(e:σ1=σ2)(w:cM p2 p1):Go p σ b p2 σ2:=fun sg hf=>by
 obtain⟨sg',e1,f⟩:=h sg hf
 exact⟨sg',by rw[e1,e],f.weak w⟩
theorem j5:Go p σ (ah []) p σ:=fun sg hf=>⟨sg,rfl,hf⟩
theorem dy{s:State→Res Fl}{rest:List (State→Res Fl)}(h1:Go p σ s p1 σ1)(h2:Go p1 σ1 (ah rest) p2 σ2):Go p σ (ah (s::rest)) p2 σ2:=fun sg hf=>by
 obtain⟨sg1,e1,f1⟩:=h1 sg hf
 obtain⟨sg2,e2,f2⟩:=h2 sg1 f1
 exact⟨sg2,by rw[fX e1,e2],f2⟩
theorem Ea{t:State→Res Bool}{a b:State→Res Fl}(h:Ev RT p σ t (.ok false) (pB p σ))(hb:Go p σ b p1 σ1):Go p σ (b7 t a b) p1 σ1:=fun sg hf=>by
 obtain⟨sg1,e1,f1⟩:=h sg hf
 obtain⟨sg2,e2,f2⟩:=hb sg1 f1
 refine⟨sg2,?_,f2⟩
 show(t ⟨sg,σ⟩).bind _=_
 rw[e1,Res.aa]
 exact e2
theorem HG{t:State→Res Bool}{a b:State→Res Fl}(h:Ev RT p σ t (.ok true) (pB p σ))(hb:Go p σ a p1 σ1):Go p σ (b7 t a b) p1 σ1:=fun sg hf=>by
 obtain⟨sg1,e1,f1⟩:=h sg hf
 obtain⟨sg2,e2,f2⟩:=hb sg1 f1
 refine⟨sg2,?_,f2⟩
 show(t ⟨sg,σ⟩).bind _=_
 rw[e1,Res.aa]
 exact e2
def wm(t:Tg)(b:State→Res Fl)(l:List Val)(p:Pt)(σ:List Ob)(p':Pt)(σ':List Ob):Prop:=∀ sg,Fits p sg→∃ sg',g9 t b l ⟨sg,σ⟩=.ok .nx ⟨sg',σ'⟩∧Fits p' sg'
theorem uF{t:Tg}{b:State→Res Fl}:wm t b [] p σ p σ:=fun sg hf=>⟨sg,rfl,hf⟩
theorem jF{t:Tg}{b:State→Res Fl}{x:Val}{l:List Val}(h0:oR p t x p1)(h1:Go p1 σ b p2 σ2)(h2:wm t b l p2 σ2 p3 σ3):wm t b (x::l) p σ p3 σ3:=fun sg hf=>by
 obtain⟨sg1,e1,f1⟩:=h0 sg σ hf
 obtain⟨sg2,e2,f2⟩:=h1 sg1 f1
 obtain⟨sg3,e3,f3⟩:=h2 sg2 f2
 refine⟨sg3,?_,f3⟩
 rw[yD,e1]
 show qu (b ⟨sg1,σ⟩) _=_
 rw[e2]
 exact e3
theorem tu{t:Tg}{src:State→Res (List Val)}{b:State→Res Fl}{l:List Val}(hs:∀ sg,Fits p sg→src ⟨sg,σ⟩=.ok l ⟨sg,σ⟩)(h:wm t b l p σ p1 σ1):Go p σ (de t src b) p1 σ1:=fun sg hf=>by
 obtain⟨sg1,e1,f1⟩:=h sg hf
 refine⟨sg1,?_,f1⟩
 rw[Eh,hs sg hf,Res.aa,e1]
theorem nJ{i:Nat}{x:Val}(h:p[i]? =some (some (.v x))){sg:Slots}(hf:Fits p sg):ev (ae i) ⟨sg,σ⟩=.ok (.val x) ⟨sg,σ⟩:=by
 show(ae i ⟨sg,σ⟩).bind settle=_
 rw[iw,hf.2 _ _ h]
 rfl
theorem qQ{i:Nat}{x:Val}(h:p[i]? =some (some (.v x))){sg:Slots}(hf:Fits p sg):aj [ae i] ⟨sg,σ⟩=.ok [.val x] ⟨sg,σ⟩:=by
 rw[AG,nJ h hf,Res.aa,Cr]
 rfl
theorem F4{i j:Nat}{x y:Val}(h:p[i]? =some (some (.v x)))(h2:p[j]? =some (some (.v y))){sg:Slots}(hf:Fits p sg):aj [ae i,ae j] ⟨sg,σ⟩=.ok [.val x,.val y] ⟨sg,σ⟩:=by
 rw[AG,nJ h hf,Res.aa,qQ h2 hf]
 rfl
def rP(i:List D)(n:Nat):Val:=.tp (i.map .d++[.r n])
theorem Bo{g:Fn}{line:List Nat}{d:D}{i xs:List D}{j:Nat}(h:p[j]? =some (some (.v (.d (.str line)))))(hg:mP g [.str line] (M.ok d) (fun v=>.val (.d (eY v))))(hd:d=.tup (i++[.lst xs]))(ht:lI (i++[.lst xs])=some (i,xs)):Ev RT p σ (qX 1 (aj [ae j]) g) (.ok ()) (fun _=>(.val (rP i σ.length),p,σ++[.lst (xs.map .d)])):=fun sg hf=>by
 subst hd
 refine⟨sg,?_,hf⟩
 obtain⟨⟨st,e⟩,_⟩:=hg
 unfold qX
 rw[qQ h hf,Res.aa]
 show pT (g ([D.str line].map .d) []) ⟨sg,σ⟩=_
 rw[e]
 unfold pT
 show(match lI (i++[D.lst xs])with
  | some p=>Res.ok (RV.val (Val.tp (p.1.map Val.d++[Val.r σ.length]))) (State.mk sg (σ++[Ob.lst (p.2.map Val.d)]))
  | none=>Res.ok (RV.val (Val.d (D.tup (i++[D.lst xs])))) (State.mk sg σ))=_
 rw[ht]
 rfl
theorem BU{g:Fn}{line:List Nat}{d:D}{ds:List D}{j:Nat}(h:p[j]? =some (some (.v (.d (.str line)))))(hg:mP g [.str line] (M.ok d) (fun v=>.val (.d (eY v))))(hd:d=.tup ds)(ht:lI ds=none):Ev RT p σ (qX 1 (aj [ae j]) g) (.ok ()) (fun _=>(.val (.d d),p,σ)):=fun sg hf=>by
 subst hd
 refine⟨sg,?_,hf⟩
 obtain⟨⟨st,e⟩,_⟩:=hg
 unfold qX
 rw[qQ h hf,Res.aa]
 show pT (g ([D.str line].map .d) []) ⟨sg,σ⟩=_
 rw[e]
 unfold pT
 show(match lI ds with
  | some p=>Res.ok (RV.val (Val.tp (p.1.map Val.d++[Val.r σ.length]))) (State.mk sg (σ++[Ob.lst (p.2.map Val.d)]))
  | none=>Res.ok (RV.val (Val.d (D.tup ds))) (State.mk sg σ))=_
 rw[ht]
theorem yg{f:Val→Option D}(hf:∀ d,f (.d d)=some d){x:Val}{y:D}(hx:f x=some y):∀ i:List D,jK f (i.map .d++[x])=some (i++[y])
 | []=>by
  show(match f x,jK f []with | some d,some ds=>some (d::ds) | _,_=>none)=_
  rw[hx]
  rfl
 | a::i=>by
  show(match f (.d a),jK f (i.map .d++[x])with | some d,some ds=>some (d::ds) | _,_=>none)=_
  rw[hf,yg hf hx i]
  rfl
theorem JG(l:List D):eL eY l=.lst l:=by
 show D.lst (l.map fun x=>x)=_
 rw[List.map_id']
theorem IP{i xs:List D}{n:Nat}{sg:Slots}(hs:σ[n]? =some (.lst (xs.map .d))):td 6 ⟨sg,σ⟩ (.val (rP i n))=some (.tup (i++[.lst xs])):=by
 show(jK (frz 5 ⟨sg,σ⟩) (i.map .d++[.r n])).map D.tup=_
 rw[yg (fun d=>qH d) (GL (e:=eY) (l:=xs) hs)]
 show some (D.tup (i++[eL eY xs]))=_
 rw[JG]
theorem Gy:aE 8=Sh.aE 8:=by rfl
theorem y6{i j:Nat}{x y:Val}{d:D}(h:p[i]? =some (some (.v x)))(h2:p[j]? =some (some (.v y)))(hx:∀ sg,td 6 ⟨sg,σ⟩ (.val x)=some d)(hy:∀ sg,td 6 ⟨sg,σ⟩ (.val y)=some d)(hk:Sh.kM d=true)(hd:dq 7 d=true):Ev RT p σ (lW 6 2 (aj [ae i,ae j]) (aE 8)) (.ok true) (pD .bl p σ):=fun sg hf=>by
 refine⟨sg,?_,hf⟩
 obtain⟨s,e⟩:=Sh.alike 7 d hk hd
 unfold lW
 rw[F4 h h2 hf,Res.aa]
 have e1:kj 6 ⟨sg,σ⟩ [.val x,.val y]=some [d,d]:=by
  unfold kj kj kj
  rw[hx,hy]
 rw[e1]
 dsimp only
 rw[if_pos (show [d,d].length=2 from rfl),Gy]
 have e2:Sh.aE 8 ([d,d].map Val.d) []=.ok (.val (.d (.bl true))) s:=e
 rw[e2]
 rfl
def rC:D→M D
 | .lst l=>.ok (.lst l)
 | .str s=>.ok (.str s)
 | .int i=>.ok (.int i)
 | _=>.bad
theorem E8{x:D}(h:p[1]? =some (some (.v (.d x)))):Ev RT p σ (fun s=>(jQ s).bind bG) (rC x) (fun y=>(.d (eY y),p,σ)):=fun sg hf=>by
 have hv:=nJ (σ:=σ) h hf
 have hf2:ae 1 ⟨sg,σ⟩=.ok (.val (.d x)) ⟨sg,σ⟩:=by rw[iw,hf.2 _ _ h]
 cases x with
 | lst l=>
  refine⟨sg,?_,hf⟩
  have ht:(aT (bE "list" (ae 1)) ⟨sg,σ⟩)=.ok true ⟨sg,σ⟩:=by
   show(ev (bE "list" (ae 1)) ⟨sg,σ⟩).bind _=_
   have:ev (bE "list" (ae 1)) ⟨sg,σ⟩=.ok (.val (.d (.bl true))) ⟨sg,σ⟩:=by
    show(bE "list" (ae 1) ⟨sg,σ⟩).bind settle=_
    rw[xf,hv,Res.aa]
    rfl
   rw[this]
   rfl
  show(((aT (bE "list" (ae 1)) ⟨sg,σ⟩).bind fun b s=>if b=true then bF (aj [ae 1]) mL s else ae 1 s)).bind bG=_
  rw[ht,Res.aa,if_pos rfl]
  show((aj [ae 1] ⟨sg,σ⟩).bind mL).bind bG=_
  rw[qQ h hf,Res.aa]
  show(match (Ob.lst (l.map Val.d)).toD with | some d=>Res.ok (Val.d d) (State.mk sg σ) | none=>.stuck)=_
  rw[show(Ob.lst (l.map Val.d)).toD=(toDs (l.map Val.d)).map D.lst from rfl,toDs_map]
  rfl
 | str s=>
  refine⟨sg,?_,hf⟩
  have ht:(aT (bE "list" (ae 1)) ⟨sg,σ⟩)=.ok false ⟨sg,σ⟩:=by
   show(ev (bE "list" (ae 1)) ⟨sg,σ⟩).bind _=_
   have:ev (bE "list" (ae 1)) ⟨sg,σ⟩=.ok (.val (.d (.bl false))) ⟨sg,σ⟩:=by
    show(bE "list" (ae 1) ⟨sg,σ⟩).bind settle=_
    rw[xf,hv,Res.aa]
    rfl
   rw[this]
   rfl
  show(((aT (bE "list" (ae 1)) ⟨sg,σ⟩).bind fun b s=>if b=true then bF (aj [ae 1]) mL s else ae 1 s)).bind bG=_
  rw[ht,Res.aa,if_neg (by decide),hf2]
  rfl
 | int s=>
  refine⟨sg,?_,hf⟩
  have ht:(aT (bE "list" (ae 1)) ⟨sg,σ⟩)=.ok false ⟨sg,σ⟩:=by
   show(ev (bE "list" (ae 1)) ⟨sg,σ⟩).bind _=_
   have:ev (bE "list" (ae 1)) ⟨sg,σ⟩=.ok (.val (.d (.bl false))) ⟨sg,σ⟩:=by
    show(bE "list" (ae 1) ⟨sg,σ⟩).bind settle=_
    rw[xf,hv,Res.aa]
    rfl
   rw[this]
   rfl
  show(((aT (bE "list" (ae 1)) ⟨sg,σ⟩).bind fun b s=>if b=true then bF (aj [ae 1]) mL s else ae 1 s)).bind bG=_
  rw[ht,Res.aa,if_neg (by decide),hf2]
  rfl
 | _=>trivial
theorem Gg{l:List D}(h:∀ x∈l,rC x=.ok x)(hl:l.length≤1000):cx RT gj [.d (.tup l)] σ (M.ok (D.tup l)) (fun v=>(.val (.d (eY v)),σ)):=by
 refine di (N:=2) (b:=nz) (bD ?_)
 have hc:dH (fun(x:D)=>M.ok true) rC l=.ok l:=by
  rw[pL (F:=fun x=>x) (fun _ _=>rfl) h (by omega),List.map_id']
 have e1:=xj (R:=RT) (p:=[xd (.tup l),none]) (σ:=σ) (l:=l) (E:=fun x=>Val.d x) (q:=[xd (.tup l),none]) (τ:=σ) (e:=eY) (mt:=fun _=>M.ok true) (me:=rC) (p2:=fun x=>[xd (.tup l),xd x]) (p3:=fun x=>[xd (.tup l),xd x]) (vs:=[1]) (t:=.nm 1) (src:=sD (ae 0) itemsOf) (ft:=iq) (fe:=jQ)
  (Bj (uN (sv (aw (a:=D.tup l) (e:=eY) rfl))) rfl) rfl (fun x=>⟨cm,lC,E8 rfl⟩) (fun x=>by repeat' (first | exact trivial | refine And.intro rfl ?_)) (fun x=>by repeat' (first | exact trivial | refine And.intro rfl ?_))
 rw[hc]at e1
 have e2:=dr (ag (sn e1 (fun v=>cK _ v)) aq) (Et (e:=eY) (l:=l) e6)
 have e3:(l.map eY)=l:=List.map_id' l
 rw[e3]at e2
 exact oH (v:=D.tup l) e2 rfl
end
end K33
namespace K33
open PySem L2 PyProof.Rows Vw
theorem Bc(d:Doc):gM (d.map (bo D.str D.str))=true:=by
 induction d with
 | nil=>rfl
 | cons a l ih=>rw[List.map_cons,gM,ih];rfl
theorem Bm(d:Doc):fx (d.map (bo D.str D.str))=true:=jG _ _ fun _ _=>rfl
theorem BA(d:Doc)(n:Nat):dg (n+2) (d.map (bo D.str D.str))=true:=mj _ _ _ fun _ _=>rfl
theorem LG(q:Dd):dF (aV q)=true:=by
 cases q with
 | put d=>simp[aV,dF,fx,eL,Bm]
 | change n d=>simp[aV,dF,fx,eL,Bm]
 | bare w=>rfl
 | one w n=>rfl
 | pour n m=>rfl
theorem Hh(q:Dd)(n:Nat):dq (n+4) (aV q)=true:=by
 cases q with
 | put d=>simp[aV,dq,dg,eL,BA]
 | change n d=>simp[aV,dq,dg,eL,BA]
 | bare w=>rfl
 | one w n=>rfl
 | pour n m=>rfl
theorem GD(q:Dd):oO (aV q) (aV q)=.ok true:=by
 obtain⟨h1,h2⟩:=yE (d:=aV q) (2+4) (by decide) (LG q) (Hh q 2)
 unfold oO
 rw[if_pos h1,h2]
theorem BY(d:Doc):Sh.i9 (d.map (bo D.str D.str))=true:=by
 induction d with
 | nil=>rfl
 | cons a l ih=>rw[List.map_cons,Sh.i9,ih];rfl
theorem Lz{q:Dd}(h:i7 q):Sh.kM (aV q)=true:=by
 cases q with
 | put d=>
  have:=h.1
  simp[aV,Sh.kM,Sh.i9,eL,BY]
  omega
 | change n d=>
  have:=h.2.1
  simp[aV,Sh.kM,Sh.i9,eL,BY]
  omega
 | bare w=>rfl
 | one w n=>rfl
 | pour n m=>rfl
def xJ(x:D):Prop:=(∃ s,x=.str s)∨∃ n,x=.int n
theorem Jm{q:Dd}(h:i7 q):(∃ ds,aV q=.tup ds∧lI ds=none∧∀ x∈ds,xJ x)∨(∃ i xs,aV q=.tup (i++[.lst xs])∧lI (i++[.lst xs])=some (i,xs)∧xs.length≤3∧∀ x∈i,xJ x):=by
 have hs:∀ s,xJ (.str s):=fun s=>.inl ⟨s,rfl⟩
 have hi:∀ n,xJ (.int n):=fun s=>.inr ⟨s,rfl⟩
 cases q with
 | put d=>exact .inr ⟨[.str (sS "put")],d.map (bo D.str D.str),rfl,by simp[lI,oc,Bc],by rw[List.length_map];exact h.1,by simp[hs]⟩
 | change n d=>exact .inr ⟨[.str (sS "change"),.int n],d.map (bo D.str D.str),rfl,by simp[lI,oc,Bc],by rw[List.length_map];exact h.2.1,by simp[hs,hi]⟩
 | bare w=>exact .inl ⟨_,rfl,rfl,by simp[hs]⟩
 | one w n=>exact .inl ⟨_,rfl,rfl,by simp[hs,hi]⟩
 | pour n m=>exact .inl ⟨_,rfl,rfl,by simp[hs,hi]⟩
theorem I8(q:Dd):∃ ds,aV q=.tup ds∧ds.length≤1000∧∀ x∈ds,rC x=.ok x:=by
 cases q with
 | put d=>exact⟨_,rfl,by simp,by simp[rC,er,eL]⟩
 | change n d=>exact⟨_,rfl,by simp,by simp[rC,er,eL]⟩
 | bare w=>exact⟨_,rfl,by simp,by simp[rC]⟩
 | one w n=>exact⟨_,rfl,by simp,by simp[rC]⟩
 | pour n m=>exact⟨_,rfl,by simp,by simp[rC]⟩
theorem JT(q:Dd):mP gj [aV q] (M.ok (aV q)) (fun v=>.val (.d (eY v))):=by
 obtain⟨ds,e,h1,h2⟩:=I8 q
 rw[e]
 exact(Gg (σ:=[]) h2 h1).toE (rv:=fun v=>.val (.d (eY v))) (fun _=>rfl) (fun _=>trivial)
theorem Jo{q:Dd}(h:i7 q):mP gp [aV q] (M.ok (hV q)) (fun v=>.val (.d (D.str v))):=by
 have:=(zb (R:=RT) (σ:=[]) (bJ:=aV q)).toE (ds:=[aV q]) (rv:=fun v=>.val (.d (D.str v))) (fun _=>rfl) (fun _=>trivial)
 rwa[E2 h]at this
theorem D3{q:Dd}(h:i7 q):mP gc [aV q] (M.ok (hV q)) (fun v=>.val (.d (D.str v))):=by
 have:=(zc (R:=RT) (σ:=[]) (bJ:=aV q)).toE (ds:=[aV q]) (rv:=fun v=>.val (.d (D.str v))) (fun _=>rfl) (fun _=>trivial)
 rwa[xE h]at this
theorem D4{q:Dd}(h:i7 q):mP gi [.str (hV q)] (M.ok (aV q)) (fun v=>.val (.d (eY v))):=by
 have:=(zd (R:=RT) (σ:=[]) trivial (ej:=hV q)).toE (ds:=[.str (hV q)]) (rv:=fun v=>.val (.d (eY v))) (fun _=>rfl) (fun _=>trivial)
 rwa[xY h]at this
section
variable{p p':Pt}{σ σ':List Ob}{ns:List Int}
theorem uV{b:State→Res Fl}{p1 p2:Pt}(w:cM p1 p2)(h:Go p1 σ b p' σ'):Go p2 σ b p' σ':=fun sg hf=>h sg (hf.weak w)
theorem sE{t:Tg}{b:State→Res Fl}{l:List Val}{p1 p2:Pt}(w:cM p1 p2)(h:wm t b l p1 σ p' σ'):wm t b l p2 σ p' σ':=fun sg hf=>h sg (hf.weak w)
theorem ub{g:Fn}{x:D}{T:Type}{v:T}{e:T→D}{j:Nat}(h:p[j]? =some (some (.v (.d x))))(hg:mP g [x] (M.ok v) (fun v=>.val (.d (e v)))):Ev RT p σ (sm 1 (aj [ae j]) g) (.ok v) (fun v=>(.val (.d (e v)),p,σ)):=Fo (R:=RT) (ds:=[x]) (Q:=p) (ag (sv (aw (a:=x) (e:=eY) h)) aq) (.d .nil) rfl hg (fun _=>rfl)
abbrev PO(ns:List Int):Pt:=[xd (lz ns),some (.v (.r 0)),none,none,none,none,none,none,none,none]
abbrev PI(ns:List Int)(q:Dd)(s8 s9:Option Sl):Pt:=[xd (lz ns),some (.v (.r 0)),none,xd (aV q),xd (aV q),xd (.str (hV q)),none,none,s8,s9]
theorem I9{x:D}(h:xJ x)(h9:p[9]? =some (some (.v (.d x)))):Ev RT p σ (aT (bE "list" (ae 9))) (.ok false) (pB p σ):=by
 rcases h with⟨s,rfl⟩ | ⟨n,rfl⟩
 ·have:=jm (sv (AZ (R:=RT) (p:=p) (σ:=σ) (T':="list") (t:="str") (sv (aw (a:=D.str s) (e:=eY) h9)) (fun sg hf=>rfl)))
  rwa[show kl "str" "list"=false from by decide]at this
 ·have:=jm (sv (AZ (R:=RT) (p:=p) (σ:=σ) (T':="list") (t:="int") (sv (aw (a:=D.int n) (e:=eY) h9)) (fun sg hf=>rfl)))
  rwa[show kl "int" "list"=false from by decide]at this
theorem Js{n:Nat}{xs:List Val}(h9:p[9]? =some (some (.v (.r n))))(hs:σ[n]? =some (.lst xs)):Ev RT p σ (aT (bE "list" (ae 9))) (.ok true) (pB p σ):=
 jm (sv (AZ (T':="list") (t:="list") (sv (Ki h9)) (fun sg hf=>by
  have:ob ⟨sg,σ⟩ (.val (.r n))=some (.lst xs):=by
   show(match σ[n]? with | some .gone=>none | some o=>some o | none=>none)=_
   rw[hs]
  rw[JD,show dv ⟨sg,σ⟩ (.val (.r n))=none from rfl,this])))
theorem FW{x:D}(h:xJ x)(h9:p[9]? =some (some (.v (.d x)))):Go p σ iD p σ:=dy (Ea (I9 h h9) j5) j5
theorem pf{q:Dd}{s8:Option Sl}{rest:List Val}(hr:wm (.nm 9) iD rest (PI ns q s8 none) σ p' σ'):∀ (l:List D),(∀ x∈l,xJ x)→wm (.nm 9) iD (l.map .d++rest) (PI ns q s8 none) σ p' σ'
 | [],_=>hr
 | x::l,h=>by
  refine jF (p1:=PI ns q s8 (some (.v (.d x)))) (p2:=PI ns q s8 (some (.v (.d x)))) cm (FW (h x (by simp)) rfl) ?_
  exact sE (by cases s8<;> repeat' (first | exact trivial | refine And.intro rfl ?_)) (pf hr l fun y hy=>h y (by simp[hy]))
theorem Lb{l:List D}{i:Nat}(h:p[i]? =some (some (.v (.d (.tup l))))){sg:Slots}(hf:Fits p sg):sT (ae i) ⟨sg,σ⟩=.ok (l.map .d) ⟨sg,σ⟩:=by
 unfold sT
 rw[nJ h hf]
 show sD (ae i) itemsOf ⟨sg,σ⟩=_
 show(ev (ae i) ⟨sg,σ⟩).bind _=_
 rw[nJ h hf]
 rfl
theorem KN{i:List D}{n j:Nat}(h:p[j]? =some (some (.v (rP i n)))){sg:Slots}(hf:Fits p sg):sT (ae j) ⟨sg,σ⟩=.ok (i.map .d++[.r n]) ⟨sg,σ⟩:=by
 unfold sT
 rw[nJ h hf]
 rfl
def more:D:=.tup [.str (sS "zz"),.str (sS "more")]
theorem EL:Ev RT p σ (iA [(fD (.str (sS "zz"))),(fD (.str (sS "more")))]) (.ok more) (pD eY p σ):=by
 have:=gO (R:=RT) (p:=p) (σ:=σ) (ds:=fun _=>[.str (sS "zz"),.str (sS "more")]) (ag (sv (cD D.str (sS "zz"))) (ag (sv (cD D.str (sS "more"))) aq)) (fun _=>(.d (.d .nil))) (fun _=>rfl) (fun _=>rfl)
 exact Ev.b9 this rfl
theorem Fg{q:Dd}{s8:Option Sl}{xs:List D}(hl:xs.length≤3){n:Nat}(hn:σ[n]? =some (.lst (xs.map .d)))(hs:∀ l':List D,σ.set n (oL eY l')=σ'++[oL eY l']):Go (PI ns q s8 (some (.v (.r n)))) σ iD (PI ns q s8 (some (.v (.r n)))) (σ'++[oL eY (xs++[more])]):=by
 have hn':σ[n]? =some (oL eY xs):=by rw[hn];try rfl
 have ea:eX xs more=.ok (xs++[more]):=eB (by omega)
 refine dy (HG (Js rfl hn) (dy (kO (Bj (m':=M.ok (xs++[more])) (jq (r:=fun _=>.val (.d .non)) (S:=fun l=>σ'++[oL eY l]) (l0 (sv (Ki rfl)) (fun sg hf=>qk (e:=eY) (l:=xs) (DH hn') hf) (ag (sv EL) aq) (Jq (x:=more) hn' hs))) ea)) j5)) j5
theorem Bw{q:Dd}(h:i7 q){s6:Option Sl}(σ:List Ob):∃ τ,Go [xd (lz ns),some (.v (.r 0)),none,xd (aV q),xd (aV q),xd (.str (hV q)),s6,none,none,none] σ yz (PI ns q none none) (σ++τ):=by
 have hy:=GD q
 have hk:=Lz h
 have hd:=Hh q 3
 have key:∀ {s8:Option Sl} {σ1:List Ob} {x8:Val} (h8:s8=some (.v x8)) (hx:∀ sg,td 6 ⟨sg,σ1⟩ (.val x8)=some (aV q)) {σ2:List Ob} (hg:Go (PI ns q s8 none) σ1 (ah [de (.nm 9) (sT (ae 8)) iD]) (PI ns q s8 none) σ2) {s6:Option Sl},Go [xd (lz ns),some (.v (.r 0)),none,xd (aV q),xd (aV q),xd (.str (hV q)),s6,xd (.str (hV q)),s8,none] σ1 (ah [(b7 (lB [(fj (aT (lW 6 2 (aj [(ae 7),(ae 5)]) (aE 8)))),(fj (aT (lW 6 2 (aj [(ae 8),(ae 3)]) (aE 8)))),(aT (ao (ae 4) (ae 3) (aI .ne)))]) (ah [(aP (fD (.bl false)))]) (ah [])),(de (.nm 9) (sT (ae 8)) iD)]) (PI ns q s8 none) σ2:=by
  intro s8 σ1 x8 h8 hx σ2 hg s6
  subst h8
  refine dy (Ea ?_ j5) (uV (by repeat' (first | exact trivial | refine And.intro rfl ?_)) hg)
  refine Bj (An (xC (jm (sv (y6 (i:=7) (j:=5) (x:=.d (.str (hV q))) (y:=.d (.str (hV q))) (d:=.str (hV q)) rfl rfl (fun sg=>qH _) (fun sg=>qH _) rfl rfl)))) (An (xC (jm (sv (y6 (i:=8) (j:=3) (x:=x8) (y:=.d (aV q)) (d:=aV q) rfl rfl hx (fun sg=>qH _) hk hd)))) (AM (tB (b:=fun v=>v) (sv (aK (sv (aw (a:=aV q) (e:=eY) rfl)) (sv (aw (a:=aV q) (e:=eY) rfl)) (LJ (a:=aV q) (b:=aV q) bx bx))))))) ?_
  rw[hy]
  rfl
 rcases Jm h with⟨ds,e,ht,ha⟩ | ⟨i,xs,e,ht,hl,ha⟩
 ·refine⟨[],?_⟩
  refine dy (kO (dB (x:=fun v=>.d (.str v)) (ub (e:=D.str) (j:=4) rfl (D3 h)))) ?_
  refine dy (kO (dB (x:=fun _=>.d (aV q)) (BU (j:=5) rfl (D4 h) e ht))) ?_
  refine EK (p1:=PI ns q (xd (aV q)) none) (σ1:=σ) (key rfl (fun sg=>qH _) ?_) (by simp) (by repeat' (first | exact trivial | refine And.intro rfl ?_))
  refine dy (tu (l:=ds.map .d++[]) (fun sg hf=>by rw[List.append_nil];exact Lb (by rw[e];rfl) hf) (pf uF ds ha)) j5
 ·refine⟨[oL eY (xs++[more])],?_⟩
  refine dy (kO (dB (x:=fun v=>.d (.str v)) (ub (e:=D.str) (j:=4) rfl (D3 h)))) ?_
  refine dy (kO (dB (x:=fun _=>rP i σ.length) (Bo (j:=5) rfl (D4 h) e ht))) ?_
  refine EK (p1:=PI ns q (some (.v (rP i σ.length))) none) (σ1:=σ++[oL eY (xs++[more])]) (key (x8:=rP i σ.length) rfl (fun sg=>by rw[e];exact IP (by simp)) ?_) rfl (by repeat' (first | exact trivial | refine And.intro rfl ?_))
  refine dy (tu (l:=i.map .d++[.r σ.length]) (fun sg hf=>KN rfl hf) (pf ?_ i ha)) j5
  refine jF (p1:=PI ns q (some (.v (rP i σ.length))) (some (.v (.r σ.length)))) cm (Fg (σ':=σ) (n:=σ.length) hl (by simp) (fun l'=>by simp)) ?_
  exact sE (by repeat' (first | exact trivial | refine And.intro rfl ?_)) uF
theorem HA{p:Pt}{σ:List Ob}{sg:Slots}:fq (aj [fD (.int 2)]) ee ⟨sg,σ⟩=.ok [.d (.int 0),.d (.int 1)] ⟨sg,σ⟩:=by
 rw[Bi,AG]
 show((ev (fD (.int 2)) ⟨sg,σ⟩).bind _).bind _=_
 rw[show ev (fD (.int 2)) ⟨sg,σ⟩=.ok (.val (.d (.int 2))) ⟨sg,σ⟩from rfl,Res.aa,Cr,Res.aa,Res.aa,Be,yn (by decide) (by decide) (by decide) (by decide)]
 rfl
theorem Br{d:List Int}(hd:Dr d)(σ:List Ob):∃ d' τ,Dr d'∧Go (PO ns) (oL D.int d::σ) yX (PO ns) (oL D.int d'::(σ++τ)):=by
 obtain⟨⟨v,d'⟩,em,⟨q,ev,hq⟩,hd'⟩:=C1 (s:=ns) hd
 have ev:v=aV q:=ev
 subst ev
 obtain⟨t1,g1⟩:=Bw (ns:=ns) hq (s6:=xd (.int 0)) (oL D.int d'::σ)
 obtain⟨t2,g2⟩:=Bw (ns:=ns) hq (s6:=xd (.int 1)) (oL D.int d'::(σ++t1))
 refine⟨d',t1++t2,hd',?_⟩
 have e1:Ev RT (PO ns) (oL D.int d::σ) (bR 2 (aj [(ae 0),(ae 1)]) gh) (.ok (aV q,d')) (fun v=>(.val (.d v.1),PO ns,oL D.int v.2::σ)):=
  Bj (bQ (R':=RT) (post:=fun v=>(.val (.d v.1),PO ns,oL D.int v.2::σ)) (ag (sv (aw (a:=ns) (e:=lz) rfl)) (ag (sv (dS (a:=d) rfl)) aq)) (.d (.d .nil)) rfl (ze (S:=fun dd=>oL D.int dd::σ) (n:=0) (ax:=ns) (ay:=d) (fun _=>rfl) (fun _ _=>rfl)) (fun _=>rfl)) (by rw[em];rfl)
 refine dy (kO (dB (x:=fun(v:D×List Int)=>.d v.1) e1)) ?_
 refine dy (kO (dB (x:=fun v=>.d v) (ub (e:=eY) (j:=3) rfl (JT q)))) ?_
 refine dy (kO (dB (x:=fun v=>.d (.str v)) (ub (e:=D.str) (j:=3) rfl (Jo hq)))) ?_
 refine dy (tu (l:=[.d (.int 0),.d (.int 1)]) (fun sg hf=>HA (p:=PO ns)) ?_) j5
 refine jF (p1:=[xd (lz ns),some (.v (.r 0)),none,xd (aV q),xd (aV q),xd (.str (hV q)),xd (.int 0),none,none,none]) cm g1 ?_
 refine sE (p1:=PI ns q none none) (by repeat' (first | exact trivial | refine And.intro rfl ?_)) ?_
 refine jF (p1:=[xd (lz ns),some (.v (.r 0)),none,xd (aV q),xd (aV q),xd (.str (hV q)),xd (.int 1),none,none,none]) cm g2 ?_
 intro sg hf
 refine⟨sg,?_,hf.weak (by repeat' (first | exact trivial | refine And.intro rfl ?_))⟩
 show Res.ok Fl.nx _=_
 simp
theorem hZ{T:Type}{R:List Ob→Prop}{p1:Pt}{σ1:List Ob}{b:State→Res Fl}{rest:List (State→Res Fl)}{m:M T}{post:T→OutS}{w:Bool}(h1:Go p σ b p1 σ1)(h2:Sg w R p1 σ1 (ah rest) m post):Sg w R p σ (ah (b::rest)) m post:=fun sg hf=>by
 obtain⟨sg1,e1,f1⟩:=h1 sg hf
 have:=h2 sg1 f1
 rw[fX e1]
 exact this
theorem GW(ns:List Int):∃ d d2 τ,Go [xd (lz ns),none,none,none,none,none,none,none,none,none] [] zj (PO ns) [oL D.int d]∧Go (PO ns) [oL D.int d] zD (PO ns) (oL D.int d2::τ):=by
 obtain⟨d,ed,hd⟩:=Bx ns 2 90 (by decide) (by decide)
 obtain⟨d1,t1,h1,g1⟩:=Br (ns:=ns) hd []
 obtain⟨d2,t2,h2,g2⟩:=Br (ns:=ns) h1 t1
 refine⟨d,d2,t1++t2,?_,?_⟩
 ·have e1:Ev RT [xd (lz ns),none,none,none,none,none,none,none,none,none] [] (BK (bR 3 (aj [(ae 0),(fD (.int 2)),(fD (.int 90))]) dZ)) (.ok d) (fun v=>(.val (.r 0),[xd (lz ns),none,none,none,none,none,none,none,none,none],[oL D.int v])):=
   Bj (K3 (o:=fun v=>oL D.int v) (bQ (R':=RT) (post:=(pN (oL D.int) [xd (lz ns),none,none,none,none,none,none,none,none,none] [])) (ag (sv (aw (a:=ns) (e:=lz) rfl)) (ag (sv (cD D.int (2:Int))) (ag (sv (cD D.int (90:Int))) aq))) (.d (.d (.d .nil))) rfl (yp (ax:=ns)) (fun _=>rfl)) (fun v=>Jh v)) (by rw[show jj ns 2 90=.ok d from ed];rfl)
  have e2:=kO (dB (i:=1) (x:=fun _=>.r 0) e1)
  exact e2
 ·refine tu (l:=[.d (.int 0),.d (.int 1)]) (fun sg hf=>HA (p:=PO ns)) ?_
  refine jF (p1:=[xd (lz ns),some (.v (.r 0)),xd (.int 0),none,none,none,none,none,none,none]) cm (uV (by repeat' (first | exact trivial | refine And.intro rfl ?_)) g1) ?_
  refine jF (p1:=[xd (lz ns),some (.v (.r 0)),xd (.int 1),none,none,none,none,none,none,none]) cm (uV (by repeat' (first | exact trivial | refine And.intro rfl ?_)) g2) ?_
  exact uF
theorem IC(ns:List Int):∃ st,cx RT ug [.d (lz ns)] [] (.ok true) (fun b=>(.val (.d (.bl b)),st)):=by
 obtain⟨d,d2,τ,g1,g2⟩:=GW ns
 refine⟨oL D.int d2::τ,di (N:=10) (b:=AK) ?_⟩
 exact hZ g1 (hZ g2 (bD (oH (x:=fun b=>.d (.bl b)) (cD D.bl true) rfl)))
end
theorem Gu(ns:List Int)(hl:ns.length≤63):∃ s,ug [DM ns] []=.ok (.val (.d (.bl true))) s:=by
 obtain⟨st,s⟩:=IC ns
 exact⟨⟨[],st⟩,s⟩
end K33
namespace K33
open PySem L2 PyProof.Rows Vw
theorem AI:NM "FIGURES":=⟨by decide,by decide⟩
theorem vv:NM "FieldReader":=⟨by decide,by decide⟩
theorem sW:NM "LETTERS":=⟨by decide,by decide⟩
theorem tO:NM "NoField":=⟨by decide,by decide⟩
theorem B5:NM "NoLine":=⟨by decide,by decide⟩
theorem kv:NM "_law_alike":=⟨by decide,by decide⟩
theorem oz:NM "_law_at":=⟨by decide,by decide⟩
theorem y7:NM "_law_cell":=⟨by decide,by decide⟩
theorem eD:NM "_law_cells":=⟨by decide,by decide⟩
theorem xX:NM "_law_copy":=⟨by decide,by decide⟩
theorem ye:NM "_law_deed":=⟨by decide,by decide⟩
theorem cn:NM "_law_deed_here":=⟨by decide,by decide⟩
theorem lZ:NM "_law_document":=⟨by decide,by decide⟩
theorem wO:NM "_law_draws":=⟨by decide,by decide⟩
theorem aC:NM "_law_draws_here":=⟨by decide,by decide⟩
theorem dM:NM "_law_due":=⟨by decide,by decide⟩
theorem wH:NM "_law_field":=⟨by decide,by decide⟩
theorem aS:NM "_law_found":=⟨by decide,by decide⟩
theorem nK:NM "_law_handed":=⟨by decide,by decide⟩
theorem vU:NM "_law_j":=⟨by decide,by decide⟩
theorem fG:NM "_law_k":=⟨by decide,by decide⟩
theorem ji:NM "_law_left":=⟨by decide,by decide⟩
theorem mK:NM "_law_letters":=⟨by decide,by decide⟩
theorem yv:NM "_law_line":=⟨by decide,by decide⟩
theorem bX:NM "_law_line_here":=⟨by decide,by decide⟩
theorem pR:NM "_law_many":=⟨by decide,by decide⟩
theorem b0:NM "_law_name":=⟨by decide,by decide⟩
theorem wZ:NM "_law_names":=⟨by decide,by decide⟩
theorem hI:NM "_law_number":=⟨by decide,by decide⟩
theorem aZ:NM "_law_number_here":=⟨by decide,by decide⟩
theorem bC:NM "_law_one":=⟨by decide,by decide⟩
theorem wF:NM "_law_place":=⟨by decide,by decide⟩
theorem gn:NM "_law_pop":=⟨by decide,by decide⟩
theorem cH:NM "_law_script":=⟨by decide,by decide⟩
theorem p5:NM "_law_sign":=⟨by decide,by decide⟩
theorem wB:NM "_law_signs":=⟨by decide,by decide⟩
theorem pP:NM "_law_some":=⟨by decide,by decide⟩
theorem xx:NM "_law_text":=⟨by decide,by decide⟩
theorem rh:NM "_law_text_here":=⟨by decide,by decide⟩
theorem qr:NM "_law_told":=⟨by decide,by decide⟩
theorem gS:NM "_law_turn":=⟨by decide,by decide⟩
theorem G8:NM "all":=⟨by decide,by decide⟩
theorem Hg:("all":Str)≠"__name__":=by decide
theorem CY:NM "begin":=⟨by decide,by decide⟩
theorem FF:NM "bool":=⟨by decide,by decide⟩
theorem Ff:("bool":Str)≠"__name__":=by decide
theorem zw:NM "deed":=⟨by decide,by decide⟩
theorem nA:NM "document":=⟨by decide,by decide⟩
theorem jy:NM "field":=⟨by decide,by decide⟩
theorem BL:NM "fields":=⟨by decide,by decide⟩
theorem lH:NM "found":=⟨by decide,by decide⟩
theorem FH:NM "good":=⟨by decide,by decide⟩
theorem my:NM "int":=⟨by decide,by decide⟩
theorem mD:("int":Str)≠"__name__":=by decide
theorem Av:NM "is_name":=⟨by decide,by decide⟩
theorem E3:NM "last":=⟨by decide,by decide⟩
theorem dW:NM "len":=⟨by decide,by decide⟩
theorem dY:("len":Str)≠"__name__":=by decide
theorem qR:NM "line":=⟨by decide,by decide⟩
theorem k7:NM "list":=⟨by decide,by decide⟩
theorem ll:("list":Str)≠"__name__":=by decide
theorem o4:NM "look_at_document":=⟨by decide,by decide⟩
theorem FL:NM "many":=⟨by decide,by decide⟩
theorem nY:NM "name":=⟨by decide,by decide⟩
theorem Bf:NM "number":=⟨by decide,by decide⟩
theorem pJ:NM "number_of":=⟨by decide,by decide⟩
theorem t7:NM "numbers":=⟨by decide,by decide⟩
theorem xK:NM "one":=⟨by decide,by decide⟩
theorem FG:NM "part":=⟨by decide,by decide⟩
theorem sy:NM "parts":=⟨by decide,by decide⟩
theorem CG:NM "place":=⟨by decide,by decide⟩
theorem yR:NM "read_deed":=⟨by decide,by decide⟩
theorem lQ:NM "read_document":=⟨by decide,by decide⟩
theorem mT:NM "reader":=⟨by decide,by decide⟩
theorem vj:NM "rest":=⟨by decide,by decide⟩
theorem bt:NM "self":=⟨by decide,by decide⟩
theorem yq:NM "show_deed":=⟨by decide,by decide⟩
theorem rW:NM "show_document":=⟨by decide,by decide⟩
theorem wY:NM "show_field":=⟨by decide,by decide⟩
theorem zK:NM "sign":=⟨by decide,by decide⟩
theorem rT:NM "signs":=⟨by decide,by decide⟩
theorem BZ:NM "sorted":=⟨by decide,by decide⟩
theorem BF:("sorted":Str)≠"__name__":=by decide
theorem sP:NM "str":=⟨by decide,by decide⟩
theorem tY:("str":Str)≠"__name__":=by decide
theorem lg:NM "sure":=⟨by decide,by decide⟩
theorem dQ:NM "text":=⟨by decide,by decide⟩
theorem sf:NM "tuple":=⟨by decide,by decide⟩
theorem sC:("tuple":Str)≠"__name__":=by decide
structure Fx (P:Program) (w:World) (K:PySem.W.Frag) (mg:Str→Option Value) (base:Heap) (cA:String→Addr) where
 f__law_draws:Addr
 d__law_draws:FuncData
 F__law_draws:fJ K "_law_draws" "_law_draws" (top 19) f__law_draws d__law_draws
 B__law_draws:Binds K d__law_draws ["_law_script","_law_turn","_law_many"] []
 dZ:mg "_law_draws"=some (.ref f__law_draws)
 f__law_pop:Addr
 d__law_pop:FuncData
 F__law_pop:fJ K "_law_pop" "_law_pop" (top 20) f__law_pop d__law_pop
 B__law_pop:Binds K d__law_pop ["_law_draws_here"] []
 bq:mg "_law_pop"=some (.ref f__law_pop)
 f__law_names:Addr
 d__law_names:FuncData
 F__law_names:fJ K "_law_names" "_law_names" (top 22) f__law_names d__law_names
 B__law_names:Binds K d__law_names ["_law_draws_here"] []
 gP:mg "_law_names"=some (.ref f__law_names)
 f__law_text:Addr
 d__law_text:FuncData
 F__law_text:fJ K "_law_text" "_law_text" (top 23) f__law_text d__law_text
 B__law_text:Binds K d__law_text ["_law_draws_here"] []
 gm:mg "_law_text"=some (.ref f__law_text)
 f__law_document:Addr
 d__law_document:FuncData
 F__law_document:fJ K "_law_document" "_law_document" (top 24) f__law_document d__law_document
 B__law_document:Binds K d__law_document ["_law_draws_here"] []
 cP:mg "_law_document"=some (.ref f__law_document)
 f__law_number:Addr
 d__law_number:FuncData
 F__law_number:fJ K "_law_number" "_law_number" (top 25) f__law_number d__law_number
 B__law_number:Binds K d__law_number ["_law_script","_law_draws_here"] []
 bT:mg "_law_number"=some (.ref f__law_number)
 f__law_deed:Addr
 d__law_deed:FuncData
 F__law_deed:fJ K "_law_deed" "_law_deed" (top 26) f__law_deed d__law_deed
 B__law_deed:Binds K d__law_deed ["_law_script","_law_draws_here"] []
 gh:mg "_law_deed"=some (.ref f__law_deed)
 f__law_copy:Addr
 d__law_copy:FuncData
 F__law_copy:fJ K "_law_copy" "_law_copy" (top 28) f__law_copy d__law_copy
 B__law_copy:Binds K d__law_copy ["_law_deed_here"] []
 gj:mg "_law_copy"=some (.ref f__law_copy)
 f__law_line:Addr
 d__law_line:FuncData
 F__law_line:fJ K "_law_line" "_law_line" (top 27) f__law_line d__law_line
 B__law_line:Binds K d__law_line ["_law_deed_here"] []
 gp:mg "_law_line"=some (.ref f__law_line)
 f_show_field:Addr
 d_show_field:FuncData
 F_show_field:fJ K "show_field" "show_field" (top 10) f_show_field d_show_field
 B_show_field:Binds K d_show_field ["field","text"] []
 gX:mg "show_field"=some (.ref f_show_field)
 f_show_document:Addr
 d_show_document:FuncData
 F_show_document:fJ K "show_document" "show_document" (top 11) f_show_document d_show_document
 B_show_document:Binds K d_show_document ["document"] []
 eT:mg "show_document"=some (.ref f_show_document)
 f_show_deed:Addr
 d_show_deed:FuncData
 F_show_deed:fJ K "show_deed" "show_deed" (top 12) f_show_deed d_show_deed
 B_show_deed:Binds K d_show_deed ["deed"] []
 gc:mg "show_deed"=some (.ref f_show_deed)
 eA:Addr
 ck:FuncData
 F_FieldReader____init__:fJ K "__init__" "FieldReader.__init__" (dz 15 0) eA ck
 B_FieldReader____init__:Binds K ck ["self","line"] []
 f_FieldReader__next_name:Addr
 d_FieldReader__next_name:FuncData
 F_FieldReader__next_name:fJ K "next_name" "FieldReader.next_name" (dz 15 3) f_FieldReader__next_name d_FieldReader__next_name
 B_FieldReader__next_name:Binds K d_FieldReader__next_name ["self"] []
 bK:Meth K (cA "FieldReader") (Str.ofString "next_name") f_FieldReader__next_name
 f_sure:Addr
 d_sure:FuncData
 F_sure:fJ K "sure" "sure" (top 13) f_sure d_sure
 B_sure:Binds K d_sure ["good"] []
 dX:mg "sure"=some (.ref f_sure)
 f_FieldReader__ahead:Addr
 d_FieldReader__ahead:FuncData
 F_FieldReader__ahead:fJ K "ahead" "FieldReader.ahead" (dz 15 1) f_FieldReader__ahead d_FieldReader__ahead
 B_FieldReader__ahead:Binds K d_FieldReader__ahead ["self","many"] []
 au:Meth K (cA "FieldReader") (Str.ofString "ahead") f_FieldReader__ahead
 f_FieldReader__eat:Addr
 d_FieldReader__eat:FuncData
 F_FieldReader__eat:fJ K "eat" "FieldReader.eat" (dz 15 2) f_FieldReader__eat d_FieldReader__eat
 B_FieldReader__eat:Binds K d_FieldReader__eat ["self","signs"] []
 aN:Meth K (cA "FieldReader") (Str.ofString "eat") f_FieldReader__eat
 f_FieldReader__next_text:Addr
 d_FieldReader__next_text:FuncData
 F_FieldReader__next_text:fJ K "next_text" "FieldReader.next_text" (dz 15 4) f_FieldReader__next_text d_FieldReader__next_text
 B_FieldReader__next_text:Binds K d_FieldReader__next_text ["self"] []
 bL:Meth K (cA "FieldReader") (Str.ofString "next_text") f_FieldReader__next_text
 f_FieldReader__next_field:Addr
 d_FieldReader__next_field:FuncData
 F_FieldReader__next_field:fJ K "next_field" "FieldReader.next_field" (dz 15 5) f_FieldReader__next_field d_FieldReader__next_field
 B_FieldReader__next_field:Binds K d_FieldReader__next_field ["self"] []
 aM:Meth K (cA "FieldReader") (Str.ofString "next_field") f_FieldReader__next_field
 f_is_name:Addr
 d_is_name:FuncData
 F_is_name:fJ K "is_name" "is_name" (top 7) f_is_name d_is_name
 B_is_name:Binds K d_is_name ["text"] []
 jZ:mg "is_name"=some (.ref f_is_name)
 f_look_at_document:Addr
 d_look_at_document:FuncData
 F_look_at_document:fJ K "look_at_document" "look_at_document" (top 8) f_look_at_document d_look_at_document
 B_look_at_document:Binds K d_look_at_document ["document"] []
 dt:mg "look_at_document"=some (.ref f_look_at_document)
 f_read_document:Addr
 d_read_document:FuncData
 F_read_document:fJ K "read_document" "read_document" (top 16) f_read_document d_read_document
 B_read_document:Binds K d_read_document ["text"] []
 cu:mg "read_document"=some (.ref f_read_document)
 f_number_of:Addr
 d_number_of:FuncData
 F_number_of:fJ K "number_of" "number_of" (top 14) f_number_of d_number_of
 B_number_of:Binds K d_number_of ["text"] []
 eW:mg "number_of"=some (.ref f_number_of)
 f_read_deed:Addr
 d_read_deed:FuncData
 F_read_deed:fJ K "read_deed" "read_deed" (top 17) f_read_deed d_read_deed
 B_read_deed:Binds K d_read_deed ["line"] []
 gi:mg "read_deed"=some (.ref f_read_deed)
 f__law_alike:Addr
 d__law_alike:FuncData
 F__law_alike:fJ K "_law_alike" "_law_alike" (top 21) f__law_alike d__law_alike
 B__law_alike:Binds K d__law_alike ["_law_found","_law_due"] []
 aE:mg "_law_alike"=some (.ref f__law_alike)
 f_law:Addr
 d_law:FuncData
 F_law:fJ K "law" "law" (top 29) f_law d_law
 B_law:Binds K d_law ["_law_script"] []
 ug:mg "law"=some (.ref f_law)
 b_all:mg "all"=none
 b_bool:mg "bool"=none
 b_enumerate:mg "enumerate"=none
 b_int:mg "int"=none
 b_isinstance:mg "isinstance"=none
 b_len:mg "len"=none
 b_list:mg "list"=none
 b_range:mg "range"=none
 b_sorted:mg "sorted"=none
 b_str:mg "str"=none
 b_tuple:mg "tuple"=none
 t_FIGURES:Tok
 c_FIGURES:mg "FIGURES"=some (.str "0123456789" t_FIGURES)
 t_LETTERS:Tok
 c_LETTERS:mg "LETTERS"=some (.str "abcdefghijklmnopqrstuvwxyz" t_LETTERS)
 gc_FieldReader:mg (Str.ofString "FieldReader")=some (.ref (cA "FieldReader"))
 gc_NoField:mg (Str.ofString "NoField")=some (.ref (cA "NoField"))
 gc_NoLine:mg (Str.ofString "NoLine")=some (.ref (cA "NoLine"))
 ex_NoLine:ExF K (cA "NoLine")
 em_NoField:EM DT K cA "NoField" (.ref (cA "NoField"))
 oa_NoField:Addr
 od_NoField:FuncData
 oi_NoField:OinF P w K mg base (cA "NoField") oa_NoField od_NoField
 cl_FieldReader:Cls K (cA "FieldReader")
 k_FieldReader:Mk K (cA "FieldReader") eA
 fld:p8 K cA fT
section
variable{P:Program}{w:World}{K:PySem.W.Frag}{mg:Str→Option Value}{base:Heap}{cA:String→Addr}
theorem oM:FnScope ["_law_script","_law_turn","_law_many","_law_cells","_law_found","_law_k","_law_left","_law_place","_law_number_here","_law_at","_law_cell"] ["_law_script","_law_turn","_law_many"] (defScope (top 19)):=fH
theorem ku(E:Fx P w K mg base cA):FnOk P w K mg base CX0 2 E.f__law_draws E.d__law_draws ["_law_script","_law_turn","_law_many"] (bz cA 3 dZ):=by
 refine gZ (k:=1) E.F__law_draws oM rfl rfl fun cdv A outer s H E0 C hr hC=>?_
 have hu:=hr.units
 have nodupN:=oM.nd
 unfold ja
 exact(af (vg nodupN (cf (uB (va cH) xk (m7 vi)) (cX (vc (va gS) ak)))) (af (vg nodupN (cX ak)) (af (Vw.du (i0 hu (dh (jg (vx hu (va eD) vi) vi) vi) vi rfl) (af (Ah hC [("_law_cell",10)] rfl rfl nodupN rfl rfl rfl rfl (by kernel_rfl) (kD (va eD)) (by kernel_rfl) (fun s H D cl fp C hC=>⟨(tn nodupN),lE,(jg (va y7) vi)⟩) rfl (by decide)) (af (eK hC PassesOwn.never rfl (ka (vc (cf (va gS) (va pR)) ak) rfl E.b_range rfl) (fun C hC hW=>(tn nodupN)) (fun C hC hW=>(af (vg nodupN (dh (va fG) (eJ call_len (df _) rfl E.b_len d0 (vc (va ji) ak) rfl dY dW.1))) (af (Vw.du (JL hu (va fG) (va gS) rfl) (af (cY (je F.plainAttrs_list F.slot_list_append F.type_list_append mt_append fQ j2 (va aS) (vc (dh (vx hu (va ji) (va oz)) vi) ak) rfl rfl (by decide) rfl) rfl) ar) ar) (af (D0 hu (va ji) (va oz) (jg (vx hu (va ji) (va oz)) vi) rfl rfl) ar)))) rfl) (af (bb (va aS)) ar))) ar) (af (eK hC PassesOwn.never rfl (ka (vc (va pR) ak) rfl E.b_range rfl) (fun C hC hW=>(tn nodupN)) (fun C hC hW=>(af (vg nodupN (cf (mO (mO (cf (va fG) (va gS)) (cf (va fG) (va gS))) vi) vi)) (af (vg nodupN (dh (mO (cf (dh (vx hu (va eD) (dh (va fG) (eJ call_len (df _) rfl E.b_len d0 (vc (va eD) ak) rfl dY dW.1))) vi) (va wF)) vi) vi)) (af (vg nodupN (dh (cf (mO (va aZ) (va aZ)) (mO vi (va fG))) vi)) (af (cY (je F.plainAttrs_list F.slot_list_append F.type_list_append mt_append fQ j2 (va aS) (vc (dh (mO (va aZ) (va aZ)) vi) ak) rfl rfl (by decide) rfl) rfl) ar))))) rfl) (af (bb (va aS)) ar)))))
theorem rB:FnScope ["_law_draws_here"] ["_law_draws_here"] (defScope (top 20)):=fH
theorem bO(E:Fx P w K mg base cA):FnOk P w K mg base CX0 2 E.f__law_pop E.d__law_pop ["_law_draws_here"] (bz cA 1 bq):=by
 refine gZ (k:=1) E.F__law_pop rB rfl rfl fun cdv A outer s H E0 C hr hC=>?_
 have hu:=hr.units
 have nodupN:=rB.nd
 unfold kQ
 exact(af (Vw.du (i0 hu (va aC) (cX ak) rfl) (af (bb vi) ar) ar) (af (bb (JX F.plainAttrs_list F.slot_list_pop F.type_list_pop mt_pop EX j2 (va aC) rfl rfl)) ar))
theorem o3:FnScope ["_law_draws_here","_law_letters","_law_found","_law_k","_law_number_here","_law_name","_law_j"] ["_law_draws_here"] (defScope (top 22)):=fH
theorem kh(E:Fx P w K mg base cA):FnOk P w K mg base CX0 4 E.f__law_names E.d__law_names ["_law_draws_here"] (bz cA 1 gP):=by
 have bO:=bO E
 refine gZ (k:=3) E.F__law_names o3 rfl rfl fun cdv A outer s H E0 C hr hC=>?_
 have hu:=hr.units
 have nodupN:=o3.nd
 unfold qp
 exact(af (A0 nodupN rfl (.inr rfl) (.inl rfl) aA rfl) (af (vg nodupN Iq) (af (eK hC PassesOwn.never rfl (ka (vc (vx hu (cX (vc vi (vc vi (vc vi (vc vi (vc vi (vc vi ak))))))) (dh (x_call hC bO (hr.mono (by omega)) rfl E.bq E.F__law_pop.kp E.B__law_pop pass0 rfl (vc (va aC) ak) gn.1 rfl) vi)) ak) rfl E.b_range rfl) (fun C hC hW=>(tn nodupN)) (fun C hC hW=>(af (A0 nodupN rfl (.inr rfl) (.inl rfl) (x_call hC bO (hr.mono (by omega)) rfl E.bq E.F__law_pop.kp E.B__law_pop pass0 rfl (vc (va aC) ak) gn.1 rfl) rfl) (af (vg nodupN (je F.plainAttrs_str F.slot_str_join F.type_str_join mt_join (oA _) lP aA (vc (xI hC [("_law_j",6)] rfl rfl nodupN (ka (vc (cf vi (dh (vb aZ) vi)) ak) rfl E.b_range rfl) (by kernel_rfl) (fun s H D cl fp C hC=>⟨(tn nodupN),lE,(vx hu (vb mK) (dh (cf (jg (vb aZ) vi) (mO (mO (va vU) (va vU)) vi)) vi))⟩) rfl (by decide)) ak) rfl rfl (by decide) rfl)) (af (D0 hu (va aS) (cf (vx hu (vb mK) (dh (jg (vb aZ) vi) vi)) (va b0)) vt rfl rfl) ar)))) rfl) (af (bb (eJ (call_sortedD rfl) AF rfl E.b_sorted BR (vc (va aS) ak) rfl BF BZ.1)) ar))))
theorem o5:FnScope ["_law_draws_here","_law_signs","_law_found","_law_k","_law_number_here","_law_some"] ["_law_draws_here"] (defScope (top 23)):=fH
theorem lG(E:Fx P w K mg base cA):FnOk P w K mg base CX0 4 E.f__law_text E.d__law_text ["_law_draws_here"] (bz cA 1 gm):=by
 have bO:=bO E
 refine gZ (k:=3) E.F__law_text o5 rfl rfl fun cdv A outer s H E0 C hr hC=>?_
 have hu:=hr.units
 have nodupN:=o5.nd
 unfold jV
 exact(af (vg nodupN aA) (af (vg nodupN aA) (af (eK hC PassesOwn.never rfl (ka (vc (dh (x_call hC bO (hr.mono (by omega)) rfl E.bq E.F__law_pop.kp E.B__law_pop pass0 rfl (vc (va aC) ak) gn.1 rfl) vi) ak) rfl E.b_range rfl) (fun C hC hW=>(tn nodupN)) (fun C hC hW=>(af (vg nodupN (x_call hC bO (hr.mono (by omega)) rfl E.bq E.F__law_pop.kp E.B__law_pop pass0 rfl (vc (va aC) ak) gn.1 rfl)) (af (vg nodupN (vx hu (cX (vc (va wB) (vc aA (vc aA ak)))) (dh (va aZ) vi))) (af (vg nodupN (cf (va aS) (vx hu (va pP) (dh (jg (va aZ) vi) (eJ call_len (df _) rfl E.b_len d0 (vc (va pP) ak) rfl dY dW.1))))) ar)))) rfl) (af (bb (va aS)) ar))))
theorem lT:FnScope ["_law_draws_here","_law_name"] ["_law_draws_here"] (defScope (top 24)):=fH
theorem fM(E:Fx P w K mg base cA):FnOk P w K mg base CX0 6 E.f__law_document E.d__law_document ["_law_draws_here"] (bz cA 1 cP):=by
 have kh:=kh E
 have lG:=lG E
 refine gZ (k:=5) E.F__law_document lT rfl rfl fun cdv A outer s H E0 C hr hC=>?_
 have hu:=hr.units
 have nodupN:=lT.nd
 unfold mY
 exact(af (bb (xI hC [("_law_name",1)] rfl rfl nodupN (kD (x_call hC kh (hr.mono (by omega)) rfl E.gP E.F__law_names.kp E.B__law_names pass0 rfl (vc (vb aC) ak) wZ.1 rfl)) (by kernel_rfl) (fun s H D cl fp C hC=>⟨(tn nodupN),lE,(gR (vc (va b0) (vc (x_call hC lG (hr.mono (by omega)) rfl E.gm E.F__law_text.kp E.B__law_text pass0 rfl (vc (vb aC) ak) xx.1 rfl) ak)))⟩) rfl (by decide))) ar)
theorem nT:FnScope ["_law_script","_law_draws_here","_law_one","_law_cells"] ["_law_script","_law_draws_here"] (defScope (top 25)):=fH
theorem dO(E:Fx P w K mg base cA):FnOk P w K mg base CX0 4 E.f__law_number E.d__law_number ["_law_script","_law_draws_here"] (bz cA 2 bT):=by
 have bO:=bO E
 refine gZ (k:=3) E.F__law_number nT rfl rfl fun cdv A outer s H E0 C hr hC=>?_
 have hu:=hr.units
 have nodupN:=nT.nd
 unfold oW
 exact(af (vg nodupN (x_call hC bO (hr.mono (by omega)) rfl E.bq E.F__law_pop.kp E.B__law_pop pass0 rfl (vc (va aC) ak) gn.1 rfl)) (af (vg nodupN (cf (uB (va cH) xk (m7 vi)) (cX (vc (va bC) ak)))) (af (bb (vx hu (cX (vc (dh (jg (va bC) vi) vi) (vc (dh (jg (va bC) vi) vi) (vc (dh (vx hu (va eD) (dh (jg (va bC) vi) (eJ call_len (df _) rfl E.b_len d0 (vc (va eD) ak) rfl dY dW.1))) (EG vi vi)) (vc (cf (EG vi vi) (va bC)) ak))))) (dh (va bC) vi))) ar)))
theorem o8:FnScope ["_law_script","_law_draws_here","_law_number_here","_law_name"] ["_law_script","_law_draws_here"] (defScope (top 26)):=fH
theorem mE(E:Fx P w K mg base cA):FnOk P w K mg base CX0 8 E.f__law_deed E.d__law_deed ["_law_script","_law_draws_here"] (bz cA 2 gh):=by
 have bO:=bO E
 have fM:=fM E
 have dO:=dO E
 refine gZ (k:=7) E.F__law_deed o8 rfl rfl fun cdv A outer s H E0 C hr hC=>?_
 have hu:=hr.units
 have nodupN:=o8.nd
 unfold rK
 exact(af (vg nodupN (x_call hC bO (hr.mono (by omega)) rfl E.bq E.F__law_pop.kp E.B__law_pop pass0 rfl (vc (va aC) ak) gn.1 rfl)) (af (vg nodupN (vx hu (cX (vc aA (vc aA (vc aA (vc aA (vc aA (vc aA (vc aA (vc aA (vc aA (vc aA (vc aA ak)))))))))))) (dh (va aZ) vi))) (af (Vw.du (i0 hu (va b0) aA rfl) (af (bb (gR (vc (va b0) (vc (x_call hC fM (hr.mono (by omega)) rfl E.cP E.F__law_document.kp E.B__law_document pass0 rfl (vc (va aC) ak) lZ.1 rfl) ak)))) ar) ar) (af (Vw.du (i0 hu (va b0) aA rfl) (af (bb (gR (vc (va b0) (vc (x_call hC dO (hr.mono (by omega)) rfl E.bT E.F__law_number.kp E.B__law_number pass0 rfl (vc (va cH) (vc (va aC) ak)) hI.1 rfl) (vc (x_call hC fM (hr.mono (by omega)) rfl E.cP E.F__law_document.kp E.B__law_document pass0 rfl (vc (va aC) ak) lZ.1 rfl) ak))))) ar) ar) (af (Vw.du (uM hu (va b0) (cX (vc aA (vc aA (vc aA ak)))) rfl) (af (bb (gR (vc (va b0) ak))) ar) ar) (af (Vw.du (i0 hu (va b0) aA rfl) (af (bb (gR (vc (va b0) (vc (x_call hC dO (hr.mono (by omega)) rfl E.bT E.F__law_number.kp E.B__law_number pass0 rfl (vc (va cH) (vc (va aC) ak)) hI.1 rfl) (vc (x_call hC dO (hr.mono (by omega)) rfl E.bT E.F__law_number.kp E.B__law_number pass0 rfl (vc (va cH) (vc (va aC) ak)) hI.1 rfl) ak))))) ar) ar) (af (bb (gR (vc (va b0) (vc (x_call hC dO (hr.mono (by omega)) rfl E.bT E.F__law_number.kp E.B__law_number pass0 rfl (vc (va cH) (vc (va aC) ak)) hI.1 rfl) ak)))) ar)))))))
theorem pQ:FnScope ["_law_deed_here","_law_one"] ["_law_deed_here"] (defScope (top 28)):=fH
theorem l7(E:Fx P w K mg base cA):FnOk P w K mg base CX0 2 E.f__law_copy E.d__law_copy ["_law_deed_here"] (bz cA 1 gj):=by
 refine gZ (k:=1) E.F__law_copy pQ rfl rfl fun cdv A outer s H E0 C hr hC=>?_
 have hu:=hr.units
 have nodupN:=pQ.nd
 unfold nz
 exact(af (bb (iV call_tuple_of (v9 _) rfl E.b_tuple sF (vc (xI hC [("_law_one",1)] rfl rfl nodupN (kD (va cn)) (by kernel_rfl) (fun s H D cl fp C hC=>⟨(tn nodupN),lE,(IM (gN (ir (va bC) rfl E.b_isinstance rfl E.b_list k9 (by decide) rfl ll k7.1) rfl) (iV call_list_of (Dy _) rfl E.b_list k9 (vc (va bC) ak) rfl ll k7.1) (va bC))⟩) rfl (by decide)) ak) rfl sC sf.1)) ar)
theorem pI:FnScope ["_law_deed_here","_law_line_here","_law_one","_law_field","_law_text_here","_law_sign"] ["_law_deed_here"] (defScope (top 27)):=fH
theorem lX(E:Fx P w K mg base cA):FnOk P w K mg base CX0 2 E.f__law_line E.d__law_line ["_law_deed_here"] (bz cA 1 gp):=by
 refine gZ (k:=1) E.F__law_line pI rfl rfl fun cdv A outer s H E0 C hr hC=>?_
 have hu:=hr.units
 have nodupN:=pI.nd
 unfold rD
 exact(af (vg nodupN (vx hu (va cn) vi)) (af (eK hC PassesOwn.never rfl (kD (uB (va cn) (m7 vi) xk)) (fun C hC hW=>(tn nodupN)) (fun C hC hW=>(af (Vw.du (gN (ir (va bC) rfl E.b_isinstance rfl E.b_int mu (by decide) rfl mD my.1) rfl) (af (vg nodupN (cf (cf (va bX) aA) (iV call_str_int yW rfl E.b_str tL (vc (va bC) ak) rfl tY sP.1))) ar) (af (Vw.du (i0 hu (va bC) (cX ak) rfl) (af (vg nodupN (cf (va bX) aA)) ar) (af (eK hC PassesOwn.never rfl (kD (va bC)) (fun C hC hW=>(lj rfl (cR (tn nodupN) (cR (tn nodupN) k6 rfl) rfl) rfl rfl)) (fun C hC hW=>(af (vg nodupN (cf (cf (cf (va bX) aA) (va wH)) aA)) (af (eK hC PassesOwn.never rfl (kD (va rh)) (fun C hC hW=>(tn nodupN)) (fun C hC hW=>(af (vg nodupN (cf (cf (va bX) (va p5)) (vx hu (cX (vc aA (vc aA ak))) (iV call_int1 uI rfl E.b_int mu (vc (pW hu (va p5) aA rfl) ak) rfl mD my.1)))) ar)) rfl) (af (vg nodupN (cf (va bX) aA)) ar)))) rfl) ar)) ar)) ar)) rfl) (af (bb (va bX)) ar)))
theorem oT:FnScope ["field","text"] ["field","text"] (defScope (top 10)):=fH
theorem ko(E:Fx P w K mg base cA):FnOk P w K mg base CX0 2 E.f_show_field E.d_show_field ["field","text"] (bz cA 2 gX):=by
 refine gZ (k:=1) E.F_show_field oT rfl rfl fun cdv A outer s H E0 C hr hC=>?_
 have hu:=hr.units
 have nodupN:=oT.nd
 unfold pX
 exact(af (bb (cf (F2 (Gm (va jy) (HM rfl)) (GZ (ik:=1) rfl (.inl rfl) dQ.1 dQ.2 (by decide) rfl rfl rfl rfl rfl)) aA)) ar)
theorem lD:FnScope ["document","field","text"] ["document"] (defScope (top 11)):=fH
theorem iz(E:Fx P w K mg base cA):FnOk P w K mg base CX0 4 E.f_show_document E.d_show_document ["document"] (bz cA 1 eT):=by
 have ko:=ko E
 refine gZ (k:=3) E.F_show_document lD rfl rfl fun cdv A outer s H E0 C hr hC=>?_
 have hu:=hr.units
 have nodupN:=lD.nd
 unfold mZ
 exact(af (Vw.du (i0 hu (eJ call_len (df _) rfl E.b_len d0 (vc (va nA) ak) rfl dY dW.1) vi rfl) (af (bb aA) ar) ar) (af (bb (je F.plainAttrs_str F.slot_str_join F.type_str_join mt_join (oA _) lP aA (vc (xI hC [("field",1),("text",2)] rfl rfl nodupN (kD (va nA)) (by kernel_rfl) (fun s H D cl fp C hC=>⟨(lj rfl (cR (tn nodupN) (cR (tn nodupN) k6 rfl) rfl) rfl rfl),lE,(x_call hC ko (hr.mono (by omega)) rfl E.gX E.F_show_field.kp E.B_show_field pass0 rfl (vc (va jy) (vc (va dQ) ak)) wY.1 rfl)⟩) rfl (by decide)) ak) rfl rfl (by decide) rfl)) ar))
theorem pV:FnScope ["deed","parts","one"] ["deed"] (defScope (top 12)):=fH
theorem mx(E:Fx P w K mg base cA):FnOk P w K mg base CX0 6 E.f_show_deed E.d_show_deed ["deed"] (bz cA 1 gc):=by
 have iz:=iz E
 refine gZ (k:=5) E.F_show_deed pV rfl rfl fun cdv A outer s H E0 C hr hC=>?_
 have hu:=hr.units
 have nodupN:=pV.nd
 unfold rA
 exact(af (vg nodupN (cX (vc (vx hu (va zw) vi) ak))) (af (eK hC PassesOwn.never rfl (kD (uB (va zw) (m7 vi) xk)) (fun C hC hW=>(tn nodupN)) (fun C hC hW=>(af (Vw.du (gN (ir (va xK) rfl E.b_isinstance rfl E.b_list k9 (by decide) rfl ll k7.1) rfl) (af (cY (je F.plainAttrs_list F.slot_list_append F.type_list_append mt_append fQ j2 (va sy) (vc (x_call hC iz (hr.mono (by omega)) rfl E.eT E.F_show_document.kp E.B_show_document pass0 rfl (vc (va xK) ak) rW.1 rfl) ak) rfl rfl (by decide) rfl) rfl) ar) (af (cY (je F.plainAttrs_list F.slot_list_append F.type_list_append mt_append fQ j2 (va sy) (vc (iV call_str_int yW rfl E.b_str tL (vc (va xK) ak) rfl tY sP.1) ak) rfl rfl (by decide) rfl) rfl) ar)) ar)) rfl) (af (bb (je F.plainAttrs_str F.slot_str_join F.type_str_join mt_join (oA _) lP aA (vc (va sy) ak) rfl rfl (by decide) rfl)) ar)))
theorem gT:FnScope ["self","line"] ["self","line"] (defScope (dz 15 0)):=fH
theorem d4(E:Fx P w K mg base cA):FnOk P w K mg base CX0 2 E.eA E.ck ["self","line"] (bz cA 2 ek):=by
 refine gZ (k:=1) E.F_FieldReader____init__ gT rfl rfl fun cdv A outer s H E0 C hr hC=>?_
 have hu:=hr.units
 have nodupN:=gT.nd
 unfold hQ
 exact(af (BW hC E.fld (va bt) (va qR) rfl) (af (BW hC E.fld (va bt) vi rfl) ar))
theorem gH:FnScope ["self","begin"] ["self"] (defScope (dz 15 3)):=fH
theorem dI(E:Fx P w K mg base cA):FnOk P w K mg base CX0 2 E.f_FieldReader__next_name E.d_FieldReader__next_name ["self"] (bz cA 1 dV):=by
 refine gZ (k:=1) E.F_FieldReader__next_name gH rfl rfl fun cdv A outer s H E0 C hr hC=>?_
 have hu:=hr.units
 have nodupN:=gH.nd
 unfold gW
 exact(af (vg nodupN (jc hC E.fld (va bt) rfl)) (af (C7 PassesOwn.never (PW.pt (Vw.v_and (Ej hu (jc hC E.fld (va bt) rfl) (eJ call_len (df _) rfl E.b_len d0 (vc (jc hC E.fld (va bt) rfl) ak) rfl dY dW.1) rfl) (Vw.G4 (uM hu (vx hu (jc hC E.fld (va bt) rfl) (jc hC E.fld (va bt) rfl)) (xZ rfl E.c_LETTERS sW.1) rfl)))) (af (n9 hC E.fld (va bt) vi) ar)) (af (bb (uB (jc hC E.fld (va bt) rfl) (m7 (va CY)) (m7 (jc hC E.fld (va bt) rfl)))) ar)))
theorem zM:FnScope ["good"] ["good"] (defScope (top 13)):=fH
theorem dw(E:Fx P w K mg base cA):FnOk P w K mg base (L2.CX P w) 2 E.f_sure E.d_sure ["good"] (bz cA 1 dX):=by
 refine kR (k:=1) E.F_sure zM rfl rfl fun cdv A outer s H E0 C hr hC tk=>?_
 have hu:=hr.units
 have nodupN:=zM.nd
 unfold Bh
 exact(af (Vw.du (Vw.v_not (gN (va FH) rfl)) (af (x_raise hC rfl tk E.ex_NoLine E.gc_NoLine rfl B5.1) ar) ar) ar)
theorem iH:FnScope ["self","many"] ["self","many"] (defScope (dz 15 1)):=fH
theorem aU(E:Fx P w K mg base cA):FnOk P w K mg base CX0 2 E.f_FieldReader__ahead E.d_FieldReader__ahead ["self","many"] (bz cA 2 bA):=by
 refine gZ (k:=1) E.F_FieldReader__ahead iH rfl rfl fun cdv A outer s H E0 C hr hC=>?_
 have hu:=hr.units
 have nodupN:=iH.nd
 unfold iX
 exact(af (bb (uB (jc hC E.fld (va bt) rfl) (m7 (jc hC E.fld (va bt) rfl)) (m7 (cf (jc hC E.fld (va bt) rfl) (va FL))))) ar)
theorem jv:FnScope ["self","signs"] ["self","signs"] (defScope (dz 15 2)):=fH
theorem a0(E:Fx P w K mg base cA):FnOk P w K mg base (L2.CX P w) 4 E.f_FieldReader__eat E.d_FieldReader__eat ["self","signs"] (bz cA 2 cG):=by
 have dw:=dw E
 have aU:=aU E
 refine kR (k:=3) E.F_FieldReader__eat jv rfl rfl fun cdv A outer s H E0 C hr hC tk=>?_
 have hu:=hr.units
 have nodupN:=jv.nd
 unfold jX
 exact(af (cY (iL hC tk dw (hr.mono (by omega)) rfl E.dX E.F_sure.kp E.B_sure rfl (vc (pW hu (jU hC mR E.cl_FieldReader E.au aU (hr.mono (by omega)) E.B_FieldReader__ahead rfl (va bt) (vc (eJ call_len (df _) rfl E.b_len d0 (vc (va rT) ak) rfl dY dW.1) ak) rfl rfl) (va rT) rfl) ak) lg.1 rfl) rfl) (af (n9 hC E.fld (va bt) (eJ call_len (df _) rfl E.b_len d0 (vc (va rT) ak) rfl dY dW.1)) ar))
theorem gJ:FnScope ["self","found"] ["self"] (defScope (dz 15 4)):=fH
theorem dG(E:Fx P w K mg base cA):FnOk P w K mg base (L2.CX P w) 6 E.f_FieldReader__next_text E.d_FieldReader__next_text ["self"] (bz cA 1 dU):=by
 have a0:=a0 E
 have aU:=aU E
 have dw:=dw E
 refine kR (k:=5) E.F_FieldReader__next_text gJ rfl rfl fun cdv A outer s H E0 C hr hC tk=>?_
 have hu:=hr.units
 have nodupN:=gJ.nd
 unfold gU
 exact(af (cY (jU hC (mX tk) E.cl_FieldReader E.aN a0 (hr.mono (by omega)) E.B_FieldReader__eat rfl (va bt) (vc aA ak) rfl rfl) rfl) (af (vg nodupN (cX ak)) (af (C7 (L2.passes_of rfl) (PW.pt (Vw.v_or (A8 hu (jU hC mR E.cl_FieldReader E.au aU (hr.mono (by omega)) E.B_FieldReader__ahead rfl (va bt) (vc vi ak) rfl rfl) aA rfl) (Vw.AX (i0 hu (jU hC mR E.cl_FieldReader E.au aU (hr.mono (by omega)) E.B_FieldReader__ahead rfl (va bt) (vc vi ak) rfl rfl) aA rfl)))) (af (cY (iL hC tk dw (hr.mono (by omega)) rfl E.dX E.F_sure.kp E.B_sure rfl (vc (G7 hu (jU hC mR E.cl_FieldReader E.au aU (hr.mono (by omega)) E.B_FieldReader__ahead rfl (va bt) (vc vi ak) rfl rfl) aA rfl) ak) lg.1 rfl) rfl) (af (cY (je F.plainAttrs_list F.slot_list_append F.type_list_append mt_append fQ j2 (va lH) (vc (jU hC mR E.cl_FieldReader E.au aU (hr.mono (by omega)) E.B_FieldReader__ahead rfl (va bt) (vc vi ak) rfl rfl) ak) rfl rfl (by decide) rfl) rfl) (af (n9 hC E.fld (va bt) (cf vi (iV call_int1 uI rfl E.b_int mu (vc (pW hu (jU hC mR E.cl_FieldReader E.au aU (hr.mono (by omega)) E.B_FieldReader__ahead rfl (va bt) (vc vi ak) rfl rfl) aA rfl) ak) rfl mD my.1))) ar)))) (af (cY (jU hC (mX tk) E.cl_FieldReader E.aN a0 (hr.mono (by omega)) E.B_FieldReader__eat rfl (va bt) (vc aA ak) rfl rfl) rfl) (af (bb (je F.plainAttrs_str F.slot_str_join F.type_str_join mt_join (oA _) lP aA (vc (va lH) ak) rfl rfl (by decide) rfl)) ar)))))
theorem fY:FnScope ["self","field"] ["self"] (defScope (dz 15 5)):=fH
theorem cC(E:Fx P w K mg base cA):FnOk P w K mg base (L2.CX P w) 8 E.f_FieldReader__next_field E.d_FieldReader__next_field ["self"] (bz cA 1 cI):=by
 have dI:=dI E
 have a0:=a0 E
 have dG:=dG E
 refine kR (k:=7) E.F_FieldReader__next_field fY rfl rfl fun cdv A outer s H E0 C hr hC tk=>?_
 have hu:=hr.units
 have nodupN:=fY.nd
 unfold gB
 exact(af (vg nodupN (tX hC mR E.cl_FieldReader E.bK dI (hr.mono (by omega)) E.B_FieldReader__next_name rfl (va bt) rfl)) (af (cY (jU hC (mX tk) E.cl_FieldReader E.aN a0 (hr.mono (by omega)) E.B_FieldReader__eat rfl (va bt) (vc aA ak) rfl rfl) rfl) (af (bb (gR (vc (va jy) (vc (tX hC (mX tk) E.cl_FieldReader E.bL dG (hr.mono (by omega)) E.B_FieldReader__next_text rfl (va bt) rfl) ak)))) ar)))
theorem tG:FnScope ["text","sign"] ["text"] (defScope (top 7)):=fH
theorem oB(E:Fx P w K mg base cA):FnOk P w K mg base CX0 2 E.f_is_name E.d_is_name ["text"] (bz cA 1 jZ):=by
 refine gZ (k:=1) E.F_is_name tG rfl rfl fun cdv A outer s H E0 C hr hC=>?_
 have hu:=hr.units
 have nodupN:=tG.nd
 unfold vD
 exact(af (bb (Vw.pz (yY hu vi (eJ call_len (df _) rfl E.b_len d0 (vc (va dQ) ak) rfl dY dW.1) vi rfl) (Vw.q8 (eJ (cr_all rfl) (Fp _) rfl E.b_all HH (vc (xI hC [("sign",1)] rfl rfl nodupN (kD (va dQ)) (by kernel_rfl) (fun s H D cl fp C hC=>⟨(tn nodupN),lE,(ya hu (va zK) (xZ rfl E.c_LETTERS sW.1) rfl)⟩) rfl (by decide)) ak) rfl Hg G8.1)))) ar)
theorem jn:FnScope ["document","last","place","field","text"] ["document"] (defScope (top 8)):=fH
theorem gy(E:Fx P w K mg base cA):FnOk P w K mg base (L2.CX P w) 4 E.f_look_at_document E.d_look_at_document ["document"] (bz cA 1 dt):=by
 have oB:=oB E
 refine kR (k:=3) E.F_look_at_document jn rfl rfl fun cdv A outer s H E0 C hr hC tk=>?_
 have hu:=hr.units
 have nodupN:=jn.nd
 unfold j4
 exact(af (vg nodupN aA) (af (eK hC (L2.passes_of rfl) rfl (HS (va nA) rfl E.b_enumerate rfl) (fun C hC hW=>(lj rfl (cR (tn nodupN) (cR (lj rfl (cR (tn nodupN) (cR (tn nodupN) k6 rfl) rfl) rfl rfl) k6 rfl) rfl) rfl rfl)) (fun C hC hW=>have tk:=hW▸tk;(af (Vw.du (PW.pt (Vw.v_or (Vw.v_not (gN (x_call hC oB (hr.mono (by omega)) rfl E.jZ E.F_is_name.kp E.B_is_name pass0 rfl (vc (va jy) ak) Av.1 rfl) rfl)) (Vw.AX (Ka hu (va jy) (va E3) rfl)))) (af (Dm hC rfl tk (hr.mono (by omega)) E.oi_NoField E.gc_NoField rfl (va CG) rfl tO.1) ar) ar) (af (vg nodupN (va jy)) ar))) rfl) ar))
theorem lK:FnScope ["text","reader","found"] ["text"] (defScope (top 16)):=fH
theorem fO(E:Fx P w K mg base cA):FnOk P w K mg base (L2.CX P w) 10 E.f_read_document E.d_read_document ["text"] (bz cA 1 cu):=by
 have d4:=d4 E
 have cC:=cC E
 have a0:=a0 E
 have gy:=gy E
 refine kR (k:=9) E.F_read_document lK rfl rfl fun cdv A outer s H E0 C hr hC tk=>?_
 have hu:=hr.units
 have nodupN:=lK.nd
 unfold mM
 exact(af (Vw.du (i0 hu (va dQ) aA rfl) (af (bb (cX ak)) ar) ar) (af (vg nodupN (La hC mR E.k_FieldReader d4 (hr.mono (by omega)) rfl E.gc_FieldReader E.B_FieldReader____init__ rfl (vc (va dQ) ak) vv.1 rfl)) (af (vg nodupN (cX (vc (tX hC (mX tk) E.cl_FieldReader E.aM cC (hr.mono (by omega)) E.B_FieldReader__next_field rfl (va mT) rfl) ak))) (af (C7 (L2.passes_of rfl) (Ej hu (jc hC E.fld (va mT) rfl) (eJ call_len (df _) rfl E.b_len d0 (vc (va dQ) ak) rfl dY dW.1) rfl) (af (cY (jU hC (mX tk) E.cl_FieldReader E.aN a0 (hr.mono (by omega)) E.B_FieldReader__eat rfl (va mT) (vc aA ak) rfl rfl) rfl) (af (cY (je F.plainAttrs_list F.slot_list_append F.type_list_append mt_append fQ j2 (va lH) (vc (tX hC (mX tk) E.cl_FieldReader E.aM cC (hr.mono (by omega)) E.B_FieldReader__next_field rfl (va mT) rfl) ak) rfl rfl (by decide) rfl) rfl) ar))) (af (I5 hC rfl rfl ⟨rfl,tO.1,.inl E.gc_NoField⟩ E.em_NoField tk (fun C pn xe hC tk po=>(af (cY (iL hC tk gy (hr.mono (by omega)) rfl E.dt E.F_look_at_document.kp E.B_look_at_document rfl (vc (va lH) ak) o4.1 rfl) rfl) ar)) (fun a oe cls d pn z1 z2=>BB)) (af (bb (va lH)) ar))))))
theorem p4:FnScope ["text","sign"] ["text"] (defScope (top 14)):=fH
theorem iW(E:Fx P w K mg base cA):FnOk P w K mg base (L2.CX P w) 4 E.f_number_of E.d_number_of ["text"] (bz cA 1 eW):=by
 have dw:=dw E
 refine kR (k:=3) E.F_number_of p4 rfl rfl fun cdv A outer s H E0 C hr hC tk=>?_
 have hu:=hr.units
 have nodupN:=p4.nd
 unfold rL
 exact(af (cY (iL hC tk dw (hr.mono (by omega)) rfl E.dX E.F_sure.kp E.B_sure rfl (vc (Vw.pz (yY hu vi (eJ call_len (df _) rfl E.b_len d0 (vc (va dQ) ak) rfl dY dW.1) vi rfl) (Vw.q8 (Vw.Jb (G7 hu (vx hu (va dQ) vi) aA rfl) (Vw.GY (pW hu (va dQ) aA rfl))))) ak) lg.1 rfl) rfl) (af (eK hC (L2.passes_of rfl) rfl (kD (va dQ)) (fun C hC hW=>(tn nodupN)) (fun C hC hW=>have tk:=hW▸tk;(af (cY (iL hC tk dw (hr.mono (by omega)) rfl E.dX E.F_sure.kp E.B_sure rfl (vc (ya hu (va zK) (xZ rfl E.c_FIGURES AI.1) rfl) ak) lg.1 rfl) rfl) ar)) rfl) (af (bb (iV call_int_str Dg rfl E.b_int mu (vc (va dQ) ak) rfl mD my.1)) ar)))
theorem qm:FnScope ["line","numbers","name","blank","rest","number","fields","part"] ["line"] (defScope (top 17)):=fH
theorem lJ(E:Fx P w K mg base cA):FnOk P w K mg base (L2.CX P w) 12 E.f_read_deed E.d_read_deed ["line"] (bz cA 1 gi):=by
 have fO:=fO E
 have iW:=iW E
 have dw:=dw E
 refine kR (k:=11) E.F_read_deed qm rfl rfl fun cdv A outer s H E0 C hr hC tk=>?_
 have hu:=hr.units
 have nodupN:=qm.nd
 unfold rO
 exact(af (Cz (je F.plainAttrs_str F.slot_str_partition F.type_str_partition mt_partition oN lP (va qR) (vc aA ak) rfl rfl (by decide) rfl) (lj rfl (cR (tn nodupN) (cR (tn nodupN) (cR (tn nodupN) k6 rfl) rfl) rfl) rfl rfl) rfl rfl rfl) (af (Vw.du (i0 hu (va nY) aA rfl) (af (bb (gR (vc aA (vc (Cy hC tk fO (hr.mono (by omega)) rfl E.cu E.F_read_document.kp E.B_read_document rfl (vc (va vj) ak) lQ.1 rfl) ak)))) ar) ar) (af (Vw.du (i0 hu (va nY) aA rfl) (af (Cz (je F.plainAttrs_str F.slot_str_partition F.type_str_partition mt_partition oN lP (va vj) (vc aA ak) rfl rfl (by decide) rfl) (lj rfl (cR (tn nodupN) (cR (tn nodupN) (cR (tn nodupN) k6 rfl) rfl) rfl) rfl rfl) rfl rfl rfl) (af (bb (gR (vc aA (vc (iL hC tk iW (hr.mono (by omega)) rfl E.eW E.F_number_of.kp E.B_number_of rfl (vc (va Bf) ak) pJ.1 rfl) (vc (Cy hC tk fO (hr.mono (by omega)) rfl E.cu E.F_read_document.kp E.B_read_document rfl (vc (va BL) ak) lQ.1 rfl) ak))))) ar)) ar) (af (Vw.du (uM hu (va qR) (cX (vc aA (vc aA (vc aA ak)))) rfl) (af (bb (gR (vc (va qR) ak))) ar) ar) (af (cY (iL hC tk dw (hr.mono (by omega)) rfl E.dX E.F_sure.kp E.B_sure rfl (vc (ya hu (va nY) (cX (vc aA (vc aA (vc aA (vc aA ak))))) rfl) ak) lg.1 rfl) rfl) (af (Ah hC [("part",7)] rfl rfl nodupN rfl rfl rfl rfl (by kernel_rfl) (kD (je F.plainAttrs_str F.slot_str_split F.type_str_split mt_split B1 lP (va vj) (vc aA ak) rfl rfl (by decide) rfl)) (by kernel_rfl) (fun s H D cl fp C hC=>⟨(tn nodupN),lE,(EZ hC iW (hr.mono (by omega)) rfl E.eW E.F_number_of.kp E.B_number_of rfl (vc (va FG) ak) pJ.1 rfl)⟩) rfl (by decide)) (af (cY (iL hC tk dw (hr.mono (by omega)) rfl E.dX E.F_sure.kp E.B_sure rfl (vc (pW hu (eJ call_len (df _) rfl E.b_len d0 (vc (va t7) ak) rfl dY dW.1) (cf vi (iV call_int1 uI rfl E.b_int mu (vc (pW hu (va nY) aA rfl) ak) rfl mD my.1)) rfl) ak) lg.1 rfl) rfl) (af (bb (iV call_tuple_of (v9 _) rfl E.b_tuple sF (vc (cf (cX (vc (va nY) ak)) (va t7)) ak) rfl sC sf.1)) ar))))))))
theorem oP:FnScope ["_law_found","_law_due","_law_k"] ["_law_found","_law_due"] (defScope (top 21)):=fH
theorem dD(E:Fx P w K mg base cA):∀ n,FnOk P w K mg base CX0 (2+n) E.f__law_alike E.d__law_alike ["_law_found","_law_due"] (bz cA 2 (aE n))
 | 0=>Fy rfl
 | n+1=>by
  have dD:=dD E n
  refine gZ (k:=2+n) E.F__law_alike oP rfl rfl fun cdv A outer s H E0 C hr hC=>?_
  have hu:=hr.units
  have nodupN:=oP.nd
  generalize aE n=rec at *
  unfold d3
  exact(af (Vw.du (gN (ir (va dM) rfl E.b_isinstance rfl E.b_str tL (by decide) rfl tY sP.1) rfl) (af (bb (Vw.pz (ir (va aS) rfl E.b_isinstance rfl E.b_str tL (by decide) rfl tY sP.1) (Vw.q8 (pW hu (va aS) (va dM) rfl)))) ar) ar) (af (Vw.du (gN (ir (va dM) rfl E.b_isinstance rfl E.b_int mu (by decide) rfl mD my.1) rfl) (af (bb (Vw.pz (ir (va aS) rfl E.b_isinstance rfl E.b_int mu (by decide) rfl mD my.1) (Vw.pz (Hf (ir (va aS) rfl E.b_isinstance rfl E.b_bool F1 (by decide) rfl Ff FF.1)) (Vw.q8 (pW hu (va aS) (va dM) rfl))))) ar) ar) (af (Vw.du (gN (ir (va dM) rfl E.b_isinstance rfl E.b_list k9 (by decide) rfl ll k7.1) rfl) (af (Vw.du (Vw.v_not (gN (ir (va aS) rfl E.b_isinstance rfl E.b_list k9 (by decide) rfl ll k7.1) rfl)) (af (bb vt) ar) ar) ar) (af (Vw.du (Vw.v_not (gN (ir (va aS) rfl E.b_isinstance rfl E.b_tuple sF (by decide) rfl sC sf.1) rfl)) (af (bb vt) ar) ar) ar)) (af (Vw.du (A8 hu (eJ call_len (df _) rfl E.b_len d0 (vc (va aS) ak) rfl dY dW.1) (eJ call_len (df _) rfl E.b_len d0 (vc (va dM) ak) rfl dY dW.1) rfl) (af (bb vt) ar) ar) (af (eK hC PassesOwn.never rfl (ka (vc (eJ call_len (df _) rfl E.b_len d0 (vc (va dM) ak) rfl dY dW.1) ak) rfl E.b_range rfl) (fun C hC hW=>(tn nodupN)) (fun C hC hW=>(af (Vw.du (Vw.v_not (gN (Ge hC dD (hr.mono (by omega)) rfl E.aE E.F__law_alike.kp E.B__law_alike pass0 rfl (vc (vx hu (va aS) (va fG)) (vc (vx hu (va dM) (va fG)) ak)) kv.1 rfl) rfl)) (af (bb vt) ar) ar) ar)) rfl) (af (bb vt) ar))))))
theorem Bu:FnScope ["_law_script","_law_draws_here","_law_k","_law_deed_here","_law_handed","_law_line_here","_law_turn","_law_found","_law_told","_law_one"] ["_law_script"] (defScope (top 29)):=fH
theorem HP(E:Fx P w K mg base cA):FnOk P w K mg base (L2.CX P w) 14 E.f_law E.d_law ["_law_script"] (bz cA 1 ug):=by
 have ku:=ku E
 have mE:=mE E
 have l7:=l7 E
 have lX:=lX E
 have mx:=mx E
 have lJ:=lJ E
 have dD:=dD E 8
 refine kR (k:=13) E.F_law Bu rfl rfl fun cdv A outer s H E0 C hr hC tk=>?_
 have hu:=hr.units
 have nodupN:=Bu.nd
 unfold AK
 exact(af (vg nodupN (LD (x_call hC ku (hr.mono (by omega)) rfl E.dZ E.F__law_draws.kp E.B__law_draws pass0 rfl (vc (va cH) (vc vi (vc vi ak))) wO.1 rfl))) (af (eK hC (L2.passes_of rfl) rfl (ka (vc vi ak) rfl E.b_range rfl) (fun C hC hW=>(tn nodupN)) (fun C hC hW=>have tk:=hW▸tk;(af (vg nodupN (x_call hC mE (hr.mono (by omega)) rfl E.gh E.F__law_deed.kp E.B__law_deed pass0 rfl (vc (va cH) (vc (va aC) ak)) ye.1 rfl)) (af (vg nodupN (Aw hC l7 (hr.mono (by omega)) rfl E.gj E.F__law_copy.kp E.B__law_copy pass0 rfl (vc (va cn) ak) xX.1 rfl)) (af (vg nodupN (Aw hC lX (hr.mono (by omega)) rfl E.gp E.F__law_line.kp E.B__law_line pass0 rfl (vc (va cn) ak) yv.1 rfl)) (af (eK hC (L2.passes_of rfl) rfl (ka (vc vi ak) rfl E.b_range rfl) (fun C hC hW=>(tn nodupN)) (fun C hC hW=>have tk:=hW▸tk;(af (vg nodupN (Aw hC mx (hr.mono (by omega)) rfl E.gc E.F_show_deed.kp E.B_show_deed pass0 rfl (vc (va nK) ak) yq.1 rfl)) (af (vg nodupN (Gz hC tk lJ (hr.mono (by omega)) rfl E.gi E.F_read_deed.kp E.B_read_deed rfl (vc (va bX) ak) yR.1 rfl)) (af (Vw.du (PW.pt (Vw.v_or (Vw.v_not (gN (zy hC dD (hr.mono (by omega)) rfl E.aE E.F__law_alike.kp E.B__law_alike pass0 rfl (vc (va aS) (vc (va bX) ak)) kv.1 rfl) rfl)) (Vw.v_or (Vw.v_not (gN (zy hC dD (hr.mono (by omega)) rfl E.aE E.F__law_alike.kp E.B__law_alike pass0 rfl (vc (va qr) (vc (va cn) ak)) kv.1 rfl) rfl)) (Vw.AX (A8 hu (va nK) (va cn) rfl))))) (af (bb vt) ar) ar) (af (eK hC (L2.passes_of rfl) rfl (I0 (va qr)) (fun C hC hW=>(tn nodupN)) (fun C hC hW=>have tk:=hW▸tk;(af (Vw.du (gN (ir (va bC) rfl E.b_isinstance rfl E.b_list k9 (by decide) rfl ll k7.1) rfl) (af (cY (je F.plainAttrs_list F.slot_list_append F.type_list_append mt_append fQ j2 (va bC) (vc (gR (vc aA (vc aA ak))) ak) rfl rfl (by decide) rfl) rfl) ar) ar) ar)) rfl) ar))))) rfl) ar))))) rfl) (af (bb vt) ar)))
end
end K33
namespace K33
open PySem L2 PyProof.Rows Vw
theorem facts{P:Program}{w:World}{K:PySem.W.Frag}{h:Heap}{mg:Str→Option Value}{f:Addr}(X:K.In h)(G:h.Ns mainGlobals mg)(hfa:mg ("law":Str)=some (.ref f))(c:He.SaysD EF vR K)(ex:BS K=true):
  ∃ fd:FuncData,(∀ (s:Shared) (v:Value),BindsTo s fd ⟨[v],[]⟩ [("_law_script",v)])∧∀ base:Heap,K.In base→base.Ns mainGlobals mg→FnOk P w K mg base DV 14 f fd ["_law_script"] (bz (mF K) 1 ug):=by
 obtain⟨d__law_draws,F__law_draws⟩:=c.def_ 0 (d:=oS) rfl
 obtain⟨d__law_pop,F__law_pop⟩:=c.def_ 1 (d:=rM) rfl
 obtain⟨d__law_names,F__law_names⟩:=c.def_ 2 (d:=oQ) rfl
 obtain⟨d__law_text,F__law_text⟩:=c.def_ 3 (d:=qi) rfl
 obtain⟨d__law_document,F__law_document⟩:=c.def_ 4 (d:=lR) rfl
 obtain⟨d__law_number,F__law_number⟩:=c.def_ 5 (d:=nU) rfl
 obtain⟨d__law_deed,F__law_deed⟩:=c.def_ 6 (d:=pU) rfl
 obtain⟨d__law_copy,F__law_copy⟩:=c.def_ 7 (d:=o9) rfl
 obtain⟨d__law_line,F__law_line⟩:=c.def_ 8 (d:=pO) rfl
 obtain⟨d_show_field,F_show_field⟩:=c.def_ 9 (d:=oU) rfl
 obtain⟨d_show_document,F_show_document⟩:=c.def_ 10 (d:=mm) rfl
 obtain⟨d_show_deed,F_show_deed⟩:=c.def_ 11 (d:=qh) rfl
 obtain⟨ck,F_FieldReader____init__⟩:=c.def_ 12 (d:=gY) rfl
 obtain⟨d_FieldReader__next_name,F_FieldReader__next_name⟩:=c.def_ 13 (d:=gG) rfl
 obtain⟨d_sure,F_sure⟩:=c.def_ 14 (d:=zo) rfl
 obtain⟨d_FieldReader__ahead,F_FieldReader__ahead⟩:=c.def_ 15 (d:=iJ) rfl
 obtain⟨d_FieldReader__eat,F_FieldReader__eat⟩:=c.def_ 16 (d:=ju) rfl
 obtain⟨d_FieldReader__next_text,F_FieldReader__next_text⟩:=c.def_ 17 (d:=gF) rfl
 obtain⟨d_FieldReader__next_field,F_FieldReader__next_field⟩:=c.def_ 18 (d:=fV) rfl
 obtain⟨d_is_name,F_is_name⟩:=c.def_ 19 (d:=um) rfl
 obtain⟨d_look_at_document,F_look_at_document⟩:=c.def_ 20 (d:=jt) rfl
 obtain⟨d_read_document,F_read_document⟩:=c.def_ 21 (d:=lO) rfl
 obtain⟨d_number_of,F_number_of⟩:=c.def_ 22 (d:=pC) rfl
 obtain⟨d_read_deed,F_read_deed⟩:=c.def_ 23 (d:=pG) rfl
 obtain⟨d__law_alike,F__law_alike⟩:=c.def_ 24 (d:=oV) rfl
 obtain⟨d_law,F_law⟩:=c.def_ 25 (d:=B3) rfl
 obtain⟨d_NoField_i,F_NoField_i⟩:=c.def_ 26 (d:=qq) rfl
 have e:=hfa.symm.trans (He.glo_ok X G (c.fact 24 (f:=.glo "law") rfl))
 cases e
 have b:=FunD.bindsA (ps:=["_law_script"]) F_law fun _ _ _ _ _ _ us hl=>match us,hl with | [_],_=>rfl
 obtain⟨t_FIGURES,c_FIGURES⟩:=He.str_ok X G (c.fact 36 (f:=.str "FIGURES" "0123456789") rfl)
 obtain⟨t_LETTERS,c_LETTERS⟩:=He.str_ok X G (c.fact 37 (f:=.str "LETTERS" "abcdefghijklmnopqrstuvwxyz") rfl)
 have o_NoField:=F7 ex 1 (b:=Kz K "NoField") rfl
 obtain⟨o_NoField1,o_NoField⟩:=Bool.and_eq_true_iff.mp o_NoField
 obtain⟨o_NoField2,o_NoField⟩:=Bool.and_eq_true_iff.mp o_NoField
 obtain⟨o_NoField3,o_NoField4⟩:=Bool.and_eq_true_iff.mp o_NoField
 have sc_NoField_i:FnScope ["self","place"] ["self","place"] (defScope (dz 2 0)):=⟨rfl,rfl,rfl,by decide+kernel,rfl,by decide+kernel,by decide+kernel⟩
 have B_NoField_i:Binds K d_NoField_i ["self","place"] []:=F_NoField_i.bindsN fun _ _ _ _ _ _ us hl=>match us,hl with | [_,_],_=>rfl
 refine⟨d_law,fun s v=>b s [v] rfl,fun base _ _=>GO (HP (cA:=mF K) (E:=⟨
  _,d__law_draws,F__law_draws,F__law_draws.bindsN fun _ _ _ _ _ _ us hl=>match us,hl with | [_,_,_],_=>rfl,He.glo_ok X G (c.fact 0 (f:=.glo "_law_draws") rfl),
  _,d__law_pop,F__law_pop,F__law_pop.bindsN fun _ _ _ _ _ _ us hl=>match us,hl with | [_],_=>rfl,He.glo_ok X G (c.fact 1 (f:=.glo "_law_pop") rfl),
  _,d__law_names,F__law_names,F__law_names.bindsN fun _ _ _ _ _ _ us hl=>match us,hl with | [_],_=>rfl,He.glo_ok X G (c.fact 2 (f:=.glo "_law_names") rfl),
  _,d__law_text,F__law_text,F__law_text.bindsN fun _ _ _ _ _ _ us hl=>match us,hl with | [_],_=>rfl,He.glo_ok X G (c.fact 3 (f:=.glo "_law_text") rfl),
  _,d__law_document,F__law_document,F__law_document.bindsN fun _ _ _ _ _ _ us hl=>match us,hl with | [_],_=>rfl,He.glo_ok X G (c.fact 4 (f:=.glo "_law_document") rfl),
  _,d__law_number,F__law_number,F__law_number.bindsN fun _ _ _ _ _ _ us hl=>match us,hl with | [_,_],_=>rfl,He.glo_ok X G (c.fact 5 (f:=.glo "_law_number") rfl),
  _,d__law_deed,F__law_deed,F__law_deed.bindsN fun _ _ _ _ _ _ us hl=>match us,hl with | [_,_],_=>rfl,He.glo_ok X G (c.fact 6 (f:=.glo "_law_deed") rfl),
  _,d__law_copy,F__law_copy,F__law_copy.bindsN fun _ _ _ _ _ _ us hl=>match us,hl with | [_],_=>rfl,He.glo_ok X G (c.fact 7 (f:=.glo "_law_copy") rfl),
  _,d__law_line,F__law_line,F__law_line.bindsN fun _ _ _ _ _ _ us hl=>match us,hl with | [_],_=>rfl,He.glo_ok X G (c.fact 8 (f:=.glo "_law_line") rfl),
  _,d_show_field,F_show_field,F_show_field.bindsN fun _ _ _ _ _ _ us hl=>match us,hl with | [_,_],_=>rfl,He.glo_ok X G (c.fact 9 (f:=.glo "show_field") rfl),
  _,d_show_document,F_show_document,F_show_document.bindsN fun _ _ _ _ _ _ us hl=>match us,hl with | [_],_=>rfl,He.glo_ok X G (c.fact 10 (f:=.glo "show_document") rfl),
  _,d_show_deed,F_show_deed,F_show_deed.bindsN fun _ _ _ _ _ _ us hl=>match us,hl with | [_],_=>rfl,He.glo_ok X G (c.fact 11 (f:=.glo "show_deed") rfl),
  _,ck,F_FieldReader____init__,F_FieldReader____init__.bindsN fun _ _ _ _ _ _ us hl=>match us,hl with | [_,_],_=>rfl,
  _,d_FieldReader__next_name,F_FieldReader__next_name,F_FieldReader__next_name.bindsN fun _ _ _ _ _ _ us hl=>match us,hl with | [_],_=>rfl,He.meth_ok (c.fact 12 (f:=.meth "FieldReader" "next_name") rfl),
  _,d_sure,F_sure,F_sure.bindsN fun _ _ _ _ _ _ us hl=>match us,hl with | [_],_=>rfl,He.glo_ok X G (c.fact 13 (f:=.glo "sure") rfl),
  _,d_FieldReader__ahead,F_FieldReader__ahead,F_FieldReader__ahead.bindsN fun _ _ _ _ _ _ us hl=>match us,hl with | [_,_],_=>rfl,He.meth_ok (c.fact 14 (f:=.meth "FieldReader" "ahead") rfl),
  _,d_FieldReader__eat,F_FieldReader__eat,F_FieldReader__eat.bindsN fun _ _ _ _ _ _ us hl=>match us,hl with | [_,_],_=>rfl,He.meth_ok (c.fact 15 (f:=.meth "FieldReader" "eat") rfl),
  _,d_FieldReader__next_text,F_FieldReader__next_text,F_FieldReader__next_text.bindsN fun _ _ _ _ _ _ us hl=>match us,hl with | [_],_=>rfl,He.meth_ok (c.fact 16 (f:=.meth "FieldReader" "next_text") rfl),
  _,d_FieldReader__next_field,F_FieldReader__next_field,F_FieldReader__next_field.bindsN fun _ _ _ _ _ _ us hl=>match us,hl with | [_],_=>rfl,He.meth_ok (c.fact 17 (f:=.meth "FieldReader" "next_field") rfl),
  _,d_is_name,F_is_name,F_is_name.bindsN fun _ _ _ _ _ _ us hl=>match us,hl with | [_],_=>rfl,He.glo_ok X G (c.fact 18 (f:=.glo "is_name") rfl),
  _,d_look_at_document,F_look_at_document,F_look_at_document.bindsN fun _ _ _ _ _ _ us hl=>match us,hl with | [_],_=>rfl,He.glo_ok X G (c.fact 19 (f:=.glo "look_at_document") rfl),
  _,d_read_document,F_read_document,F_read_document.bindsN fun _ _ _ _ _ _ us hl=>match us,hl with | [_],_=>rfl,He.glo_ok X G (c.fact 20 (f:=.glo "read_document") rfl),
  _,d_number_of,F_number_of,F_number_of.bindsN fun _ _ _ _ _ _ us hl=>match us,hl with | [_],_=>rfl,He.glo_ok X G (c.fact 21 (f:=.glo "number_of") rfl),
  _,d_read_deed,F_read_deed,F_read_deed.bindsN fun _ _ _ _ _ _ us hl=>match us,hl with | [_],_=>rfl,He.glo_ok X G (c.fact 22 (f:=.glo "read_deed") rfl),
  _,d__law_alike,F__law_alike,F__law_alike.bindsN fun _ _ _ _ _ _ us hl=>match us,hl with | [_,_],_=>rfl,He.glo_ok X G (c.fact 23 (f:=.glo "_law_alike") rfl),
  _,d_law,F_law,F_law.bindsN fun _ _ _ _ _ _ us hl=>match us,hl with | [_],_=>rfl,He.glo_ok X G (c.fact 24 (f:=.glo "law") rfl),
  He.free_ok X G (c.fact 25 (f:=.free "all") rfl),
  He.free_ok X G (c.fact 26 (f:=.free "bool") rfl),
  He.free_ok X G (c.fact 27 (f:=.free "enumerate") rfl),
  He.free_ok X G (c.fact 28 (f:=.free "int") rfl),
  He.free_ok X G (c.fact 29 (f:=.free "isinstance") rfl),
  He.free_ok X G (c.fact 30 (f:=.free "len") rfl),
  He.free_ok X G (c.fact 31 (f:=.free "list") rfl),
  He.free_ok X G (c.fact 32 (f:=.free "range") rfl),
  He.free_ok X G (c.fact 33 (f:=.free "sorted") rfl),
  He.free_ok X G (c.fact 34 (f:=.free "str") rfl),
  He.free_ok X G (c.fact 35 (f:=.free "tuple") rfl),
  t_FIGURES,c_FIGURES,
  t_LETTERS,c_LETTERS,
  He.glo_ok X G (c.fact 38 (f:=.glo "FieldReader") rfl),
  He.glo_ok X G (c.fact 39 (f:=.glo "NoField") rfl),
  He.glo_ok X G (c.fact 40 (f:=.glo "NoLine") rfl),
  Fq (c.fact 41 (f:=.exc "NoLine") rfl),
  G3 (F7 ex 0 (b:=G5 K DT "NoField") rfl),
  He.ma K (mF K "NoField") "__init__",d_NoField_i,⟨ER o_NoField1,of_decide_eq_true o_NoField2,of_decide_eq_true o_NoField3,of_decide_eq_true o_NoField4,EW F_NoField_i sc_NoField_i rfl rfl,B_NoField_i⟩,
  He.cls_ok (c.fact 42 (f:=.cls "FieldReader") rfl),
  He.mkr_ok (c.fact 43 (f:=.mkr "FieldReader") rfl),
  FC (F7 ex 2 (b:=C5 K fT) rfl)⟩))⟩
end K33
open PySem PySem.W PySem.Calls PyProof.Rows
theorem PySem.Challenge.cw_findcourt_k33_deeds_written_holds : PySem.Challenge.rw_findcourt_k33_deeds_written.Holds := by
 refine K33.early ?hc
 case hc=>
  refine L2.walk_ofE (l:=PySem.Challenge.rw_findcourt_k33_deeds_written) (n:=63) (k:=14) (x:="_law_script") (CX:=Vw.DV) rfl (by decide) (by kernel_rfl) ⟨rfl,by decide,by decide⟩ ?F Vw.F8
  intro w mg fa h Y G hmg0
  obtain⟨K,KX,c,nl,ex⟩:=Y
  have hmg:mg ("law":PySem.Str)=some (.ref fa):=by
   have e:(HandSHeadRun.topDef (OpenLaw.row PySem.Challenge.rw_findcourt_k33_deeds_written).prog 29).name=("law":PySem.Str):=by kernel_rfl
   rw[←e]
   exact hmg0
  obtain⟨fd,hb,hF⟩:=K33.facts (P:=(PySem.Challenge.rw_findcourt_k33_deeds_written).prog) (w:=w) KX G hmg c ex
  exact⟨K,fd,_,KX,hb,fun H a ns hl _ hS=>Vw.Bv nl hS (K33.Gu ns hl),hF⟩
