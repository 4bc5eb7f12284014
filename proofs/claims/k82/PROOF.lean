import PyProof.Rows.All
import Wide.All
import OpenK.AllK
import Wide.FinOn
import HandS.ForMost
import HandS.ForExc
import HandS.Walk
import HandS.Wide
import KE.SortData
import HandS.ExcIs
import HandS.ExcField
import HandS.ExcInit
import HandS.TryOnly
import KE.DataEq
import HandS.Zip
import PyProof.Draws
import HandS.Rev
import HandS.Defaults
import HandS.WordsExc
import HandS.Comp
import HandS.Small
import HandS.Text
import HandS.IsInst
import HandS.SortInts
import HandS.Head0
import HandS.Head1
import HandS.Head2
import HandS.HeadEnd
import HandS.HeadHook1
import HandS.HeadHook2
import HandS.Replace
import KE.KExcIs
import HandS.Style
import HandS.More
import HandS.Deep
import PyProof.Rows.StrMeet
import KE.KEqDict
import HandS.Set
import HandS.SetFor
import HandS.DeepEq
import HandS.TupSets
import KE.KSortTupAny
import HandS.TupAny
import HandS.ReplaceList
import HandS.SuiteRaise
import HandS.HotCalls
import HandS.StrMore
import HandS.RaiseMore
import HandS.SortKw
import KE.DataMinMax
import PySem.Challenge.RW_findcourt_k82_lines_looked_at
set_option Elab.async false
set_option linter.all false
set_option maxRecDepth 100000
set_option maxHeartbeats 4100000
namespace Vw
open PySem L2
inductive K0 where
 | i (n:Int)
 | s (t:List Nat)
 deriving DecidableEq
inductive D where
 | non
 | bl (b:Bool)
 | int (i:Int)
 | str (s:List Nat)
 | tup (l:List D)
 | lst (l:List D)
 | dic (l:List (K0×D))
 | dit (l:List (List K0×D))
 | ins (c:String) (fs:List (String×D))
 | exc (c:String) (p:List D)
inductive Val where
 | d (x:D)
 | r (n:Nat)
 | tp (l:List Val)
inductive Ob where
 | lst (l:List Val)
 | dic (k:Bool) (l:List (K0×Val))
 | dit (k:Bool) (l:List (List K0×Val))
 | ins (c:String) (fs:List (String×Val))
 | gone
inductive Sl where
 | v (x:Val)
 | own (o:Ob)
abbrev Slots:=List (Option Sl)
structure State where
 sg:Slots
 st:List Ob
inductive RV where
 | val (x:Val)
 | new (o:Ob)
 | own (i:Nat)
structure Exn where
 c:String
 p:Option D
inductive Res (α:Type) where
 | ok (a:α) (s:State)
 | exc (x:Exn) (s:State)
 | stuck
def Res.bind{α β:Type}:Res α→(α→State→Res β)→Res β
 | .ok a s,k=>k a s
 | .exc x s,_=>.exc x s
 | .stuck,_=>.stuck
@[simp] theorem Res.aa{α β:Type}(a:α)(s:State)(k:α→State→Res β):(Res.ok a s).bind k=k a s:=id rfl
@[simp] theorem Res.F6{α β:Type}(x:Exn)(s:State)(k:α→State→Res β):(Res.exc x s).bind k=.exc x s:=id rfl
@[simp] theorem Res.LH{α β:Type}(k:α→State→Res β):(Res.stuck:Res α).bind k=.stuck:=id rfl
def kz:K0→Key
 | .i n=>.inl n
 | .s t=>.inr ⟨t.toArray⟩
theorem uq{a b:K0}(h:kz a=kz b):a=b:=by
 cases a<;> cases b<;> simp[kz]at h<;> first | (subst h;rfl) | skip
 all_goals (rw[h])
def tU(cls:Value)(a:Addr)(d:Option Addr):HO:=.ext fun h=>∃ oe:Obj,h.get? a=some oe∧Zc cls d oe∧∃ vs,oe.data=.fields vs
def CB(Z:Hp)(d:Option Addr)(ws:List V):Prop:=(d=none∧ws=[])∨∃ dd w,d=some dd∧ws=[w]∧Z dd=some (.xd [(Str.ofString "place",w)])
theorem CB.mono{Z Z':Hp}(h:Same Z Z'){d:Option Addr}{ws:List V}(x:CB Z d ws):CB Z' d ws:=x.elim .inl fun⟨dd,w,e1,e2,z⟩=>.inr ⟨dd,w,e1,e2,h _ _ z⟩
section
variable(cA:String→Addr)(Z:Hp)
mutual
def ej:D→V→Prop
 | .non,v=>v=.non
 | .bl b,v=>v=.bl b
 | .int i,v=>v=.int i
 | .str s,v=>v=.str ⟨s.toArray⟩
 | .tup ds,v=>∃ a vs,v=.ref a∧Z a=some (.tup vs)∧gV ds vs
 | .lst ds,v=>∃ a vs,v=.ref a∧(Z a=some (.lst vs)∨∃ o,Z a=some (.frz o (.lst vs)))∧gV ds vs
 | .dic l,v=>∃ a ws,v=.ref a∧Z a=some (.dK ws)∧kn l ws
 | .dit l,v=>∃ a ws,v=.ref a∧Z a=some (.dT ws)∧ou l ws
 | .ins c fs,v=>∃ a dx ws,v=.ref a∧Z a=some (.ins (cA c) dx ws)∧lD fs ws
 | .exc c ps,v=>∃ a d ws,v=.ref a∧Z a=some (tU (.ref (cA c)) a d)∧CB Z d ws∧gV ps ws
def gV:List D→List V→Prop
 | [],vs=>vs=[]
 | d::ds,vs=>∃ v r,vs=v::r∧ej d v∧gV ds r
def kn:List (K0×D)→List (Key×V)→Prop
 | [],ws=>ws=[]
 | (k,d)::ds,ws=>∃ v r,ws=(kz k,v)::r∧ej d v∧kn ds r
def ou:List (List K0×D)→List (List Key×V)→Prop
 | [],ws=>ws=[]
 | (k,d)::ds,ws=>∃ v r,ws=(k.map kz,v)::r∧ej d v∧ou ds r
def lD:List (String×D)→List (Str×V)→Prop
 | [],ws=>ws=[]
 | (f,d)::ds,ws=>∃ v r,ws=(Str.ofString f,v)::r∧ej d v∧lD ds r
end
end
section
variable{cA:String→Addr}{Z Z':Hp}
mutual
theorem ej.mono(h:Same Z Z'):∀ (d:D) {v:V},ej cA Z d v→ej cA Z' d v
 | .non,v,q=>q
 | .bl _,v,q=>q
 | .int _,v,q=>q
 | .str _,v,q=>q
 | .tup ds,v,⟨a,vs,e,z,q⟩=>⟨a,vs,e,h _ _ z,gV.mono h ds q⟩
 | .lst ds,v,⟨a,vs,e,z,q⟩=>⟨a,vs,e,z.elim (fun z=>.inl (h _ _ z)) (fun⟨o,z⟩=>.inr ⟨o,h _ _ z⟩),gV.mono h ds q⟩
 | .dic l,v,⟨a,vs,e,z,q⟩=>⟨a,vs,e,h _ _ z,kn.mono h l q⟩
 | .dit l,v,⟨a,vs,e,z,q⟩=>⟨a,vs,e,h _ _ z,ou.mono h l q⟩
 | .ins c fs,v,⟨a,dx,ws,e,z,q⟩=>⟨a,dx,ws,e,h _ _ z,lD.mono h fs q⟩
 | .exc c ps,v,⟨a,d,ws,e,z,x,q⟩=>⟨a,d,ws,e,h _ _ z,x.mono h,gV.mono h ps q⟩
theorem gV.mono(h:Same Z Z'):∀ (ds:List D) {vs:List V},gV cA Z ds vs→gV cA Z' ds vs
 | [],vs,q=>q
 | d::ds,vs,⟨v,r,e,q,t⟩=>⟨v,r,e,ej.mono h d q,gV.mono h ds t⟩
theorem kn.mono(h:Same Z Z'):∀ (ds:List (K0×D)) {vs:List (Key×V)},kn cA Z ds vs→kn cA Z' ds vs
 | [],vs,q=>q
 | (k,d)::ds,vs,⟨v,r,e,q,t⟩=>⟨v,r,e,ej.mono h d q,kn.mono h ds t⟩
theorem ou.mono(h:Same Z Z'):∀ (ds:List (List K0×D)) {vs:List (List Key×V)},ou cA Z ds vs→ou cA Z' ds vs
 | [],vs,q=>q
 | (k,d)::ds,vs,⟨v,r,e,q,t⟩=>⟨v,r,e,ej.mono h d q,ou.mono h ds t⟩
theorem lD.mono(h:Same Z Z'):∀ (ds:List (String×D)) {vs:List (Str×V)},lD cA Z ds vs→lD cA Z' ds vs
 | [],vs,q=>q
 | (k,d)::ds,vs,⟨v,r,e,q,t⟩=>⟨v,r,e,ej.mono h d q,lD.mono h ds t⟩
end
end
end Vw
namespace Vw
open PySem L2
section
variable(cA:String→Addr)(Z:Hp)(loc:List Addr)
mutual
def cy:Val→V→Prop
 | .d x,v=>ej cA Z x v
 | .r n,v=>∃ a,loc[n]? =some a∧v=.ref a
 | .tp l,v=>∃ a vs,v=.ref a∧Z a=some (.tup vs)∧bC l vs
def bC:List Val→List V→Prop
 | [],vs=>vs=[]
 | x::l,vs=>∃ v r,vs=v::r∧cy x v∧bC l r
end
def fk:List (K0×Val)→List (Key×V)→Prop
 | [],ws=>ws=[]
 | (k,x)::l,ws=>∃ v r,ws=(kz k,v)::r∧cy cA Z loc x v∧fk l r
def fL:List (List K0×Val)→List (List Key×V)→Prop
 | [],ws=>ws=[]
 | (k,x)::l,ws=>∃ v r,ws=(k.map kz,v)::r∧cy cA Z loc x v∧fL l r
def iD:List (String×Val)→List (Str×V)→Prop
 | [],ws=>ws=[]
 | (f,x)::l,ws=>∃ v r,ws=(Str.ofString f,v)::r∧cy cA Z loc x v∧iD l r
def ze(H:Hp)(a:Addr)(u:HO):Bool→Prop
 | false=>H a=some u
 | true=>∃ o,H a=some (.frz o u)
def Cell(H:Hp)(a:Addr):Ob→Prop
 | .lst l=>∃ xs,H a=some (.lst xs)∧bC cA Z loc l xs
 | .dic k l=>∃ ws,ze H a (.dK ws) k∧fk cA Z loc l ws
 | .dit k l=>∃ ws,ze H a (.dT ws) k∧fL cA Z loc l ws
 | .ins c fs=>∃ dx ws,H a=some (.ins (cA c) dx ws)∧iD cA Z loc fs ws
 | .gone=>True
end
def Ext(Z:Hp)(loc:List Addr)(Z':Hp)(loc':List Addr):Prop:=Same Z Z'∧∃ m,loc'=loc++m
theorem Ext.refl(Z:Hp)(loc:List Addr):Ext Z loc Z loc:=⟨Same.refl _,[],by simp⟩
theorem Ext.trans{Z Z1 Z2:Hp}{l l1 l2:List Addr}(a:Ext Z l Z1 l1)(b:Ext Z1 l1 Z2 l2):Ext Z l Z2 l2:=by
 obtain⟨a1,m,rfl⟩:=a
 obtain⟨b1,n,rfl⟩:=b
 exact⟨a1.trans b1,m++n,by simp⟩
theorem Ext.z{Z Z':Hp}{l:List Addr}(h:Same Z Z'):Ext Z l Z' l:=⟨h,[],by simp⟩
section
variable{cA:String→Addr}{Z Z':Hp}{loc loc':List Addr}
mutual
theorem cy.mono(h:Ext Z loc Z' loc'):∀ (x:Val) {v:V},cy cA Z loc x v→cy cA Z' loc' x v
 | .d x,v,q=>ej.mono h.1 x q
 | .r n,v,⟨a,e,q⟩=>⟨a,by
  obtain⟨_,m,rfl⟩:=h
  rw[List.getElem?_append_left (List.getElem?_eq_some_iff.mp e).1]
  exact e,q⟩
 | .tp l,v,⟨a,vs,e,z,q⟩=>⟨a,vs,e,h.1 _ _ z,bC.mono h l q⟩
theorem bC.mono(h:Ext Z loc Z' loc'):∀ (l:List Val) {vs:List V},bC cA Z loc l vs→bC cA Z' loc' l vs
 | [],vs,q=>q
 | x::l,vs,⟨v,r,e,q,t⟩=>⟨v,r,e,cy.mono h x q,bC.mono h l t⟩
end
theorem fk.mono(h:Ext Z loc Z' loc'):∀ (l:List (K0×Val)) {vs:List (Key×V)},fk cA Z loc l vs→fk cA Z' loc' l vs
 | [],vs,q=>q
 | (k,x)::l,vs,⟨v,r,e,q,t⟩=>⟨v,r,e,cy.mono h x q,fk.mono h l t⟩
theorem fL.mono(h:Ext Z loc Z' loc'):∀ (l:List (List K0×Val)) {vs:List (List Key×V)},fL cA Z loc l vs→fL cA Z' loc' l vs
 | [],vs,q=>q
 | (k,x)::l,vs,⟨v,r,e,q,t⟩=>⟨v,r,e,cy.mono h x q,fL.mono h l t⟩
theorem iD.mono(h:Ext Z loc Z' loc'):∀ (l:List (String×Val)) {vs:List (Str×V)},iD cA Z loc l vs→iD cA Z' loc' l vs
 | [],vs,q=>q
 | (k,x)::l,vs,⟨v,r,e,q,t⟩=>⟨v,r,e,cy.mono h x q,iD.mono h l t⟩
theorem ze.grow{H H':Hp}(h:Same H H'){a:Addr}{u:HO}:∀ {k:Bool},ze H a u k→ze H' a u k
 | false,q=>h _ _ q
 | true,⟨o,q⟩=>⟨o,h _ _ q⟩
theorem Ew{H:Hp}{a:Addr}{u:HO}:∀ {k:Bool},ze H a u k→H a≠none
 | false,q=>by rw[show H a=_ from q];simp
 | true,⟨o,q⟩=>by rw[q];simp
theorem Cell.mono{H H':Hp}{a:Addr}(h:Ext Z loc Z' loc')(g:Same H H'):∀ {o:Ob},Cell cA Z loc H a o→Cell cA Z' loc' H' a o
 | .lst l,⟨xs,e,q⟩=>⟨xs,g _ _ e,bC.mono h l q⟩
 | .dic k l,⟨xs,e,q⟩=>⟨xs,e.grow g,fk.mono h l q⟩
 | .dit k l,⟨xs,e,q⟩=>⟨xs,e.grow g,fL.mono h l q⟩
 | .ins c l,⟨dx,xs,e,q⟩=>⟨dx,xs,g _ _ e,iD.mono h l q⟩
 | .gone,_=>trivial
theorem Cell.at{H H':Hp}{a:Addr}(g:H' a=H a):∀ {o:Ob},Cell cA Z loc H a o→Cell cA Z loc H' a o
 | .lst l,⟨xs,e,q⟩=>⟨xs,g.trans e,q⟩
 | .dic false l,⟨xs,e,q⟩=>⟨xs,g.trans e,q⟩
 | .dic true l,⟨xs,⟨o,e⟩,q⟩=>⟨xs,⟨o,g.trans e⟩,q⟩
 | .dit false l,⟨xs,e,q⟩=>⟨xs,g.trans e,q⟩
 | .dit true l,⟨xs,⟨o,e⟩,q⟩=>⟨xs,⟨o,g.trans e⟩,q⟩
 | .ins c l,⟨dx,xs,e,q⟩=>⟨dx,xs,g.trans e,q⟩
 | .gone,_=>trivial
theorem mI{H:Hp}{a:Addr}{o:Ob}(ne:o≠ .gone)(h:Cell cA Z loc H a o):H a≠none:=by
 cases o with
 | lst l=>obtain⟨xs,e,q⟩:=h;rw[e];simp
 | dic k l=>obtain⟨xs,e,q⟩:=h;exact Ew e
 | dit k l=>obtain⟨xs,e,q⟩:=h;exact Ew e
 | ins c l=>obtain⟨dx,xs,e,q⟩:=h;rw[e];simp
 | gone=>exact absurd rfl ne
end
def sl:HO→Bool
 | .dK _=>true
 | .dT _=>true
 | _=>false
def Rz(H:Hp)(a:Addr)(u:HO):Prop:=H a=some u∨(sl u=true∧∃ o,H a=some (.frz o u))
theorem Cv{H:Hp}{a:Addr}{u:HO}(h:Rz H a u):H a≠none:=by
 rcases h with h | ⟨_,o,h⟩<;> rw[h]<;> simp
theorem Ig{H H':Hp}(g:Same H H'){a:Addr}{u:HO}(h:Rz H a u):Rz H' a u:=h.elim (fun h=>.inl (g _ _ h)) fun⟨d,o,h⟩=>.inr ⟨d,o,g _ _ h⟩
theorem Rz.rd{H:Hp}{a:Addr}{u:HO}(h:Rz H a u):Rd H a u:=h.elim .inl fun⟨_,o,h⟩=>.inr ⟨o,h⟩
theorem Rz.at{H:Hp}{a:Addr}{u:HO}(h:Rz H a u)(d:sl u=false):H a=some u:=h.elim id fun⟨e,_⟩=>by rw[d]at e;cases e
structure Cst where
 cA:String→Addr
 Fr:Hp
 H0:Hp
 W:WX
structure SR (C:Cst) (Z:Hp) (loc:List Addr) (s:State) (sv:L2.St) (H:Hp):Prop where
 fr:Same C.Fr H
 zh:∀ (a:Addr) (o:HO),Z a=some o→Rz H a o
 zf:∀ (a:Addr) (o:HO),Z a=some o→C.Fr a=none
 lk:∀ (a:Addr) (o:Obj) (u:HO),C.H0 a=some (.frz o u)→H a=some (.frz o u)
 ln:loc.length=s.st.length
 nd:loc.Nodup
 lh:∀ a∈loc,H a≠none∧C.Fr a=none
 cl:∀ (n:Nat) (a:Addr) (o:Ob),loc[n]? =some a→s.st[n]? =some o→o≠ .gone→Cell C.cA Z loc H a o∧Z a=none
 vl:∀ (i:Nat) (x:Val),s.sg[i]? =some (some (.v x))→∃ v,sv[i]? =some (some v)∧cy C.cA Z loc x v
 ow:∀ (i:Nat) (o:Ob),s.sg[i]? =some (some (.own o))→∃ a,sv[i]? =some (some (.ref a))∧o≠ .gone∧Cell C.cA Z loc H a o∧Z a=none∧C.Fr a=none∧a∉loc
 oi:∀ (i j:Nat) (o o':Ob) (a:Addr),s.sg[i]? =some (some (.own o))→s.sg[j]? =some (some (.own o'))→sv[i]? =some (some (.ref a))→sv[j]? =some (some (.ref a))→i=j
 ls:s.sg.length=sv.length
structure Free (C:Cst) (Z:Hp) (loc:List Addr) (s:State) (sv:L2.St) (a:Addr):Prop where
 z:Z a=none
 f:C.Fr a=none
 l:a∉loc
 o:∀ (i:Nat) (o:Ob),s.sg[i]? =some (some (.own o))→sv[i]? ≠some (some (.ref a))
def cw(C:Cst)(Z:Hp)(loc:List Addr)(s:State)(sv:L2.St)(H:Hp):RV→V→Prop
 | .val x,v=>cy C.cA Z loc x v
 | .new o,v=>∃ a,v=.ref a∧o≠ .gone∧Cell C.cA Z loc H a o∧Free C Z loc s sv a
 | .own i,v=>sv[i]? =some (some v)
section
variable{C:Cst}{Z Z':Hp}{loc loc':List Addr}{s s':State}{sv:L2.St}{H H':Hp}
theorem SR.grow(r:SR C Z loc s sv H)(g:Same H H'):SR C Z loc s sv H' where
 fr:=r.fr.trans g
 zh a o h:=Ig g (r.zh a o h)
 zf:=r.zf
 lk a o u h:=g _ _ (r.lk a o u h)
 ln:=r.ln
 nd:=r.nd
 lh a h:=⟨fun e=>(r.lh a h).1 (g.free e),(r.lh a h).2⟩
 cl n a o h1 h2 h3:=⟨(r.cl n a o h1 h2 h3).1.mono (Ext.refl _ _) g,(r.cl n a o h1 h2 h3).2⟩
 vl:=r.vl
 ow i o h:=let ⟨a,h1,h2,h3,h4⟩:=r.ow i o h;⟨a,h1,h2,h3.mono (Ext.refl _ _) g,h4⟩
 oi:=r.oi
 ls:=r.ls
theorem cQ{p:Addr}{o:HO}(h:H p=none):Same H (upd H p o):=fun b x e=>by rw[upd_ne (ne_of_none e h)];exact e
theorem SR.free(r:SR C Z loc s sv H){p:Addr}(h:H p=none):Free C Z loc s sv p where
 z:=by
  cases e:Z p with
  | none=>rfl
  | some o=>exact absurd h (Cv (r.zh p o e))
 f:=r.fr.free h
 l hm:=(r.lh p hm).1 h
 o i ob e q:=by
  obtain⟨a,h1,h2,h3,_⟩:=r.ow i ob e
  rw[h1]at q
  cases q
  exact mI h2 h3 h
theorem SR.xh(r:SR C Z loc s sv H){a:Addr}{o:HO}(e:H a=some o)(f:Free C Z loc s sv a):SR C (upd Z a o) loc s sv H:=by
 have g:Ext Z loc (upd Z a o) loc:=Ext.z (cQ f.z)
 refine⟨r.fr,fun b u h=>?_,fun b u h=>?_,r.lk,r.ln,r.nd,r.lh,fun n b ob h1 h2 h3=>?_,fun i x h=>?_,fun i ob h=>?_,r.oi,r.ls⟩
 ·by_cases hb:b=a
  ·subst hb
   rw[upd_same]at h
   cases h
   exact .inl e
  ·rw[upd_ne hb]at h
   exact r.zh b u h
 ·by_cases hb:b=a
  ·subst hb
   exact f.f
  ·rw[upd_ne hb]at h
   exact r.zf b u h
 ·obtain⟨q1,q2⟩:=r.cl n b ob h1 h2 h3
  have hb:b≠a:=fun z=>f.l (z▸List.mem_of_getElem? h1)
  exact⟨q1.mono g (Same.refl _),by rw[upd_ne hb];exact q2⟩
 ·obtain⟨v,h1,h2⟩:=r.vl i x h
  exact⟨v,h1,cy.mono g x h2⟩
 ·obtain⟨b,h1,h2,h3,h4,h5⟩:=r.ow i ob h
  have hb:b≠a:=fun z=>f.o i ob h (z▸h1)
  exact⟨b,h1,h2,h3.mono g (Same.refl _),by rw[upd_ne hb];exact h4,h5⟩
end
end Vw
namespace Vw
open PySem L2
def toDs:List Val→Option (List D)
 | []=>some []
 | .d x::r=>(toDs r).map (x:: ·)
 | _::_=>none
def toDK{κ:Type}:List (κ×Val)→Option (List (κ×D))
 | []=>some []
 | (k,.d x)::r=>(toDK r).map ((k,x):: ·)
 | _::_=>none
def Ob.toD:Ob→Option D
 | .lst l=>(toDs l).map .lst
 | .dic false l=>(toDK l).map .dic
 | .dit false l=>(toDK l).map .dit
 | .ins c fs=>(toDK fs).map (.ins c)
 | _=>none
@[simp] theorem toDs_map(xs:List D):toDs (xs.map .d)=some xs:=by
 induction xs with
 | nil=>rfl
 | cons x r ih=>simp[toDs,ih]
@[simp] theorem toDK_map{κ:Type}(xs:List (κ×D)):toDK (xs.map fun p=>(p.1,Val.d p.2))=some xs:=by
 induction xs with
 | nil=>rfl
 | cons x r ih=>obtain⟨k,x⟩:=x;simp[toDK,ih]
theorem toDs_inv:∀ {l:List Val} {ds:List D},toDs l=some ds→l=ds.map .d
 | [],ds,h=>by cases h;rfl
 | .d x::r,ds,h=>by
  obtain⟨t,e,rfl⟩:=Option.map_eq_some_iff.mp h
  rw[toDs_inv e];rfl
 | .r _::_,ds,h=>by cases h
 | .tp _::_,ds,h=>by cases h
theorem toDK_inv{κ:Type}:∀ {l:List (κ×Val)} {ds:List (κ×D)},toDK l=some ds→l=ds.map fun p=>(p.1,Val.d p.2)
 | [],ds,h=>by cases h;rfl
 | (k,.d x)::r,ds,h=>by
  obtain⟨t,e,rfl⟩:=Option.map_eq_some_iff.mp h
  rw[toDK_inv e];rfl
 | (_,.r _)::_,ds,h=>by cases h
 | (_,.tp _)::_,ds,h=>by cases h
section
variable{cA:String→Addr}{Z:Hp}{loc:List Addr}
theorem hI:∀ {ds:List D} {vs:List V},bC cA Z loc (ds.map .d) vs↔gV cA Z ds vs
 | [],vs=>Iff.rfl
 | d::ds,vs=>⟨fun⟨v,r,e,q,t⟩=>⟨v,r,e,q,hI.mp t⟩,fun⟨v,r,e,q,t⟩=>⟨v,r,e,q,hI.mpr t⟩⟩
theorem rS:∀ {ds:List (K0×D)} {vs:List (Key×V)},fk cA Z loc (ds.map fun p=>(p.1,Val.d p.2)) vs↔kn cA Z ds vs
 | [],vs=>Iff.rfl
 | (k,d)::ds,vs=>⟨fun⟨v,r,e,q,t⟩=>⟨v,r,e,q,rS.mp t⟩,fun⟨v,r,e,q,t⟩=>⟨v,r,e,q,rS.mpr t⟩⟩
theorem rm:∀ {ds:List (List K0×D)} {vs:List (List Key×V)},fL cA Z loc (ds.map fun p=>(p.1,Val.d p.2)) vs↔ou cA Z ds vs
 | [],vs=>Iff.rfl
 | (k,d)::ds,vs=>⟨fun⟨v,r,e,q,t⟩=>⟨v,r,e,q,rm.mp t⟩,fun⟨v,r,e,q,t⟩=>⟨v,r,e,q,rm.mpr t⟩⟩
theorem vX:∀ {ds:List (String×D)} {vs:List (Str×V)},iD cA Z loc (ds.map fun p=>(p.1,Val.d p.2)) vs↔lD cA Z ds vs
 | [],vs=>Iff.rfl
 | (k,d)::ds,vs=>⟨fun⟨v,r,e,q,t⟩=>⟨v,r,e,q,vX.mp t⟩,fun⟨v,r,e,q,t⟩=>⟨v,r,e,q,vX.mpr t⟩⟩
theorem FN{H:Hp}{a:Addr}{o:Ob}{d:D}(h:Cell cA Z loc H a o)(e:o.toD=some d)(z:Z a=none):
  ∃ u,H a=some u∧ej cA (upd Z a u) d (.ref a):=by
 cases o with
 | lst l=>
  obtain⟨ds,e1,rfl⟩:=Option.map_eq_some_iff.mp e
  obtain⟨xs,h1,h2⟩:=h
  rw[toDs_inv e1]at h2
  exact⟨_,h1,a,xs,rfl,.inl upd_same,gV.mono (cQ z) ds (hI.mp h2)⟩
 | dic k l=>
  cases k with
  | true=>cases e
  | false=>
   obtain⟨ds,e1,rfl⟩:=Option.map_eq_some_iff.mp e
   obtain⟨xs,h1,h2⟩:=h
   rw[toDK_inv e1]at h2
   exact⟨_,h1,a,xs,rfl,upd_same,kn.mono (cQ z) ds (rS.mp h2)⟩
 | dit k l=>
  cases k with
  | true=>cases e
  | false=>
   obtain⟨ds,e1,rfl⟩:=Option.map_eq_some_iff.mp e
   obtain⟨xs,h1,h2⟩:=h
   rw[toDK_inv e1]at h2
   exact⟨_,h1,a,xs,rfl,upd_same,ou.mono (cQ z) ds (rm.mp h2)⟩
 | ins c l=>
  obtain⟨ds,e1,rfl⟩:=Option.map_eq_some_iff.mp e
  obtain⟨dx,xs,h1,h2⟩:=h
  rw[toDK_inv e1]at h2
  exact⟨_,h1,a,dx,xs,rfl,upd_same,lD.mono (cQ z) ds (vX.mp h2)⟩
 | gone=>cases e
end
def settle:RV→State→Res RV
 | .new o,s=>match o.toD with
  | some d=>.ok (.val (.d d)) s
  | none=>.stuck
 | r,s=>.ok r s
def lb(i:Nat)(s:State):Res Val:=
 match s.sg[i]? with
 | some (some (.own o))=>match o.toD with
  | some d=>.ok (.d d) { s with sg:=s.sg.set i (some (.v (.d d))) }
  | none=>.stuck
 | some (some (.v x))=>.ok x s
 | _=>.stuck
def d8:RV→State→Res Val
 | .val x,s=>.ok x s
 | .new o,s=>match o.toD with
  | some d=>.ok (.d d) s
  | none=>.stuck
 | .own i,s=>lb i s
section
variable{C:Cst}{Z Z':Hp}{loc loc':List Addr}{s s':State}{sv:L2.St}{H H':Hp}
theorem SR.settled(r:SR C Z loc s sv H){o:Ob}{v:V}{d:D}(h:cw C Z loc s sv H (.new o) v)(e:o.toD=some d):∃ Z',Ext Z loc Z' loc∧SR C Z' loc s sv H∧cy C.cA Z' loc (.d d) v:=by
 obtain⟨a,rfl,ne,h1,h2⟩:=h
 obtain⟨u,h3,h4⟩:=FN h1 e h2.z
 exact⟨_,Ext.z (cQ h2.z),r.xh h3 h2,h4⟩
theorem dI{α:Type}{l:List α}{i j:Nat}{x y:α}(h:(l.set i x)[j]? =some y):(i=j∧y=x)∨(i≠j∧l[j]? =some y):=by
 by_cases e:i=j
 ·subst e
  rw[List.getElem?_set]at h
  simp at h
  exact .inl ⟨rfl,h.2.symm⟩
 ·rw[List.getElem?_set_ne e]at h
  exact .inr ⟨e,h⟩
theorem SR.drop(r:SR C Z loc s sv H)(i:Nat):SR C Z loc { s with sg:=s.sg.set i none } sv H:=by
 refine⟨r.fr,r.zh,r.zf,r.lk,r.ln,r.nd,r.lh,r.cl,fun j x h=>?_,fun j o h=>?_,fun j k o o' a h1 h2=>?_,by simpa using r.ls⟩
 ·rcases dI h with⟨_,q⟩ | ⟨_,q⟩
  ·cases q
  ·exact r.vl j x q
 ·rcases dI h with⟨_,q⟩ | ⟨_,q⟩
  ·cases q
  ·exact r.ow j o q
 ·rcases dI h1 with⟨_,q⟩ | ⟨_,q⟩
  ·cases q
  ·rcases dI h2 with⟨_,q'⟩ | ⟨_,q'⟩
   ·cases q'
   ·exact r.oi j k o o' a q q'
theorem SR.E8(r:SR C Z loc s sv H){i:Nat}{o:Ob}{a:Addr}(h:s.sg[i]? =some (some (.own o)))(ha:sv[i]? =some (some (.ref a))):Free C Z loc { s with sg:=s.sg.set i none } sv a:=by
 obtain⟨b,h1,h2,h3,h4,h5,h6⟩:=r.ow i o h
 rw[ha]at h1
 cases h1
 refine⟨h4,h5,h6,fun j o' q e=>?_⟩
 rcases dI q with⟨_,q⟩ | ⟨ne,q⟩
 ·cases q
 ·exact ne (r.oi i j o o' a h q ha e)
theorem SR.JZ(r:SR C Z loc s sv H){i:Nat}{x:Val}{v:V}(h:sv[i]? =some (some v))(q:cy C.cA Z loc x v):SR C Z loc { s with sg:=s.sg.set i (some (.v x)) } sv H:=by
 refine⟨r.fr,r.zh,r.zf,r.lk,r.ln,r.nd,r.lh,r.cl,fun j y h1=>?_,fun j o h1=>?_,fun j k o o' a h1 h2=>?_,by simpa using r.ls⟩
 ·rcases dI h1 with⟨rfl,e⟩ | ⟨_,e⟩
  ·cases e
   exact⟨v,h,q⟩
  ·exact r.vl j y e
 ·rcases dI h1 with⟨rfl,e⟩ | ⟨_,e⟩
  ·cases e
  ·exact r.ow j o e
 ·rcases dI h1 with⟨_,q⟩ | ⟨_,q⟩
  ·cases q
  ·rcases dI h2 with⟨_,q'⟩ | ⟨_,q'⟩
   ·cases q'
   ·exact r.oi j k o o' a q q'
theorem SR.N5(r:SR C Z loc s sv H){i:Nat}{o:Ob}{a:Addr}(h:sv[i]? =some (some (.ref a)))(ne:o≠ .gone)(q:Cell C.cA Z loc H a o)(f:Free C Z loc s sv a):SR C Z loc { s with sg:=s.sg.set i (some (.own o)) } sv H:=by
 refine⟨r.fr,r.zh,r.zf,r.lk,r.ln,r.nd,r.lh,r.cl,fun j y h1=>?_,fun j ob h1=>?_,fun j k ob ob' b h1 h2 h3 h4=>?_,by simpa using r.ls⟩
 ·rcases dI h1 with⟨rfl,e⟩ | ⟨_,e⟩
  ·cases e
  ·exact r.vl j y e
 ·rcases dI h1 with⟨rfl,e⟩ | ⟨_,e⟩
  ·cases e
   exact⟨a,h,ne,q,f.z,f.f,f.l⟩
  ·exact r.ow j ob e
 ·rcases dI h1 with⟨rfl,e⟩ | ⟨n1,e⟩
  ·rcases dI h2 with⟨rfl,e'⟩ | ⟨n2,e'⟩
   ·rfl
   ·rw[h]at h3
    cases h3
    exact absurd h4 (f.o k ob' e')
  ·rcases dI h2 with⟨rfl,e'⟩ | ⟨n2,e'⟩
   ·rw[h]at h4
    cases h4
    exact absurd h3 (f.o j ob e)
   ·exact r.oi j k ob ob' b e e' h3 h4
theorem wK{α:Type}(l:List α)(i:Nat)(x y:α):(l.set i x).set i y=l.set i y:=List.set_set ..
theorem SR.lb(r:SR C Z loc s sv H){i:Nat}{v:V}{x:Val}(h:sv[i]? =some (some v))(e:lb i s=.ok x s'):∃ Z',Ext Z loc Z' loc∧SR C Z' loc s' sv H∧cy C.cA Z' loc x v:=by
 unfold Vw.lb at e
 split at e
 ·rename_i o ho
  split at e
  ·rename_i d hd
   cases e
   obtain⟨a,h1,h2,h3,h4⟩:=r.ow i o ho
   rw[h]at h1
   cases h1
   obtain⟨Z',g,r',q⟩:=(r.drop i).settled (v:=.ref a) ⟨a,rfl,h2,h3,r.E8 ho h⟩ hd
   refine⟨Z',g,?_,q⟩
   have:=r'.JZ h q
   simpa [wK]using this
  ·cases e
 ·rename_i x' hx
  cases e
  obtain⟨v',h1,h2⟩:=r.vl i x hx
  rw[h]at h1
  cases h1
  exact⟨Z,Ext.refl _ _,r,h2⟩
 ·cases e
theorem SR.d8(r:SR C Z loc s sv H){rv:RV}{v:V}{x:Val}(h:cw C Z loc s sv H rv v)(e:d8 rv s=.ok x s'):∃ Z',Ext Z loc Z' loc∧SR C Z' loc s' sv H∧cy C.cA Z' loc x v:=by
 cases rv with
 | val y=>cases e;exact⟨Z,Ext.refl _ _,r,h⟩
 | new o=>
  cases hd:o.toD with
  | none=>simp[Vw.d8,hd]at e
  | some d=>
   simp[Vw.d8,hd]at e
   obtain⟨rfl,rfl⟩:=e
   exact r.settled h hd
 | own i=>exact r.lb h e
theorem B1{rv:RV}{x:Exn}:d8 rv s≠ .exc x s':=by
 unfold d8 lb
 repeat' split
 all_goals simp
theorem zA{rv:RV}{x:Exn}:settle rv s≠ .exc x s':=by
 unfold settle
 repeat' split
 all_goals simp
def xR:RV→Prop
 | .new _=>False
 | _=>True
theorem cw.mono(h:Ext Z loc Z' loc'):∀ {rv:RV} {v:V},xR rv→cw C Z loc s sv H rv v→cw C Z' loc' s' sv H' rv v
 | .val x,v,_,q=>cy.mono h x q
 | .own i,v,_,q=>q
 | .new o,v,z,_=>z.elim
theorem SR.settle(r:SR C Z loc s sv H){rv rv':RV}{v:V}(h:cw C Z loc s sv H rv v)(e:settle rv s=.ok rv' s'):s'=s∧xR rv'∧∃ Z',Ext Z loc Z' loc∧SR C Z' loc s sv H∧cw C Z' loc s sv H rv' v:=by
 cases rv with
 | val y=>cases e;exact⟨rfl,trivial,Z,Ext.refl _ _,r,h⟩
 | own i=>cases e;exact⟨rfl,trivial,Z,Ext.refl _ _,r,h⟩
 | new o=>
  cases hd:o.toD with
  | none=>simp[Vw.settle,hd]at e
  | some d=>
   simp[Vw.settle,hd]at e
   obtain⟨rfl,rfl⟩:=e
   obtain⟨Z',g,r',q⟩:=r.settled h hd
   exact⟨rfl,trivial,Z',g,r',q⟩
end
def lW(C:Cst)(Z:Hp)(H:Hp)(x:Exn)(c:Value)(d:Option Addr):Prop:=
 c=.ref (C.cA x.c)∧match x.p with
  | none=>d=none
  | some p=>∃ dd v,d=some dd∧Z dd=some (.xd [(Str.ofString "place",v)])∧ej C.cA Z p v
inductive Fl where
 | nx
 | ret (r:RV)
 | brk
 | cnt
def EPost(C:Cst)(Z:Hp)(loc:List Addr)(sv:L2.St)(r:Res RV)(Q:VK):Prop:=
 match r with
 | .ok rv s'=>∀ Z' loc' H' v,Ext Z loc Z' loc'→SR C Z' loc' s' sv H'→cw C Z' loc' s' sv H' rv v→Q v H'
 | .exc x s'=>∀ Z' loc' H' c d,Ext Z loc Z' loc'→SR C Z' loc' s' sv H'→lW C Z' H' x c d→C.W c d sv H'
 | .stuck=>False
def ll(C:Cst)(Z:Hp)(loc:List Addr)(s:State)(sv:L2.St)(H:Hp):List RV→List V→Prop
 | [],vs=>vs=[]
 | x::l,vs=>∃ v r,vs=v::r∧xR x∧cw C Z loc s sv H x v∧ll C Z loc s sv H l r
def rD(C:Cst)(Z:Hp)(loc:List Addr)(sv:L2.St)(r:Res (List RV))(Q:List V→Hp→Prop):Prop:=
 match r with
 | .ok rv s'=>∀ Z' loc' H' v,Ext Z loc Z' loc'→SR C Z' loc' s' sv H'→ll C Z' loc' s' sv H' rv v→Q v H'
 | .exc x s'=>∀ Z' loc' H' c d,Ext Z loc Z' loc'→SR C Z' loc' s' sv H'→lW C Z' H' x c d→C.W c d sv H'
 | .stuck=>False
def iW(C:Cst)(Z:Hp)(loc:List Addr)(sv:L2.St)(r:Res Bool)(Q:Bool→Hp→Prop):Prop:=
 match r with
 | .ok b s'=>∀ Z' loc' H',Ext Z loc Z' loc'→SR C Z' loc' s' sv H'→Q b H'
 | .exc x s'=>∀ Z' loc' H' c d,Ext Z loc Z' loc'→SR C Z' loc' s' sv H'→lW C Z' H' x c d→C.W c d sv H'
 | .stuck=>False
def cx(C:Cst)(Z:Hp)(loc:List Addr)(r:Res Fl)(D:Ends):Prop:=
 match r with
 | .ok .nx s'=>∀ Z' loc' sv' H',Ext Z loc Z' loc'→SR C Z' loc' s' sv' H'→D.nx sv' H'
 | .ok .brk s'=>∀ Z' loc' sv' H',Ext Z loc Z' loc'→SR C Z' loc' s' sv' H'→D.bk sv' H'
 | .ok .cnt s'=>∀ Z' loc' sv' H',Ext Z loc Z' loc'→SR C Z' loc' s' sv' H'→D.ct sv' H'
 | .ok (.ret rv) s'=>∀ Z' loc' sv' H' v,Ext Z loc Z' loc'→SR C Z' loc' s' sv' H'→cw C Z' loc' s' sv' H' rv v→D.rt v H'
 | .exc x s'=>∀ Z' loc' sv' H' c d,Ext Z loc Z' loc'→SR C Z' loc' s' sv' H'→lW C Z' H' x c d→C.W c d sv' H'
 | .stuck=>False
def aB(C:Cst)(f:State→Res RV):TE:=fun sv H Q=>∃ Z loc s,SR C Z loc s sv H∧EPost C Z loc sv (f s) Q
def gk(C:Cst)(f:State→Res (List RV)):TA:=fun sv H Q=>∃ Z loc s,SR C Z loc s sv H∧rD C Z loc sv (f s) Q
def gD(C:Cst)(f:State→Res Bool):TT:=fun sv H Q=>∃ Z loc s,SR C Z loc s sv H∧iW C Z loc sv (f s) Q
def fY(C:Cst)(f:State→Res Fl):TS:=fun D sv H=>∃ Z loc s,SR C Z loc s sv H∧cx C Z loc (f s) D
section
variable{C:Cst}{Z Z':Hp}{loc loc':List Addr}{s:State}{sv:L2.St}{H:Hp}
theorem EPost.ext{r:Res RV}{Q:VK}(h:EPost C Z loc sv r Q)(g:Ext Z loc Z' loc'):EPost C Z' loc' sv r Q:=by
 cases r with
 | ok rv s'=>exact fun Z2 l2 H2 v g2=>h Z2 l2 H2 v (g.trans g2)
 | exc x s'=>exact fun Z2 l2 H2 c d g2=>h Z2 l2 H2 c d (g.trans g2)
 | stuck=>exact h
theorem EPost.imp{r:Res RV}{Q Q':VK}(h:EPost C Z loc sv r Q)(q:∀ v H,Q v H→Q' v H):EPost C Z loc sv r Q':=by
 cases r with
 | ok rv s'=>exact fun Z2 l2 H2 v g2 a b=>q _ _ (h Z2 l2 H2 v g2 a b)
 | exc x s'=>exact h
 | stuck=>exact h
theorem rD.ext{r:Res (List RV)}{Q:List V→Hp→Prop}(h:rD C Z loc sv r Q)(g:Ext Z loc Z' loc'):rD C Z' loc' sv r Q:=by
 cases r with
 | ok rv s'=>exact fun Z2 l2 H2 v g2=>h Z2 l2 H2 v (g.trans g2)
 | exc x s'=>exact fun Z2 l2 H2 c d g2=>h Z2 l2 H2 c d (g.trans g2)
 | stuck=>exact h
theorem iW.ext{r:Res Bool}{Q:Bool→Hp→Prop}(h:iW C Z loc sv r Q)(g:Ext Z loc Z' loc'):iW C Z' loc' sv r Q:=by
 cases r with
 | ok rv s'=>exact fun Z2 l2 H2 g2=>h Z2 l2 H2 (g.trans g2)
 | exc x s'=>exact fun Z2 l2 H2 c d g2=>h Z2 l2 H2 c d (g.trans g2)
 | stuck=>exact h
theorem cx.ext{r:Res Fl}{D:Ends}(h:cx C Z loc r D)(g:Ext Z loc Z' loc'):cx C Z' loc' r D:=by
 cases r with
 | ok f s'=>
  cases f with
  | nx=>exact fun Z2 l2 v2 H2 g2=>h Z2 l2 v2 H2 (g.trans g2)
  | brk=>exact fun Z2 l2 v2 H2 g2=>h Z2 l2 v2 H2 (g.trans g2)
  | cnt=>exact fun Z2 l2 v2 H2 g2=>h Z2 l2 v2 H2 (g.trans g2)
  | ret rv=>exact fun Z2 l2 v2 H2 v g2=>h Z2 l2 v2 H2 v (g.trans g2)
 | exc x s'=>exact fun Z2 l2 v2 H2 c d g2=>h Z2 l2 v2 H2 c d (g.trans g2)
 | stuck=>exact h
theorem aB.Ar{f:State→Res RV}{k:RV→State→Res RV}{Q:VK}(r:SR C Z loc s sv H)(h:EPost C Z loc sv ((f s).bind k) Q):
  aB C f sv H (fun v H'=>∃ Z' loc' s' rv,Ext Z loc Z' loc'∧SR C Z' loc' s' sv H'∧cw C Z' loc' s' sv H' rv v∧EPost C Z' loc' sv (k rv s') Q):=by
 refine⟨Z,loc,s,r,?_⟩
 cases e:f s with
 | ok rv s'=>rw[e]at h;exact fun Z' loc' H' v g r' q=>⟨Z',loc',s',rv,g,r',q,EPost.ext h g⟩
 | exc x s'=>rw[e]at h;exact h
 | stuck=>rw[e]at h;exact h
theorem aB.rN{f:State→Res RV}{k:RV→State→Res Fl}{D:Ends}(r:SR C Z loc s sv H)(h:cx C Z loc ((f s).bind k) D):
  aB C f sv H (fun v H'=>∃ Z' loc' s' rv,Ext Z loc Z' loc'∧SR C Z' loc' s' sv H'∧cw C Z' loc' s' sv H' rv v∧cx C Z' loc' (k rv s') D):=by
 refine⟨Z,loc,s,r,?_⟩
 cases e:f s with
 | ok rv s'=>rw[e]at h;exact fun Z' loc' H' v g r' q=>⟨Z',loc',s',rv,g,r',q,cx.ext h g⟩
 | exc x s'=>rw[e]at h;exact fun Z' loc' H' c d=>h Z' loc' sv H' c d
 | stuck=>rw[e]at h;exact h
theorem gk.Ar{f:State→Res (List RV)}{k:List RV→State→Res RV}{Q:VK}(r:SR C Z loc s sv H)(h:EPost C Z loc sv ((f s).bind k) Q):
  gk C f sv H (fun v H'=>∃ Z' loc' s' rv,Ext Z loc Z' loc'∧SR C Z' loc' s' sv H'∧ll C Z' loc' s' sv H' rv v∧EPost C Z' loc' sv (k rv s') Q):=by
 refine⟨Z,loc,s,r,?_⟩
 cases e:f s with
 | ok rv s'=>rw[e]at h;exact fun Z' loc' H' v g r' q=>⟨Z',loc',s',rv,g,r',q,EPost.ext h g⟩
 | exc x s'=>rw[e]at h;exact h
 | stuck=>rw[e]at h;exact h
theorem gD.rN{f:State→Res Bool}{k:Bool→State→Res Fl}{D:Ends}(r:SR C Z loc s sv H)(h:cx C Z loc ((f s).bind k) D):
  gD C f sv H (fun b H'=>∃ Z' loc' s',Ext Z loc Z' loc'∧SR C Z' loc' s' sv H'∧cx C Z' loc' (k b s') D):=by
 refine⟨Z,loc,s,r,?_⟩
 cases e:f s with
 | ok rv s'=>rw[e]at h;exact fun Z' loc' H' g r'=>⟨Z',loc',s',g,r',cx.ext h g⟩
 | exc x s'=>rw[e]at h;exact fun Z' loc' H' c d=>h Z' loc' sv H' c d
 | stuck=>rw[e]at h;exact h
theorem aB.imp{f:State→Res RV}{Q Q':VK}(h:aB C f sv H Q)(q:∀ v H,Q v H→Q' v H):aB C f sv H Q':=by
 obtain⟨Z,loc,s,r,h⟩:=h
 exact⟨Z,loc,s,r,h.imp q⟩
theorem gk.imp{f:State→Res (List RV)}{Q Q':List V→Hp→Prop}(h:gk C f sv H Q)(q:∀ v H,Q v H→Q' v H):gk C f sv H Q':=by
 obtain⟨Z,loc,s,r,h⟩:=h
 refine⟨Z,loc,s,r,?_⟩
 cases e:f s with
 | ok rv s'=>rw[e]at h;exact fun Z2 l2 H2 v g2 a b=>q _ _ (h Z2 l2 H2 v g2 a b)
 | exc x s'=>rw[e]at h;exact h
 | stuck=>rw[e]at h;exact h
theorem gD.imp{f:State→Res Bool}{Q Q':Bool→Hp→Prop}(h:gD C f sv H Q)(q:∀ v H,Q v H→Q' v H):gD C f sv H Q':=by
 obtain⟨Z,loc,s,r,h⟩:=h
 refine⟨Z,loc,s,r,?_⟩
 cases e:f s with
 | ok rv s'=>rw[e]at h;exact fun Z2 l2 H2 g2 a=>q _ _ (h Z2 l2 H2 g2 a)
 | exc x s'=>rw[e]at h;exact h
 | stuck=>rw[e]at h;exact h
end
theorem cf{X:Cx}{e:Expr}{t t':TE}(h:PE X e t)(m:∀ sv H Q,t' sv H Q→t sv H Q):PE X e t':=⟨fun pins s sv H Q I q=>h.run pins s sv H Q I (m sv H Q q)⟩
theorem Cz{X:Cx}{e:List Expr}{t t':TA}(h:PA X e t)(m:∀ sv H Q,t' sv H Q→t sv H Q):PA X e t':=⟨fun pos pins s sv H Q I q=>h.run pos pins s sv H Q I (m sv H Q q)⟩
theorem yN{X:Cx}{e:Expr}{t t':TT}(h:PT X e t)(m:∀ sv H Q,t' sv H Q→t sv H Q):PT X e t':=⟨fun pins s sv H Q I q=>h.run pins s sv H Q I (m sv H Q q)⟩
theorem iR{X:Cx}{e:Stmt}{t t':TS}(h:PS X e t)(m:∀ D sv H,t' D sv H→t D sv H):PS X e t':=⟨fun pins s sv H D I q=>h.run pins s sv H D I (m D sv H q)⟩
theorem Bf{X:Cx}{e:List Stmt}{t t':TS}(h:PSs X e t)(m:∀ D sv H,t' D sv H→t D sv H):PSs X e t':=⟨fun pins s sv H D I q=>h.run pins s sv H D I (m D sv H q)⟩
end Vw
namespace Vw
open PySem L2 PyProof.Rows
section
variable{X:Cx}
theorem Lo:OpR X (binaryOp .Add) (fun x y H Q=>∃ l b xs zs,x=.ref l∧y=.ref b∧Rd H l (.lst xs)∧Rd H b (.lst zs)∧xs.length+zs.length≤sizeLine∧∀ p,H p=none→Q (.ref p) (upd H p (.lst (xs++zs)))):=by
 intro pins s σ H x y v u Q I rx ry h
 obtain⟨l,b,xs,zs,rfl,rfl,hH,hB,hz,q⟩:=h
 cases rx
 cases ry
 obtain⟨z,its,n,r,e⟩:=hH.ok I.hok
 obtain⟨z2,its2,n2,r2,e2⟩:=hB.ok I.hok
 have hl:=r.length
 have hl2:=r2.length
 refine PySem.P.add_list e e2 ?_ (by rw[List.size_toArray,List.size_toArray];omega)
 have ea:its.toArray++its2.toArray=(its++its2).toArray:=by simp
 rw[ea]
 exact⟨.ref _,_,I.lnew (t':=s.toks) (r.append r2) (by rw[List.length_append];omega),rfl,q _ I.fresh⟩
def Km(K:PySem.W.Frag)(n:Bool):R2:=fun x y H Q=>∃ d e,Dp K H x d∧Dp K H y e∧d.plain=true∧e.plain=true∧min d.depth e.depth≤60∧Q (.bl (xor n (PyData.eqv d e))) H
theorem Og(hu:X.A.units+64<cLine):OpR X (compareOp .Eq) (Km X.K false):=by
 intro pins s σ H x y v u Q I rx ry h
 obtain⟨d,e,hd,he,sd,se,dp,q⟩:=h
 obtain⟨as,r1⟩:=Dp.reads I d x v hd rx
 obtain⟨bs,r2⟩:=Dp.reads I e y u he ry
 exact SeqAt.eq_plain r1 r2 sd se (by omega) ⟨.bl _,H,I,by simp[L2.RelV],q⟩
theorem Ot(hu:X.A.units+64<cLine):OpR X (compareOp .NotEq) (Km X.K true):=by
 intro pins s σ H x y v u Q I rx ry h
 obtain⟨d,e,hd,he,sd,se,dp,q⟩:=h
 obtain⟨as,r1⟩:=Dp.reads I d x v hd rx
 obtain⟨bs,r2⟩:=Dp.reads I e y u he ry
 exact SeqAt.ne_plain r1 r2 sd se (by omega) ⟨.bl _,H,I,by simp[L2.RelV],q⟩
def rIn(K:PySem.W.Frag)(n:Bool):R2:=fun x y H Q=>∃ d l,Dp K H x d∧(Dp K H y (.list l)∨Dp K H y (.tuple l))∧d.plain=true∧PyData.plainAll l=true∧min (PyData.depthAll l) d.depth≤60∧Q (.bl (xor n (l.any fun y=>PyData.eqv y d))) H
theorem N9(hu:X.A.units+64<cLine):OpR X (compareOp .In) (rIn X.K false):=by
 intro pins s σ H x y v u Q I rx ry h
 obtain⟨d,l,hd,he,sd,se,dp,q⟩:=h
 obtain⟨as,r1⟩:=Dp.reads I d x v hd rx
 rcases he with he | he
 ·obtain⟨bs,r2⟩:=Dp.reads I _ y u he ry
  exact SeqAt.in_list_data r2 r1 se sd (by omega) ⟨.bl _,H,I,by simp[L2.RelV],q⟩
 ·obtain⟨bs,r2⟩:=Dp.reads I _ y u he ry
  exact SeqAt.in_tuple_data r2 r1 se sd (by omega) ⟨.bl _,H,I,by simp[L2.RelV],q⟩
theorem LF(hu:X.A.units+64<cLine):OpR X (compareOp .NotIn) (rIn X.K true):=by
 intro pins s σ H x y v u Q I rx ry h
 obtain⟨d,l,hd,he,sd,se,dp,q⟩:=h
 obtain⟨as,r1⟩:=Dp.reads I d x v hd rx
 rcases he with he | he
 ·obtain⟨bs,r2⟩:=Dp.reads I _ y u he ry
  exact SeqAt.notIn_list_data r2 r1 se sd (by omega) ⟨.bl _,H,I,by simp[L2.RelV],q⟩
 ·obtain⟨bs,r2⟩:=Dp.reads I _ y u he ry
  exact SeqAt.notIn_tuple_data r2 r1 se sd (by omega) ⟨.bl _,H,I,by simp[L2.RelV],q⟩
def F8(n:Bool):R2:=fun y x H Q=>∃ a o,x=.ref a∧DGet H a y o∧Q (.bl (xor n o.isSome)) H
theorem Lx(hu:X.A.units+64<cLine):OpR X (compareOp .In) (F8 false):=by
 intro pins s σ H x y v u Q I rx ry h
 obtain⟨a,o,rfl,g,q⟩:=h
 cases ry
 exact d_in (by omega) I g rx fun s' I'=>⟨.bl _,H,I',by simp[L2.RelV],q⟩
theorem Kh(hu:X.A.units+64<cLine):OpR X (compareOp .NotIn) (F8 true):=by
 intro pins s σ H x y v u Q I rx ry h
 obtain⟨a,o,rfl,g,q⟩:=h
 cases ry
 exact d_notIn (by omega) I g rx fun s' I'=>⟨.bl _,H,I',by simp[L2.RelV],q⟩
def rIxD:R2:=fun x y H Q=>∃ a v,x=.ref a∧DGet H a y (some v)∧Q v H
theorem LG(hu:X.A.units+64<cLine):IxR X rIxD:=by
 intro value slice pins s σ H x y v u Q I rx ry h hs
 obtain⟨a,z,rfl,g,q⟩:=h
 cases rx
 have hT:=dict_typeIs I g
 unfold subscriptTail
 refine wpAny_bind ?_
 rw[getitemInPython_of_ne hT.not_modules]
 refine wpAny_bind (wpAny_specialOf hT PySem.F.slot_dict_getitem.lookup ?_)
 have fin:wpAny (model X.prog X.w) X.A (subscripted slice false (.ref a) u) (fun r s₃=>wpAny (model X.prog X.w) X.A (letTemporaryGo value (.ref a) r >>= fun _=>pure r) (EP X pins σ Q) X.xe s₃) X.xe s:=by
  rw[hs]
  exact wpAny_operating (d_getItem (by omega) I g ry fun w' s3 I3 rw'=>wpAny_bind (wpAny_letTemporaryGo (wpAny_pure ⟨z,H,I3,rw',q⟩)))
 first
  | exact wpAny_pure (wpAny_bind fin)
  | exact wpAny_bind (wpAny_pure (wpAny_bind fin))
  | exact wpAny_bind fin
end
def st(l:List Nat):Str:=⟨l.toArray⟩
mutual
def pd:D→PyData
 | .non=>.none
 | .bl b=>.bool b
 | .int i=>.int i
 | .str s=>.str (st s)
 | .tup l=>.tuple (gX l)
 | .lst l=>.list (gX l)
 | _=>.dict []
def gX:List D→List PyData
 | []=>[]
 | x::r=>pd x::gX r
end
mutual
theorem Gf{C:Cst}{K:PySem.W.Frag}{Z:Hp}{loc:List Addr}{s:State}{sv:L2.St}{H:Hp}(r:SR C Z loc s sv H):∀ (d:D) {v:V},ej C.cA Z d v→(pd d).plain=true→Dp K H v (pd d)
 | .non,v,q,_=>by rw[show v=_ from q];exact .non
 | .bl _,v,q,_=>by rw[show v=_ from q];exact .bl _
 | .int _,v,q,_=>by rw[show v=_ from q];exact .int _
 | .str _,v,q,_=>by rw[show v=_ from q];exact .str _
 | .tup l,v,⟨a,vs,e,z,q⟩,p=>by
  rw[e]
  exact .tup (.inl (r.zh a _ z).rd) (xF r l q p)
 | .lst l,v,⟨a,vs,e,z,q⟩,p=>by
  rw[e]
  refine .lst (.inl ?_) (xF r l q p)
  rcases z with z | ⟨o,z⟩
  ·exact(r.zh a _ z).rd
  ·exact .inr ⟨o,(r.zh a _ z).at rfl⟩
 | .dic _,v,_,p=>by cases p
 | .dit _,v,_,p=>by cases p
 | .ins _ _,v,_,p=>by cases p
 | .exc _ _,v,_,p=>by cases p
theorem xF{C:Cst}{K:PySem.W.Frag}{Z:Hp}{loc:List Addr}{s:State}{sv:L2.St}{H:Hp}(r:SR C Z loc s sv H):∀ (l:List D) {vs:List V},gV C.cA Z l vs→PyData.plainAll (gX l)=true→DpAll K H vs (gX l)
 | [],vs,q,_=>by rw[show vs=_ from q];exact .nil
 | d::l,vs,⟨v,t,e,q1,q2⟩,p=>by
  rw[e]
  have p':(pd d).plain=true∧PyData.plainAll (gX l)=true:=by simpa [gX,PyData.plainAll]using p
  exact .cons (Gf r d q1 p'.1) (xF r l q2 p'.2)
end
def lX(x y:D):Bool:=PyData.eqv (pd x) (pd y)
def gp(x y:D):Bool:=(pd x).plain&&(pd y).plain&&decide (min (pd x).depth (pd y).depth≤60)
def mz(s:State):RV→RV
 | .own i=>match s.sg[i]? with
  | some (some (.v x))=>.val x
  | _=>.own i
 | r=>r
def dv(s:State)(r:RV):Option D:=
 match mz s r with
 | .val (.d x)=>some x
 | _=>none
def ob(s:State)(r:RV):Option Ob:=
 match mz s r with
 | .own i=>match s.sg[i]? with
  | some (some (.own o))=>some o
  | _=>none
 | .val (.r n)=>match s.st[n]? with
  | some .gone=>none
  | some o=>some o
  | none=>none
 | _=>none
def lv(s:State)(r:RV):Option (List Val):=
 match dv s r with
 | some (.lst l)=>some (l.map .d)
 | some _=>none
 | none=>match ob s r with
  | some (.lst l)=>some l
  | _=>none
def tv(s:State)(r:RV):Option (List Val):=
 match mz s r with
 | .val (.d (.tup l))=>some (l.map .d)
 | .val (.tp l)=>some l
 | _=>none
def mw(s:State)(r:RV):Option D:=
 match dv s r with
 | some d=>some d
 | none=>match ob s r with
  | some (.lst l)=>(toDs l).map .lst
  | _=>none
section
variable{C:Cst}{Z:Hp}{loc:List Addr}{s:State}{sv:L2.St}{H:Hp}
theorem SR.mz(r:SR C Z loc s sv H){rv:RV}{v:V}(h:cw C Z loc s sv H rv v):cw C Z loc s sv H (mz s rv) v:=by
 cases rv with
 | val x=>exact h
 | new o=>exact h
 | own i=>
  unfold Vw.mz
  dsimp only
  split
  ·rename_i x e
   obtain⟨v',h1,h2⟩:=r.vl i x e
   rw[show sv[i]? =some (some v)from h]at h1
   cases h1
   exact h2
  ·exact h
theorem SR.dv(r:SR C Z loc s sv H){rv:RV}{v:V}{x:D}(h:cw C Z loc s sv H rv v)(e:dv s rv=some x):ej C.cA Z x v:=by
 have q:=r.mz h
 unfold Vw.dv at e
 split at e
 ·rename_i y e1
  cases e
  rw[e1]at q
  exact q
 ·cases e
theorem SR.ob(r:SR C Z loc s sv H){rv:RV}{v:V}{o:Ob}(h:cw C Z loc s sv H rv v)(e:ob s rv=some o):∃ a,v=.ref a∧o≠ .gone∧Cell C.cA Z loc H a o:=by
 have q:=r.mz h
 unfold Vw.ob at e
 split at e
 ·rename_i i e1
  rw[e1]at q
  split at e
  ·rename_i o' e2
   cases e
   obtain⟨a,h1,h2,h3,_⟩:=r.ow i _ e2
   rw[show sv[i]? =some (some v)from q]at h1
   cases h1
   exact⟨a,rfl,h2,h3⟩
  ·cases e
 ·rename_i n e1
  rw[e1]at q
  obtain⟨a,h1,h2⟩:=q
  split at e
  ·cases e
  ·rename_i o' ne e2
   cases e
   exact⟨a,h2,ne,(r.cl n a _ h1 e2 ne).1⟩
  ·cases e
 ·cases e
theorem SR.lv(r:SR C Z loc s sv H){rv:RV}{v:V}{l:List Val}(h:cw C Z loc s sv H rv v)(e:lv s rv=some l):∃ a xs,v=.ref a∧Rd H a (.lst xs)∧bC C.cA Z loc l xs:=by
 unfold Vw.lv at e
 split at e
 ·rename_i l' e1
  cases e
  obtain⟨a,vs,h1,h2,h3⟩:=r.dv h e1
  refine⟨a,vs,h1,?_,hI.mpr h3⟩
  rcases h2 with z | ⟨o,z⟩
  ·exact(r.zh a _ z).rd
  ·exact .inr ⟨o,(r.zh a _ z).at rfl⟩
 ·cases e
 ·split at e
  ·rename_i l' e1
   cases e
   obtain⟨a,h1,_,xs,h2,h3⟩:=r.ob h e1
   exact⟨a,xs,h1,.inl h2,h3⟩
  ·cases e
theorem SR.tv(r:SR C Z loc s sv H){rv:RV}{v:V}{l:List Val}(h:cw C Z loc s sv H rv v)(e:tv s rv=some l):∃ a xs,v=.ref a∧H a=some (.tup xs)∧bC C.cA Z loc l xs:=by
 have q:=r.mz h
 unfold Vw.tv at e
 split at e
 ·rename_i l' e1
  cases e
  rw[e1]at q
  obtain⟨a,vs,h1,h2,h3⟩:=q
  exact⟨a,vs,h1,(r.zh a _ h2).at rfl,hI.mpr h3⟩
 ·rename_i l' e1
  cases e
  rw[e1]at q
  obtain⟨a,vs,h1,h2,h3⟩:=q
  exact⟨a,vs,h1,(r.zh a _ h2).at rfl,h3⟩
 ·cases e
theorem SR.mw(r:SR C Z loc s sv H){K:PySem.W.Frag}{rv:RV}{v:V}{d:D}(h:cw C Z loc s sv H rv v)(e:mw s rv=some d)(p:(pd d).plain=true):Dp K H v (pd d):=by
 unfold Vw.mw at e
 split at e
 ·rename_i d' e1
  cases e
  exact Gf r _ (r.dv h e1) p
 ·split at e
  ·rename_i l e1
   obtain⟨ds,e2,rfl⟩:=Option.map_eq_some_iff.mp e
   obtain⟨a,h1,_,xs,h2,h3⟩:=r.ob h e1
   rw[h1]
   rw[toDs_inv e2]at h3
   exact .lst (.inl (.inl h2)) (xF r ds (hI.mp h3) p)
  ·cases e
end
end Vw
namespace Vw
open PySem L2 PyProof.Rows
def bp(x:D)(s:State):Res RV:=.ok (.val (.d x)) s
inductive Bop where
 | add | sub | mul | fdiv | mod | pow
 deriving DecidableEq
def Bop.py:Bop→Operator
 | .add=>.Add
 | .sub=>.Sub
 | .mul=>.Mult
 | .fdiv=>.FloorDiv
 | .mod=>.Mod
 | .pow=>.Pow
def rX(x y:RV)(s:State):Res RV:=
 match dv s x,dv s y with
 | some (.int i),some (.int j)=>bp (.int (i+j)) s
 | some (.str a),some (.str b)=>if a.length+b.length≤sizeLine then bp (.str (a++b)) s else .stuck
 | _,_=>match lv s x,lv s y with
  | some l,some m=>if l.length+m.length≤sizeLine then .ok (.new (.lst (l++m))) s else .stuck
  | _,_=>.stuck
def yu(x y:RV)(s:State):Res RV:=
 match dv s x,dv s y with
 | some (.int i),some (.int j)=>if i.natAbs.log2+j.natAbs.log2<1000000 then bp (.int (i*j)) s else .stuck
 | some (.str a),some (.int j)=>if 0≤j∧j<1000000∧a.length*j.toNat≤1000000 then bp (.str (List.replicate j.toNat a).flatten) s else .stuck
 | _,_=>.stuck
def binop:Bop→RV→RV→State→Res RV
 | .add,x,y,s=>rX x y s
 | .mul,x,y,s=>yu x y s
 | .sub,x,y,s=>match dv s x,dv s y with
  | some (.int i),some (.int j)=>bp (.int (i-j)) s
  | _,_=>.stuck
 | .fdiv,x,y,s=>match dv s x,dv s y with
  | some (.int i),some (.int j)=>if 0<j∧j.natAbs.log2<9000 then bp (.int (i/j)) s else .stuck
  | _,_=>.stuck
 | .mod,x,y,s=>match dv s x,dv s y with
  | some (.int i),some (.int j)=>if 0<j then bp (.int (i%j)) s else .stuck
  | _,_=>.stuck
 | .pow,x,y,s=>match dv s x,dv s y with
  | some (.int i),some (.int j)=>if 0≤j∧j≤1000000∧i.natAbs<2^64 then bp (.int (i^j.toNat)) s else .stuck
  | _,_=>.stuck
inductive Cop where
 | eq | ne | lt | le | gt | ge | is | isn | isin | notin
 deriving DecidableEq
def Cop.py:Cop→CmpOp
 | .eq=>.Eq
 | .ne=>.NotEq
 | .lt=>.Lt
 | .le=>.LtE
 | .gt=>.Gt
 | .ge=>.GtE
 | .is=>.Is
 | .isn=>.IsNot
 | .isin=>.In
 | .notin=>.NotIn
def subIn(a b:List Nat):Bool:= !(Builtin.Str.occurrences (st b) (st a) 0 b.length 1).isEmpty
def CW(a b:List Nat):Bool:=decide (a<b)
def yt(s:State)(x y:RV)(f:Int→Int→Bool)(g:List Nat→List Nat→Bool):Option Bool:=
 match dv s x,dv s y with
 | some (.int i),some (.int j)=>some (f i j)
 | some (.str a),some (.str b)=>some (g a b)
 | _,_=>none
def BF:D→Option K0
 | .int i=>some (.i i)
 | .str t=>some (.s t)
 | _=>none
def Bt:List D→Option (List K0)
 | []=>some []
 | d::r=>match BF d,Bt r with
  | some k,some t=>some (k::t)
  | _,_=>none
def nG{κ α:Type}[DecidableEq κ](l:List (κ×α))(k:κ):Option α:=(l.find? fun p=>decide (p.1=k)).map (·.2)
def yV{κ α:Type}[DecidableEq κ](l:List (κ×α))(k:κ)(v:α):List (κ×α):=
 if l.any fun p=>decide (p.1=k)then l.map (fun p=>if p.1=k then(p.1,v)else p)else l++[(k,v)]
def p4(s:State)(r:RV):Option (List (K0×Val)):=
 match dv s r with
 | some (.dic l)=>some (l.map fun p=>(p.1,.d p.2))
 | some _=>none
 | none=>match ob s r with
  | some (.dic _ l)=>some l
  | _=>none
def vM(s:State)(r:RV):Option (List (List K0×Val)):=
 match dv s r with
 | some (.dit l)=>some (l.map fun p=>(p.1,.d p.2))
 | some _=>none
 | none=>match ob s r with
  | some (.dit _ l)=>some l
  | _=>none
def lj(s:State)(x k:RV):Option (Option Val):=
 match p4 s x,dv s k with
 | some l,some d=>(BF d).map (nG l)
 | _,_=>match vM s x,dv s k with
  | some l,some (.tup ks)=>(Bt ks).map (nG l)
  | _,_=>none
def inD(s:State)(x y:RV):Option Bool:=
 match lj s y x with
 | some o=>some o.isSome
 | none=>match dv s x,dv s y with
  | some (.str a),some (.str b)=>some (subIn a b)
  | _,_=>match mw s x,mw s y with
   | some d,some (.lst l)=>if(pd d).plain&&PyData.plainAll (gX l)&&decide (min (PyData.depthAll (gX l)) (pd d).depth≤60)then some (l.any fun y=>lX y d)else none
   | some d,some (.tup l)=>if(pd d).plain&&PyData.plainAll (gX l)&&decide (min (PyData.depthAll (gX l)) (pd d).depth≤60)then some (l.any fun y=>lX y d)else none
   | _,_=>none
def zi(s:State)(x y:RV):Option Bool:=
 match dv s y with
 | some .non=>match dv s x with
  | some .non=>some true
  | some _=>some false
  | none=>match ob s x with
   | some _=>some false
   | none=>(tv s x).map fun _=>false
 | _=>none
def xB(s:State)(x y:RV):Option Bool:=
 match mw s x,mw s y with
 | some a,some b=>if gp a b then some (lX a b)else none
 | _,_=>none
def i0:Cop→State→RV→RV→Option Bool
 | .eq,s,x,y=>xB s x y
 | .ne,s,x,y=>(xB s x y).map not
 | .lt,s,x,y=>yt s x y (fun i j=>decide (i<j)) CW
 | .le,s,x,y=>yt s x y (fun i j=>decide (i≤j)) fun a b=> !CW b a
 | .gt,s,x,y=>yt s x y (fun i j=>decide (j<i)) fun a b=>CW b a
 | .ge,s,x,y=>yt s x y (fun i j=>decide (j≤i)) fun a b=> !CW a b
 | .is,s,x,y=>zi s x y
 | .isn,s,x,y=>(zi s x y).map not
 | .isin,s,x,y=>inD s x y
 | .notin,s,x,y=>(inD s x y).map not
def xg(C:Cst)(f:RV→RV→State→Res RV)(r:R2):Prop:=
 ∀ Z loc s sv H x y u v Q,SR C Z loc s sv H→cw C Z loc s sv H x u→cw C Z loc s sv H y v→EPost C Z loc sv (f x y s) Q→r u v H Q
def JA(C:Cst)(f:State→RV→RV→Option Bool)(r:R2):Prop:=
 ∀ Z loc s sv H x y u v b Q,SR C Z loc s sv H→cw C Z loc s sv H x u→cw C Z loc s sv H y v→f s x y=some b→Q (.bl b) H→r u v H Q
section
variable{C:Cst}{Z:Hp}{loc:List Addr}{s:State}{sv:L2.St}{H:Hp}{Q:VK}
theorem EPost.val{x:Val}{v:V}(h:EPost C Z loc sv (.ok (.val x) s) Q)(r:SR C Z loc s sv H)(q:cy C.cA Z loc x v):Q v H:=h Z loc H v (Ext.refl _ _) r q
theorem EPost.bp{x:D}{v:V}(h:EPost C Z loc sv (bp x s) Q)(r:SR C Z loc s sv H)(q:ej C.cA Z x v):Q v H:=EPost.val h r q
theorem EPost.new{o:Ob}{u:HO}{p:Addr}(h:EPost C Z loc sv (.ok (.new o) s) Q)(r:SR C Z loc s sv H)(np:H p=none)(ne:o≠ .gone)(q:Cell C.cA Z loc (upd H p u) p o):Q (.ref p) (upd H p u):=
 h Z loc _ _ (Ext.refl _ _) (r.grow (cQ np)) ⟨p,rfl,ne,q,r.free np⟩
theorem cP:∀ {l:List Val} {xs:List V},bC C.cA Z loc l xs→l.length=xs.length
 | [],xs,h=>by rw[show xs=_ from h];rfl
 | x::l,xs,⟨v,r,e,q,t⟩=>by rw[e,List.length_cons,List.length_cons,cP t]
theorem pW:∀ {l m:List Val} {xs ys:List V},bC C.cA Z loc l xs→bC C.cA Z loc m ys→bC C.cA Z loc (l++m) (xs++ys)
 | [],m,xs,ys,h,g=>by rw[show xs=_ from h];exact g
 | x::l,m,xs,ys,⟨v,r,e,q,t⟩,g=>by rw[e];exact⟨v,r++ys,rfl,q,pW t g⟩
theorem HF:xg C rX (fun x y H Q=>rI0 (fun i j=>.int (i+j)) x y H Q∨((∃ i j,x=.str i∧y=.str j∧i.length+j.length≤sizeLine∧Q (.str (i++j)) H)∨
  ∃ l b xs zs,x=.ref l∧y=.ref b∧Rd H l (.lst xs)∧Rd H b (.lst zs)∧xs.length+zs.length≤sizeLine∧∀ p,H p=none→Q (.ref p) (upd H p (.lst (xs++zs))))):=by
 intro Z loc s sv H x y u v Q r hx hy h
 unfold rX at h
 split at h
 ·rename_i i j e1 e2
  exact .inl ⟨i,j,r.dv hx e1,r.dv hy e2,h.bp r rfl⟩
 ·rename_i a b e1 e2
  split at h
  ·rename_i hl
   refine .inr (.inl ⟨⟨a.toArray⟩,⟨b.toArray⟩,r.dv hx e1,r.dv hy e2,by simpa [Str.length]using hl,h.bp r ?_⟩)
   show V.str _=V.str _
   congr 1
   show Str.mk (a.toArray++b.toArray)=_
   simp
  ·exact h.elim
 ·split at h
  ·rename_i l m e1 e2
   split at h
   ·rename_i hl
    obtain⟨a,xs,h1,h2,h3⟩:=r.lv hx e1
    obtain⟨b,ys,h4,h5,h6⟩:=r.lv hy e2
    refine .inr (.inr ⟨a,b,xs,ys,h1,h4,h2,h5,by rw[←cP h3,←cP h6];exact hl,fun p np=>h.new r np (by simp) ⟨_,upd_same,pW h3 h6⟩⟩)
   ·exact h.elim
  ·exact h.elim
end
section
variable{X:Cx}
theorem Mb:OpR X (binaryOp .Add) (fun x y H Q=>rI0 (fun i j=>.int (i+j)) x y H Q∨((∃ i j,x=.str i∧y=.str j∧i.length+j.length≤sizeLine∧Q (.str (i++j)) H)∨
  ∃ l b xs zs,x=.ref l∧y=.ref b∧Rd H l (.lst xs)∧Rd H b (.lst zs)∧xs.length+zs.length≤sizeLine∧∀ p,H p=none→Q (.ref p) (upd H p (.lst (xs++zs))))):=
 op_add.or (op_add_str.or Lo)
def Qc:R2:=fun x y H Q=>∃ (a:Str) (j:Int),x=.str a∧y=.int j∧0≤j∧j<1000000∧a.length*j.toNat≤1000000∧Q (.str ⟨(List.replicate j.toNat a.cps.toList).flatten.toArray⟩) H
theorem zg(a:Array Nat):∀ (n:Nat) (b:Array Nat),(List.replicate n a).foldl (· ++ ·) b=(b.toList++(List.replicate n a.toList).flatten).toArray
 | 0,b=>by simp
 | n+1,b=>by
  rw[List.replicate_succ,List.foldl_cons,zg a n]
  simp[List.replicate_succ]
theorem Ke:OpR X (binaryOp .Mult) Qc:=by
 intro pins s σ H x y v u Q I rx ry h
 obtain⟨a,j,rfl,rfl,h0,h1,h2,q⟩:=h
 obtain⟨t,rfl⟩:=rx
 obtain⟨t',rfl⟩:=ry
 have b63:(2:Int)^63=9223372036854775808:=by decide
 refine PySem.P.mul_str (by simp;omega) (fun g1 g2 g=>?_) (fun g1 g2=>?_) ?_
 ·have hj:(1:Int)≤j:=by omega
  have e1:(a.length:Int)*j≤1000000:=by
   have:((a.length*j.toNat:Nat):Int)≤1000000:=by omega
   rw[Int.natCast_mul,Int.toNat_of_nonneg h0]at this
   exact this
  have e2:(a.length:Int)≤1000000:=by
   have:a.length≤a.length*j.toNat:=Nat.le_mul_of_pos_right _ (by omega)
   omega
  have e3:(9223372036853:Int)≤(2^63- 1)/j:=by
   refine Int.le_ediv_of_mul_le (by omega) ?_
   rw[b63]
   omega
  omega
 ·have h3:a.length*j.toNat≤1000000:=h2
  unfold Builtin.Str.tooLong
  rw[sizeLine_eq]
  simp
  omega
 ·by_cases c1:j<1
  ·rw[if_pos c1]
   have e0:j=0:=by omega
   subst e0
   exact⟨by decide,.str _,H,I.tok _,⟨_,rfl⟩,q⟩
  ·rw[if_neg c1]
   by_cases c2:(j==1||a.length==0)=true
   ·rw[if_pos c2]
    refine⟨.str a,H,I,⟨_,rfl⟩,?_⟩
    have ea:(⟨(List.replicate j.toNat a.cps.toList).flatten.toArray⟩:Str)=a:=by
     refine Str.ext' (Array.toList_inj.mp ?_)
     simp at c2
     rcases c2 with c2 | c2
     ·subst c2;simp
     ·have:a.cps.toList=[]:=List.length_eq_zero_iff.mp (by simpa [Str.length]using c2)
      simp[this]
    rw[ea]at q
    exact q
   ·rw[if_neg c2]
    have ea:(List.replicate j.toNat a.cps).foldl (· ++ ·) #[]=(List.replicate j.toNat a.cps.toList).flatten.toArray:=by
     rw[zg];simp
    rw[ea]
    refine⟨?_,.str _,H,I.tok _,⟨_,rfl⟩,q⟩
    show(List.replicate j.toNat a.cps.toList).flatten.toArray.size≤_
    rw[List.size_toArray,List.length_flatten,List.map_replicate,List.sum_replicate_nat,sizeLine_eq]
    have h3:a.cps.toList.length=a.length:=rfl
    rw[h3,Nat.mul_comm]
    omega
end
end Vw
namespace Vw
open PySem L2 PyProof.Rows
section
variable{C:Cst}{X:Cx}
theorem uC{f:RV→RV→State→Res RV}{c:Int→Int→Prop}{g:Int→Int→Int}
  (h:∀ x y s,(∃ i j,dv s x=some (.int i)∧dv s y=some (.int j)∧c i j∧f x y s=bp (.int (g i j)) s)∨f x y s=.stuck):xg C f (rI c fun i j=>.int (g i j)):=by
 intro Z loc s sv H x y u v Q r hx hy q
 rcases h x y s with⟨i,j,e1,e2,hc,e⟩ | e
 ·rw[e]at q
  exact⟨i,j,r.dv hx e1,r.dv hy e2,hc,q.bp r rfl⟩
 ·rw[e]at q
  exact q.elim
theorem IX(op:Bop):∃ r,OpR X (binaryOp op.py) r∧xg C (binop op) r:=by
 cases op with
 | add=>exact⟨_,Mb,HF⟩
 | sub=>exact⟨_,opI (C:=fun _ _=>True) fun _ _ _ _ _ _ _ _ q=>sub_int q,uC fun x y s=>by
   show(_∨(match dv s x,dv s y with | some (.int i),some (.int j)=>_ | _,_=>_)=Res.stuck)
   split
   ·rename_i i j e1 e2;exact .inl ⟨i,j,e1,e2,trivial,by unfold binop;simp only[e1,e2]⟩
   ·exact .inr rfl⟩
 | mul=>
  refine⟨_,op_mulW.or Ke,?_⟩
  intro Z loc s sv H x y u v Q r hx hy q
  unfold binop yu at q
  dsimp only at q
  split at q
  ·rename_i i j e1 e2
   split at q
   ·rename_i hc
    exact .inl ⟨i,j,r.dv hx e1,r.dv hy e2,hc,q.bp r rfl⟩
   ·exact q.elim
  ·rename_i a j e1 e2
   split at q
   ·rename_i hc
    refine .inr ⟨⟨a.toArray⟩,j,r.dv hx e1,r.dv hy e2,hc.1,hc.2.1,by simpa [Str.length]using hc.2.2,q.bp r ?_⟩
    show V.str _=V.str _
    simp
   ·exact q.elim
  ·exact q.elim
 | fdiv=>exact⟨_,op_fdivW,uC fun x y s=>by
   show(_∨(match dv s x,dv s y with | some (.int i),some (.int j)=>_ | _,_=>_)=Res.stuck)
   split
   ·rename_i i j e1 e2
    by_cases hc:0<j∧j.natAbs.log2<9000
    ·exact .inl ⟨i,j,e1,e2,hc,by unfold binop;simp only[e1,e2,if_pos hc]⟩
    ·exact .inr (if_neg hc)
   ·exact .inr rfl⟩
 | mod=>exact⟨_,op_mod,uC fun x y s=>by
   show(_∨(match dv s x,dv s y with | some (.int i),some (.int j)=>_ | _,_=>_)=Res.stuck)
   split
   ·rename_i i j e1 e2
    by_cases hc:0<j
    ·exact .inl ⟨i,j,e1,e2,hc,by unfold binop;simp only[e1,e2,if_pos hc]⟩
    ·exact .inr (if_neg hc)
   ·exact .inr rfl⟩
 | pow=>exact⟨_,op_pow,uC fun x y s=>by
   show(_∨(match dv s x,dv s y with | some (.int i),some (.int j)=>_ | _,_=>_)=Res.stuck)
   split
   ·rename_i i j e1 e2
    by_cases hc:0≤j∧j≤1000000∧i.natAbs<2^64
    ·exact .inl ⟨i,j,e1,e2,hc,by unfold binop;simp only[e1,e2,if_pos hc]⟩
    ·exact .inr (if_neg hc)
   ·exact .inr rfl⟩
end
section
variable{C:Cst}{Z:Hp}{loc:List Addr}{s:State}{sv:L2.St}{H:Hp}
theorem DB{d:D}{k:K0}{v:V}(e:BF d=some k)(h:ej C.cA Z d v):v=kV (kz k):=by
 cases d<;> simp[BF]at e
 ·subst e;exact h
 ·subst e;exact h
theorem Bw:∀ {l:List D} {ks:List K0} {vs:List V},Bt l=some ks→gV C.cA Z l vs→vs=(ks.map kz).map kV
 | [],ks,vs,e,h=>by cases e;rw[show vs=_ from h];rfl
 | d::l,ks,vs,e,⟨v,r,e1,q,t⟩=>by
  unfold Bt at e
  split at e
  ·rename_i k ks' e2 e3
   cases e
   rw[e1,DB e2 q,Bw e3 t]
   rfl
  ·cases e
def AZ(C:Cst)(Z:Hp)(loc:List Addr):Option Val→Option V→Prop
 | some x,some v=>cy C.cA Z loc x v
 | none,none=>True
 | _,_=>False
theorem zy{κ α:Type}[DecidableEq κ](k':κ)(x:α)(l:List (κ×α))(k:κ):nG ((k',x)::l) k=if k'=k then some x else nG l k:=by
 unfold nG
 by_cases e:k'=k<;> simp[List.find?_cons,e]
theorem zk:∀ {l:List (K0×Val)} {ws:List (Key×V)} (k:K0),fk C.cA Z loc l ws→AZ C Z loc (nG l k) (valV ws (kz k))
 | [],ws,k,h=>by rw[show ws=_ from h];exact trivial
 | (k',x)::l,ws,k,⟨v,r,e,q,t⟩=>by
  rw[e,zy]
  by_cases hk:k'=k
  ·rw[if_pos hk,valV_pos (by rw[hk])];exact q
  ·rw[if_neg hk,valV_neg (fun z=>hk (uq z))];exact zk k t
theorem n8:∀ {a b:List K0},a.map kz=b.map kz→a=b
 | [],[],_=>rfl
 | [],_::_,h=>by simp at h
 | _::_,[],h=>by simp at h
 | x::a,y::b,h=>by
  simp only[List.map_cons,List.cons.injEq]at h
  rw[uq h.1,n8 h.2]
theorem zp:∀ {l:List (List K0×Val)} {ws:List (List Key×V)} (k:List K0),fL C.cA Z loc l ws→AZ C Z loc (nG l k) (valV ws (k.map kz))
 | [],ws,k,h=>by rw[show ws=_ from h];exact trivial
 | (k',x)::l,ws,k,⟨v,r,e,q,t⟩=>by
  rw[e,zy]
  by_cases hk:k'=k
  ·rw[if_pos hk,valV_pos (by rw[hk])];exact q
  ·rw[if_neg hk,valV_neg (fun z=>hk (n8 z))];exact zp k t
theorem ze.rd{H:Hp}{a:Addr}{u:HO}:∀ {k:Bool},ze H a u k→Rd H a u
 | false,q=>.inl q
 | true,q=>.inr q
theorem SR.p4(r:SR C Z loc s sv H){rv:RV}{v:V}{l:List (K0×Val)}(h:cw C Z loc s sv H rv v)(e:p4 s rv=some l):∃ a ws,v=.ref a∧Rd H a (.dK ws)∧fk C.cA Z loc l ws:=by
 unfold Vw.p4 at e
 split at e
 ·rename_i l' e1
  cases e
  obtain⟨a,ws,h1,h2,h3⟩:=r.dv h e1
  exact⟨a,ws,h1,(r.zh a _ h2).rd,rS.mpr h3⟩
 ·cases e
 ·split at e
  ·rename_i k l' e1
   cases e
   obtain⟨a,h1,_,ws,h2,h3⟩:=r.ob h e1
   exact⟨a,ws,h1,h2.rd,h3⟩
  ·cases e
theorem SR.vM(r:SR C Z loc s sv H){rv:RV}{v:V}{l:List (List K0×Val)}(h:cw C Z loc s sv H rv v)(e:vM s rv=some l):∃ a ws,v=.ref a∧Rd H a (.dT ws)∧fL C.cA Z loc l ws:=by
 unfold Vw.vM at e
 split at e
 ·rename_i l' e1
  cases e
  obtain⟨a,ws,h1,h2,h3⟩:=r.dv h e1
  exact⟨a,ws,h1,(r.zh a _ h2).rd,rm.mpr h3⟩
 ·cases e
 ·split at e
  ·rename_i k l' e1
   cases e
   obtain⟨a,h1,_,ws,h2,h3⟩:=r.ob h e1
   exact⟨a,ws,h1,h2.rd,h3⟩
  ·cases e
theorem SR.lj(r:SR C Z loc s sv H){x k:RV}{u v:V}{o:Option Val}(hx:cw C Z loc s sv H x u)(hk:cw C Z loc s sv H k v)(e:lj s x k=some o):
  ∃ a w,u=.ref a∧DGet H a v w∧AZ C Z loc o w:=by
 unfold Vw.lj at e
 split at e
 ·rename_i l d e1 e2
  obtain⟨k0,e3,rfl⟩:=Option.map_eq_some_iff.mp e
  obtain⟨a,ws,h1,h2,h3⟩:=r.p4 hx e1
  exact⟨a,_,h1,.inl ⟨ws,kz k0,h2,DB e3 (r.dv hk e2),rfl⟩,zk k0 h3⟩
 ·split at e
  ·rename_i l ks e1 e2
   obtain⟨k0,e3,rfl⟩:=Option.map_eq_some_iff.mp e
   obtain⟨a,ws,h1,h2,h3⟩:=r.vM hx e1
   obtain⟨b,vs,h4,h5,h6⟩:=r.dv hk e2
   refine⟨a,_,h1,.inr ⟨ws,k0.map kz,b,h2,h4,?_,rfl⟩,zp k0 h3⟩
   rw[←Bw e3 h6]
   exact(r.zh b _ h5).at rfl
  ·cases e
theorem AZ.isSome{o:Option Val}{w:Option V}(h:AZ C Z loc o w):o.isSome=w.isSome:=by
 cases o<;> cases w<;> first | rfl | exact h.elim
end
section
variable{C:Cst}{X:Cx}
theorem DO{op:CmpOp}{f:Int→Int→Bool}{g:List Nat→List Nat→Bool}
  (h1:OpR X (compareOp op) (rI0 fun i j=>.bl (f i j))) (h2:OpR X (compareOp op) (fun x y H Q=>∃ i j:Str,x=.str i∧y=.str j∧Q (.bl (g i.cps.toList j.cps.toList)) H)):
  ∃ r,OpR X (compareOp op) r∧JA C (fun s x y=>yt s x y f g) r:=by
 refine⟨_,h1.or h2,?_⟩
 intro Z loc s sv H x y u v b Q r hx hy e q
 unfold yt at e
 dsimp only at e
 split at e
 ·rename_i i j e1 e2
  cases e
  exact .inl ⟨i,j,r.dv hx e1,r.dv hy e2,q⟩
 ·rename_i i j e1 e2
  cases e
  exact .inr ⟨⟨i.toArray⟩,⟨j.toArray⟩,r.dv hx e1,r.dv hy e2,by simpa using q⟩
 ·cases e
theorem Nd(n:Bool){Z:Hp}{loc:List Addr}{s:State}{sv:L2.St}{H:Hp}{x y:RV}{u v:V}{b:Bool}{Q:VK}(r:SR C Z loc s sv H)(hx:cw C Z loc s sv H x u)(hy:cw C Z loc s sv H y v)(e:xB s x y=some b)
  (q:Q (.bl (xor n b)) H):Km X.K n u v H Q:=by
 unfold xB at e
 split at e
 ·rename_i d d' e1 e2
  split at e
  ·rename_i hc
   cases e
   simp only[gp,Bool.and_eq_true,decide_eq_true_eq]at hc
   exact⟨pd d,pd d',r.mw hx e1 hc.1.1,r.mw hy e2 hc.1.2,hc.1.1,hc.1.2,hc.2,q⟩
  ·cases e
 ·cases e
theorem yR(d:D):∀ l:List D,(gX l).any (fun y=>PyData.eqv y (pd d))=l.any fun y=>lX y d
 | []=>rfl
 | x::l=>by
  show(_||_)=(_||_)
  rw[yR d l]
  rfl
theorem MT(n:Bool){Z:Hp}{loc:List Addr}{s:State}{sv:L2.St}{H:Hp}{x y:RV}{u v:V}{b:Bool}(r:SR C Z loc s sv H)(hx:cw C Z loc s sv H x u)(hy:cw C Z loc s sv H y v)(e:zi s x y=some b):
  v=.non∧decide (u=.non)=b:=by
 unfold zi at e
 split at e
 ·rename_i e1
  refine⟨r.dv hy e1,?_⟩
  split at e
  ·rename_i e2
   cases e
   exact decide_eq_true (r.dv hx e2)
  ·rename_i d ne e2
   cases e
   refine decide_eq_false fun z=>?_
   have q:=r.dv hx e2
   subst z
   cases d with
   | non=>exact ne rfl
   | bl _=>cases q
   | int _=>cases q
   | str _=>cases q
   | tup l=>obtain⟨_,_,h,_⟩:=q;cases h
   | lst l=>obtain⟨_,_,h,_⟩:=q;cases h
   | dic l=>obtain⟨_,_,h,_⟩:=q;cases h
   | dit l=>obtain⟨_,_,h,_⟩:=q;cases h
   | ins c l=>obtain⟨_,_,_,h,_⟩:=q;cases h
   | exc c l=>obtain⟨_,_,_,h,_⟩:=q;cases h
  ·split at e
   ·rename_i o e2
    cases e
    obtain⟨a,h,_⟩:=r.ob hx e2
    rw[h];rfl
   ·obtain⟨l,e2,e3⟩:=Option.map_eq_some_iff.mp e
    obtain⟨a,xs,h,_⟩:=r.tv hx e2
    rw[h,←e3];rfl
 ·cases e
theorem MW(n:Bool){Z:Hp}{loc:List Addr}{s:State}{sv:L2.St}{H:Hp}{x y:RV}{u v:V}{b:Bool}{Q:VK}(r:SR C Z loc s sv H)(hx:cw C Z loc s sv H x u)(hy:cw C Z loc s sv H y v)(e:inD s x y=some b)
  (q:Q (.bl (xor n b)) H):F8 n u v H Q∨((∃ i j,u=.str i∧v=.str j∧Q (.bl (xor n (!(Builtin.Str.occurrences j i 0 j.length 1).isEmpty))) H)∨rIn X.K n u v H Q):=by
 unfold inD at e
 split at e
 ·rename_i o e1
  cases e
  obtain⟨a,w,h1,h2,h3⟩:=r.lj hy hx e1
  exact .inl ⟨a,w,h1,h2,by rw[←h3.isSome];exact q⟩
 ·split at e
  ·rename_i i j e1 e2
   cases e
   exact .inr (.inl ⟨⟨i.toArray⟩,⟨j.toArray⟩,r.dv hx e1,r.dv hy e2,by simpa [subIn,st,Str.length]using q⟩)
  ·split at e
   ·rename_i d l e1 e2
    split at e
    ·rename_i hc
     cases e
     simp only[Bool.and_eq_true,decide_eq_true_eq]at hc
     refine .inr (.inr ⟨pd d,gX l,r.mw hx e1 hc.1.1,.inl (r.mw hy e2 hc.1.2),hc.1.1,hc.1.2,hc.2,?_⟩)
     rw[yR];exact q
    ·cases e
   ·rename_i d l e1 e2
    split at e
    ·rename_i hc
     cases e
     simp only[Bool.and_eq_true,decide_eq_true_eq]at hc
     refine .inr (.inr ⟨pd d,gX l,r.mw hx e1 hc.1.1,.inr (r.mw hy e2 hc.1.2),hc.1.1,hc.1.2,hc.2,?_⟩)
     rw[yR];exact q
    ·cases e
   ·cases e
theorem xq(hu:X.A.units+64<cLine)(op:Cop):∃ r,OpR X (compareOp op.py) r∧JA C (i0 op) r:=by
 cases op with
 | eq=>exact⟨_,Og hu,fun Z loc s sv H x y u v b Q r hx hy e q=>Nd false r hx hy e (by simpa using q)⟩
 | ne=>exact⟨_,Ot hu,fun Z loc s sv H x y u v b Q r hx hy e q=>by
   obtain⟨b',e1,rfl⟩:=Option.map_eq_some_iff.mp e
   exact Nd true r hx hy e1 (by simpa using q)⟩
 | lt=>exact DO op_lt op_lt_str
 | le=>exact DO op_le op_le_str
 | gt=>exact DO op_gt op_gt_str
 | ge=>exact DO op_ge op_ge_str
 | is=>exact⟨_,op_isN,fun Z loc s sv H x y u v b Q r hx hy e q=>by
   obtain⟨h1,h2⟩:=MT false r hx hy e
   exact⟨h1,by rw[h2];exact q⟩⟩
 | isn=>exact⟨_,op_notN,fun Z loc s sv H x y u v b Q r hx hy e q=>by
   obtain⟨b',e1,rfl⟩:=Option.map_eq_some_iff.mp e
   obtain⟨h1,h2⟩:=MT false r hx hy e1
   exact⟨h1,by rw[h2];exact q⟩⟩
 | isin=>exact⟨_,(Lx hu).or (op_in_str.or (N9 hu)),fun Z loc s sv H x y u v b Q r hx hy e q=>by
   rcases MW (X:=X) false r hx hy e (by simpa using q)with h | ⟨i,j,h1,h2,h3⟩ | h
   ·exact .inl h
   ·exact .inr (.inl ⟨i,j,h1,h2,by simpa using h3⟩)
   ·exact .inr (.inr h)⟩
 | notin=>exact⟨_,(Kh hu).or (L2.op_notin_str.or (LF hu)),fun Z loc s sv H x y u v b Q r hx hy e q=>by
   obtain⟨b',e1,rfl⟩:=Option.map_eq_some_iff.mp e
   rcases MW (X:=X) true r hx hy e1 (by simpa using q)with h | ⟨i,j,h1,h2,h3⟩ | h
   ·exact .inl h
   ·exact .inr (.inl ⟨i,j,h1,h2,by simpa using h3⟩)
   ·exact .inr (.inr h)⟩
end
end Vw
namespace Vw
open PySem L2 PyProof.Rows
def notStar:Expr→Bool
 | .Starred .. =>false
 | _=>true
def Dh:Expr→Bool
 | .Call (.Name x _) [] [] _=>x != "super"
 | _=>true
theorem b5{e:Expr}{es:List Expr}{env:Env}(h:notStar e=true):starEach (e::es) env=(false,eval e env)::starEach es env:=by
 cases e<;> first | rfl | cases h
theorem i5{pos:Pos}{env:Env}:∀ {es:List Expr},es.all notStar=true→(backTo pos (starEach es env)).any (·.1)=false
 | [],_=>rfl
 | e::es,h=>by
  simp only[List.all_cons,Bool.and_eq_true]at h
  rw[b5 h.1]
  show(false||_)=false
  rw[Bool.false_or]
  exact i5 h.2
theorem AS{pos:Pos}{env:Env}:∀ {es:List Expr},es.all notStar=true→(backTo pos (starEach es env)).all (fun x=> !x.1)=true
 | [],_=>rfl
 | e::es,h=>by
  simp only[List.all_cons,Bool.and_eq_true]at h
  rw[b5 h.1]
  show(true&&_)=true
  rw[Bool.true_and]
  exact AS h.2
theorem Ji{pos:Pos}{env:Env}{es:List Expr}(h:es.all notStar=true)(hl:es.length<20):
  ((backTo pos (starEach es env)).all (fun x=> !x.1)&&(backToKw pos (keywordEach [] env)).all (fun x=>x.1.isSome)
   &&decide (es.length+([]:List Keyword).length+(if([]:List Keyword).isEmpty then 0 else 1)<30))=true:=by
 rw[AS h]
 show(true&&true&&decide (es.length+0+0<30))=true
 simp
 omega
theorem GZ{o:Expr}{a:Str}{env:Env}{w:Sem Value}(h:Dh o=true):attributeBase o a env w=w:=by
 unfold attributeBase
 split
 ·rename_i x p q
  have hx:(x != "super")=true:=by
   unfold Dh at h
   exact h
  simp[hx]
 ·rfl
def zj:Expr→Bool
 | .UnaryOp .Not _ _=>false
 | .BoolOp .. =>false
 | .IfExp .. =>false
 | .Compare .. =>false
 | _=>true
theorem KG{e:Expr}{env:Env}(h:zj e=true):∀ whole,isTrue e env whole=(do let v ←whole;standAt e.pos;holding [v] (truthy v)):=by
 intro w
 cases e<;> first | rfl | cases h | skip
 rename_i op x p
 cases op<;> first | rfl | cases h
def de:Expr→Bool
 | .Set .. =>false
 | _=>true
theorem vV{op:CmpOp}{e:Expr}(h:de e=true):behindInMarks op e=false:=by
 cases e<;> first | rfl | cases h
theorem fold_ok{e:Expr}{env:Env}(h:de e=true):∀ x,foldedSetIterable e env x=pure x:=by
 intro x
 cases e<;> first | rfl | cases h
def ki:Expr→Bool
 | .ListComp .. =>false
 | .SetComp .. =>false
 | .DictComp .. =>false
 | _=>true
theorem uD{e:Expr}{t:Option Expr}{n:Nat}{env:Env}(h:ki e=true):swapsWith e t n env=pure false:=by
 cases e<;> first | rfl | cases h
def pj:Expr→Bool
 | .Slice .. =>false
 | _=>true
theorem Dg{e:Expr}(h:pj e=true):PlainIx e:=by
 intro o i
 cases e<;> first | rfl | cases h
def ab(i:Nat)(s:State):Res RV:=
 match s.sg[i]? with
 | some (some (.v x))=>.ok (.val x) s
 | some (some (.own _))=>.ok (.own i) s
 | _=>.stuck
def fD(d:D)(s:State):Res RV:=bp d s
def ev(f:State→Res RV)(s:State):Res RV:=(f s).bind settle
def ah(fa fb:State→Res RV)(k:RV→RV→State→Res RV)(s:State):Res RV:=(ev fa s).bind fun x s=>(ev fb s).bind fun y s=>k x y s
def aG(op:Cop)(x y:RV)(s:State):Res RV:=
 match i0 op s x y with
 | some b=>bp (.bl b) s
 | none=>.stuck
def zC(r:RV)(s:State):Res Bool:=
 match dv s r with
 | some (.bl b)=>.ok b s
 | _=>.stuck
def aW(f:State→Res RV)(s:State):Res Bool:=(ev f s).bind zC
def aE:List (State→Res RV)→State→Res (List RV)
 | [],s=>.ok [] s
 | f::r,s=>(ev f s).bind fun x s=>(aE r s).bind fun xs s=>.ok (x::xs) s
def bE:List RV→State→Res (List Val)
 | [],s=>.ok [] s
 | r::rs,s=>(d8 r s).bind fun x s=>(bE rs s).bind fun xs s=>.ok (x::xs) s
def pL(l:List Val):Val:=
 match toDs l with
 | some ds=>.d (.tup ds)
 | none=>.tp l
def Bq(rs:List RV)(s:State):Res RV:=(bE rs s).bind fun l s=>if l.length≤sizeLine then .ok (.val (pL l)) s else .stuck
def Bc(rs:List RV)(s:State):Res RV:=(bE rs s).bind fun l s=>if l.length≤sizeLine then .ok (.new (.lst l)) s else .stuck
def Bl(x:RV)(s:State):Res RV:=
 match dv s x with
 | some (.int i)=>bp (.int (-i)) s
 | _=>.stuck
def iL:List (State→Res Bool)→State→Res Bool
 | [],s=>.ok true s
 | [f],s=>f s
 | f::r,s=>(f s).bind fun b s=>if b=true then iL r s else .ok false s
def jy:List (State→Res Bool)→State→Res Bool
 | [],s=>.ok false s
 | [f],s=>f s
 | f::r,s=>(f s).bind fun b s=>if b=true then .ok true s else jy r s
def si(f:State→Res Bool)(s:State):Res Bool:=(f s).bind fun b s=>.ok (!b) s
def gU:List (State→Res RV)→State→Res RV
 | [],s=>.stuck
 | [f],s=>ev f s
 | f::r,s=>(aW f s).bind fun b s=>if b=true then gU r s else bp (.bl false) s
def k9:List (State→Res RV)→State→Res RV
 | [],s=>.stuck
 | [f],s=>ev f s
 | f::r,s=>(aW f s).bind fun b s=>if b=true then bp (.bl true) s else k9 r s
theorem Res.bind_assoc{α β γ:Type}(r:Res α)(f:α→State→Res β)(g:β→State→Res γ):(r.bind f).bind g=r.bind fun a s=>(f a s).bind g:=by
 cases r<;> rfl
section
variable{C:Cst}{Z Z':Hp}{loc loc':List Addr}{s s':State}{sv:L2.St}{H:Hp}
theorem aB.D6{f:State→Res RV}{α:Type}{k:RV→State→Res α}{PO:Hp→List Addr→Res α→Prop}{Q:VK}
  (r:SR C Z loc s sv H) (h:PO Z loc ((ev f s).bind k)) (ext:∀ Z' loc' t,Ext Z loc Z' loc'→PO Z loc t→PO Z' loc' t)
  (hx:∀ x s',PO Z loc (.exc x s')→∀ Z' loc' H' c d,Ext Z loc Z' loc'→SR C Z' loc' s' sv H'→lW C Z' H' x c d→C.W c d sv H') (hs:¬ PO Z loc .stuck)
  (hq:∀ v H',(∃ Z' loc' s' rv,Ext Z loc Z' loc'∧SR C Z' loc' s' sv H'∧xR rv∧cw C Z' loc' s' sv H' rv v∧PO Z' loc' (k rv s'))→Q v H'):aB C f sv H Q:=by
 refine⟨Z,loc,s,r,?_⟩
 unfold ev at h
 cases e:f s with
 | stuck=>rw[e]at h;exact(hs h).elim
 | exc x s'=>rw[e]at h;exact hx x s' h
 | ok rv s'=>
  rw[e]at h
  intro Z1 l1 H1 v g r1 q
  simp only[Res.aa]at h
  cases e2:settle rv s' with
  | stuck=>rw[e2]at h;exact(hs h).elim
  | exc x s2=>exact absurd e2 zA
  | ok rv' s2=>
   rw[e2]at h
   obtain⟨rfl,st,Z2,g2,r2,q2⟩:=r1.settle q e2
   exact hq v H1 ⟨Z2,l1,s2,rv',g.trans g2,r2,st,q2,ext _ _ _ (g.trans g2) h⟩
theorem aB.nT{f:State→Res RV}{k:RV→State→Res RV}{Q:VK}(r:SR C Z loc s sv H)(h:EPost C Z loc sv ((ev f s).bind k) Q):
  aB C f sv H (fun v H'=>∃ Z' loc' s' rv,Ext Z loc Z' loc'∧SR C Z' loc' s' sv H'∧xR rv∧cw C Z' loc' s' sv H' rv v∧EPost C Z' loc' sv (k rv s') Q):=
 aB.D6 (PO:=fun Z loc t=>EPost C Z loc sv t Q) r h (fun _ _ _ g q=>q.ext g) (fun _ _ q=>q) (fun q=>q) fun _ _ q=>q
theorem aB.NX{f:State→Res RV}{k:RV→State→Res (List RV)}{Q:List V→Hp→Prop}(r:SR C Z loc s sv H)(h:rD C Z loc sv ((ev f s).bind k) Q):
  aB C f sv H (fun v H'=>∃ Z' loc' s' rv,Ext Z loc Z' loc'∧SR C Z' loc' s' sv H'∧xR rv∧cw C Z' loc' s' sv H' rv v∧rD C Z' loc' sv (k rv s') Q):=
 aB.D6 (PO:=fun Z loc t=>rD C Z loc sv t Q) r h (fun _ _ _ g q=>q.ext g) (fun _ _ q=>q) (fun q=>q) fun _ _ q=>q
theorem aB.NU{f:State→Res RV}{k:RV→State→Res Bool}{Q:Bool→Hp→Prop}(r:SR C Z loc s sv H)(h:iW C Z loc sv ((ev f s).bind k) Q):
  aB C f sv H (fun v H'=>∃ Z' loc' s' rv,Ext Z loc Z' loc'∧SR C Z' loc' s' sv H'∧xR rv∧cw C Z' loc' s' sv H' rv v∧iW C Z' loc' sv (k rv s') Q):=
 aB.D6 (PO:=fun Z loc t=>iW C Z loc sv t Q) r h (fun _ _ _ g q=>q.ext g) (fun _ _ q=>q) (fun q=>q) fun _ _ q=>q
theorem aB.zu{f:State→Res RV}{k:RV→State→Res Fl}{D:Ends}(r:SR C Z loc s sv H)(h:cx C Z loc ((ev f s).bind k) D):
  aB C f sv H (fun v H'=>∃ Z' loc' s' rv,Ext Z loc Z' loc'∧SR C Z' loc' s' sv H'∧xR rv∧cw C Z' loc' s' sv H' rv v∧cx C Z' loc' (k rv s') D):=
 aB.D6 (PO:=fun Z loc t=>cx C Z loc t D) r h (fun _ _ _ g q=>q.ext g) (fun _ _ q Z' loc' H' c d=>q Z' loc' sv H' c d) (fun q=>q) fun _ _ q=>q
variable{X:Cx}{e a b c:Expr}{es:List Expr}{pos:Pos}{f fa fb fc:State→Res RV}{ft:State→Res Bool}
theorem v_var{i:Nat}{x:Str}(hN:X.N[i]? =some x)(hv:Vis X.env.scope x)(hd:(x==("__debug__":Str))=false)(hcd:(x==("__classdict__":Str))=false):PE X (.Name x pos) (aB C (ab i)):=by
 refine cf (pe_var hN hv hd hcd) fun sv H Q ⟨Z,loc,s,r,h⟩=>?_
 unfold ab at h
 split at h
 ·rename_i y e
  obtain⟨v,h1,h2⟩:=r.vl i y e
  exact⟨v,h1,h.val r h2⟩
 ·rename_i o e
  obtain⟨a,h1,_⟩:=r.ow i o e
  exact⟨_,h1,h Z loc H _ (Ext.refl _ _) r h1⟩
 ·exact h.elim
theorem qQ{d:D}{v:V}(he:PE X e (tC v))(hd:∀ Z,ej C.cA Z d v):PE X e (aB C (fD d)):=
 cf he fun sv H Q ⟨Z,loc,s,r,h⟩=>EPost.bp h r (hd Z)
theorem xr{r:R2}{g:RV→RV→State→Res RV}(hs:xg C g r){Q:VK}(h:aB C (ah fa fb g) sv H Q):tOp r (aB C fa) (aB C fb) sv H Q:=by
 obtain⟨Z,loc,s,r0,h⟩:=h
 refine(aB.nT r0 h).imp fun u H1 ⟨Z1,l1,s1,x,g1,r1,st1,q1,h1⟩=>?_
 refine(aB.nT r1 h1).imp fun v H2 ⟨Z2,l2,s2,y,g2,r2,st2,q2,h2⟩=>?_
 exact hs Z2 l2 s2 sv H2 x y u v Q r2 (q1.mono g2 st1) q2 h2
theorem uR(op:Bop)(ha:PE X a (aB C fa))(hb:PE X b (aB C fb)):PE X (.BinOp a op.py b pos) (aB C (ah fa fb (binop op))):=by
 obtain⟨r,ho,hs⟩:=IX (C:=C) (X:=X) op
 exact cf (pe_op ho ha hb) fun sv H Q h=>xr hs h
theorem Dx{op:Cop}{r:R2}(hs:JA C (i0 op) r):xg C (aG op) r:=by
 intro Z loc s sv H x y u v Q r0 hx hy h
 unfold aG at h
 split at h
 ·rename_i b e
  exact hs Z loc s sv H x y u v b Q r0 hx hy e (h.bp r0 rfl)
 ·exact h.elim
theorem xV(hu:X.A.units+64<cLine)(op:Cop)(ha:PE X a (aB C fa))(hb:PE X b (aB C fb))(hm:de b=true):PE X (.Compare a [op.py] [b] pos) (aB C (ah fa fb (aG op))):=by
 obtain⟨r,ho,hs⟩:=xq (C:=C) hu op
 exact cf (pe_cmpR ho ha hb (vV hm)) fun sv H Q h=>xr (Dx hs) h
theorem toB{f:State→Res RV}{Q:Bool→Hp→Prop}(h:gD C (aW f) sv H Q):aB C f sv H (fun x H'=>∃ k,x=.bl k∧Q k H'):=by
 obtain⟨Z,loc,s,r0,h⟩:=h
 refine(aB.NU r0 h).imp fun u H1 ⟨Z1,l1,s1,x,g1,r1,st1,q1,h1⟩=>?_
 unfold zC at h1
 split at h1
 ·rename_i b e
  exact⟨b,r1.dv q1 e,h1 Z1 l1 H1 (Ext.refl _ _) r1⟩
 ·exact h1.elim
theorem iJ(h:PE X e (aB C f))(he:zj e=true):PT X e (gD C (aW f)):=
 yN (pt_val h (KG he)) fun sv H Q q=>toB q
theorem lJ(hu:X.A.units+64<cLine)(op:Cop)(ha:PE X a (aB C fa))(hb:PE X b (aB C fb))(hm:de b=true):PT X (.Compare a [op.py] [b] pos) (gD C (aW (ah fa fb (aG op)))):=by
 obtain⟨r,ho,hs⟩:=xq (C:=C) hu op
 exact yN (pt_cmpR ho ha hb (vV hm)) fun sv H Q q=>xr (Dx hs) (toB q)
def D2(fa fb fc:State→Res RV)(g g':RV→RV→State→Res RV)(s:State):Res RV:=
 (ev fa s).bind fun x s=>(ev fb s).bind fun y s=>(g x y s).bind fun z s=>(zC z s).bind fun k s=>if k=true then(ev fc s).bind fun w s=>g' y w s else bp (.bl false) s
def Ho(C:Cst)(f:RV→RV→State→Res RV):Prop:=∀ x y s,(∃ b,f x y s=bp (.bl b) s)∨f x y s=.stuck
theorem NV{op:Cop}:Ho C (aG op):=by
 intro x y s
 unfold aG
 split
 ·exact .inl ⟨_,rfl⟩
 ·exact .inr rfl
theorem LC{r r':R2}{g g':RV→RV→State→Res RV}(hs:xg C g r)(hs':xg C g' r')(hb:Ho C g){Q:VK}(h:aB C (D2 fa fb fc g g') sv H Q):tChain r r' (aB C fa) (aB C fb) (aB C fc) sv H Q:=by
 obtain⟨Z,loc,s,r0,h⟩:=h
 refine(aB.nT r0 h).imp fun u H1 ⟨Z1,l1,s1,x,g1,r1,st1,q1,h1⟩=>?_
 refine(aB.nT r1 h1).imp fun v H2 ⟨Z2,l2,s2,y,g2,r2,st2,q2,h2⟩=>?_
 have q1':=q1.mono (s':=s2) (H':=H2) g2 st1
 rcases hb x y s2 with⟨k,e⟩ | e
 ·rw[e]at h2
  refine hs Z2 l2 s2 sv H2 x y u v _ r2 q1' q2 ?_
  rw[e]
  intro Z3 l3 H3 z g3 r3 q3
  refine⟨k,q3,?_⟩
  simp only[bp,Res.aa,zC,dv,mz]at h2
  cases k with
  | true=>
   rw[if_pos rfl]at h2 ⊢
   refine(aB.nT r3 (h2.ext g3)).imp fun w H4 ⟨Z4,l4,s4,z',g4,r4,st4,q4,h4⟩=>?_
   exact hs' Z4 l4 s4 sv H4 y z' v w Q r4 (q2.mono (g3.trans g4) st2) q4 h4
  | false=>
   rw[if_neg Bool.false_ne_true]at h2 ⊢
   exact EPost.bp (h2.ext g3) r3 rfl
 ·rw[e]at h2
  exact h2.elim
theorem IJ{op op':Cop}(hm:de c=true):lastMarks [op.py,op'.py] [b,c]=false:=vV hm
theorem HD(hu:X.A.units+64<cLine)(op op':Cop)(ha:PE X a (aB C fa))(hb:PE X b (aB C fb))(hc:PE X c (aB C fc))(hm:de c=true):PE X (.Compare a [op.py,op'.py] [b,c] pos) (aB C (D2 fa fb fc (aG op) (aG op'))):=by
 obtain⟨r,ho,hs⟩:=xq (C:=C) hu op
 obtain⟨r',ho',hs'⟩:=xq (C:=C) hu op'
 exact cf (pe_chain ho ho' ha hb hc (IJ hm)) fun sv H Q h=>LC (Dx hs) (Dx hs') (NV (C:=C)) h
theorem m7(h:PT X e (gD C ft)):PW X (.BoolOp .And [e] pos) (gD C (iL [ft])):=pw_and1 h
theorem kP(h:PT X e (gD C ft)):PW X (.BoolOp .Or [e] pos) (gD C (jy [ft])):=pw_or1 h
theorem v_and{ft2:State→Res Bool}{fr:List (State→Res Bool)}(h:PT X e (gD C ft))(h2:PW X (.BoolOp .And (a::es) pos) (gD C (iL (ft2::fr)))):PW X (.BoolOp .And (e::a::es) pos) (gD C (iL (ft::ft2::fr))):=by
 refine⟨fun wh pins t sv H Q I q=>(pw_and h h2).run wh pins t sv H Q I ?_⟩
 obtain⟨Z,loc,s,r0,q⟩:=q
 refine⟨Z,loc,s,r0,?_⟩
 show iW C Z loc sv (ft s) _
 have q:iW C Z loc sv ((ft s).bind fun b s=>if b=true then iL (ft2::fr) s else .ok false s) Q:=q
 cases e:ft s with
 | stuck=>rw[e]at q;exact q
 | exc x s'=>rw[e]at q;exact q
 | ok b s'=>
  rw[e]at q
  intro Z1 l1 H1 g1 r1
  cases b with
  | true=>exact⟨Z1,l1,s',r1,iW.ext q g1⟩
  | false=>exact iW.ext (show iW C Z loc sv (.ok false s') Q from q) g1 Z1 l1 H1 (Ext.refl _ _) r1
theorem v_or{ft2:State→Res Bool}{fr:List (State→Res Bool)}(h:PT X e (gD C ft))(h2:PW X (.BoolOp .Or (a::es) pos) (gD C (jy (ft2::fr)))):PW X (.BoolOp .Or (e::a::es) pos) (gD C (jy (ft::ft2::fr))):=by
 refine⟨fun wh pins t sv H Q I q=>(pw_or h h2).run wh pins t sv H Q I ?_⟩
 obtain⟨Z,loc,s,r0,q⟩:=q
 refine⟨Z,loc,s,r0,?_⟩
 show iW C Z loc sv (ft s) _
 have q:iW C Z loc sv ((ft s).bind fun b s=>if b=true then .ok true s else jy (ft2::fr) s) Q:=q
 cases e:ft s with
 | stuck=>rw[e]at q;exact q
 | exc x s'=>rw[e]at q;exact q
 | ok b s'=>
  rw[e]at q
  intro Z1 l1 H1 g1 r1
  cases b with
  | false=>exact⟨Z1,l1,s',r1,iW.ext q g1⟩
  | true=>exact iW.ext (show iW C Z loc sv (.ok true s') Q from q) g1 Z1 l1 H1 (Ext.refl _ _) r1
theorem v_not(h:PT X e (gD C ft)):PT X (.UnaryOp .Not e pos) (gD C (si ft)):=by
 refine yN (pt_not h) fun sv H Q q=>?_
 obtain⟨Z,loc,s,r0,q⟩:=q
 unfold si at q
 refine⟨Z,loc,s,r0,?_⟩
 cases e:ft s with
 | stuck=>rw[e]at q;exact q
 | exc x s'=>rw[e]at q;exact q
 | ok b s'=>rw[e]at q;exact q
end
end Vw
namespace Vw
open PySem L2 PyProof.Rows
def Pn(t:State→Res Bool)(a b:State→Res RV)(s:State):Res RV:=(t s).bind fun k s=>if k=true then a s else b s
def bw(x y:RV)(s:State):Res RV:=
 match lj s x y with
 | some (some v)=>.ok (.val v) s
 | some none=>.stuck
 | none=>match dv s x,dv s y with
  | some (.str t),some (.int i)=>if t.length≤sizeLine then match atI t i with
   | some c=>bp (.str [c]) s
   | none=>.stuck else .stuck
  | _,some (.int i)=>match lv s x,tv s x with
   | some l,_=>match atI l i with
    | some v=>.ok (.val v) s
    | none=>.stuck
   | none,some l=>match atI l i with
    | some v=>.ok (.val v) s
    | none=>.stuck
   | none,none=>.stuck
  | _,_=>.stuck
inductive Par where
 | no
 | ex (f:State→Res RV)
def CQ(r:RV)(s:State):Res (Option Int):=
 match dv s r with
 | some (.int i)=>.ok (some i) s
 | _=>.stuck
def l0:Par→State→Res (Option Int)
 | .no,s=>.ok none s
 | .ex f,s=>(ev f s).bind CQ
def dg{α:Type}(l:List α)(lo hi:Option Int):List α:=(l.drop (HT.sIx l.length 0 lo)).take (HT.sIx l.length l.length hi-HT.sIx l.length 0 lo)
def wO(x:RV)(lo hi:Option Int)(s:State):Res RV:=
 match dv s x with
 | some (.str t)=>if t.length≤sizeLine then bp (.str (dg t lo hi)) s else .stuck
 | _=>match lv s x with
  | some l=>.ok (.new (.lst (dg l lo hi))) s
  | none=>match tv s x with
   | some l=>if(dg l lo hi).length=l.length then .stuck else .ok (.val (pL (dg l lo hi))) s
   | none=>.stuck
def cJ(f:State→Res RV)(lo hi:Par)(s:State):Res RV:=
 (ev f s).bind fun x s=>(l0 lo s).bind fun l s=>(l0 hi s).bind fun h s=>wO x l h s
section
variable{C:Cst}{Z Z':Hp}{loc loc':List Addr}{s s':State}{sv:L2.St}{H:Hp}
variable{X:Cx}{e a b c:Expr}{es:List Expr}{pos:Pos}{f fa fb fc:State→Res RV}{ft:State→Res Bool}
theorem uw(h:PE X e (aB C f)):PE X (.BoolOp .And [e] pos) (aB C (gU [f])):=cf (pe_one h) fun sv H Q ⟨Z,loc,s,r,q⟩=>by
 have q:EPost C Z loc sv ((ev f s).bind fun x s=>.ok x s) Q:=by
  have e1:((ev f s).bind fun x s=>.ok x s)=gU [f] s:=by
   show _=ev f s
   cases ev f s<;> rfl
  rw[e1];exact q
 exact(aB.nT r q).imp fun v H1 ⟨Z1,l1,s1,x,g1,r1,st1,q1,h1⟩=>h1 Z1 l1 H1 v (Ext.refl _ _) r1 q1
theorem Jv(h:PE X e (aB C f)):PE X (.BoolOp .Or [e] pos) (aB C (k9 [f])):=cf (pe_one h) fun sv H Q ⟨Z,loc,s,r,q⟩=>by
 have q:EPost C Z loc sv ((ev f s).bind fun x s=>.ok x s) Q:=by
  have e1:((ev f s).bind fun x s=>.ok x s)=k9 [f] s:=by
   show _=ev f s
   cases ev f s<;> rfl
  rw[e1];exact q
 exact(aB.nT r q).imp fun v H1 ⟨Z1,l1,s1,x,g1,r1,st1,q1,h1⟩=>h1 Z1 l1 H1 v (Ext.refl _ _) r1 q1
theorem aB.JV{f:State→Res RV}{k:Bool→State→Res RV}{Q:VK}(r:SR C Z loc s sv H)(h:EPost C Z loc sv ((aW f s).bind k) Q):
  aB C f sv H (fun x H'=>∃ c,x=.bl c∧∃ Z' loc' s',Ext Z loc Z' loc'∧SR C Z' loc' s' sv H'∧EPost C Z' loc' sv (k c s') Q):=by
 unfold aW at h
 rw[Res.bind_assoc]at h
 refine(aB.nT r h).imp fun v H1 ⟨Z1,l1,s1,x,g1,r1,st1,q1,h1⟩=>?_
 unfold zC at h1
 split at h1
 ·rename_i b e
  exact⟨b,r1.dv q1 e,Z1,l1,s1,g1,r1,h1⟩
 ·exact h1.elim
theorem qv{f2:State→Res RV}{fr:List (State→Res RV)}(h:PE X e (aB C f))(h2:PE X (.BoolOp .And (a::es) pos) (aB C (gU (f2::fr)))):PE X (.BoolOp .And (e::a::es) pos) (aB C (gU (f::f2::fr))):=by
 refine cf (pe_and h h2) fun sv H Q ⟨Z,loc,s,r,q⟩=>?_
 have q:EPost C Z loc sv ((aW f s).bind fun b s=>if b=true then gU (f2::fr) s else bp (.bl false) s) Q:=q
 refine(aB.JV r q).imp fun v H1 ⟨c,e1,Z1,l1,s1,g1,r1,h1⟩=>⟨c,e1,?_⟩
 cases c with
 | true=>exact⟨Z1,l1,s1,r1,h1⟩
 | false=>exact EPost.bp h1 r1 rfl
theorem LO{f2:State→Res RV}{fr:List (State→Res RV)}(h:PE X e (aB C f))(h2:PE X (.BoolOp .Or (a::es) pos) (aB C (k9 (f2::fr)))):PE X (.BoolOp .Or (e::a::es) pos) (aB C (k9 (f::f2::fr))):=by
 refine cf (pe_or h h2) fun sv H Q ⟨Z,loc,s,r,q⟩=>?_
 have q:EPost C Z loc sv ((aW f s).bind fun b s=>if b=true then bp (.bl true) s else k9 (f2::fr) s) Q:=q
 refine(aB.JV r q).imp fun v H1 ⟨c,e1,Z1,l1,s1,g1,r1,h1⟩=>⟨c,e1,?_⟩
 cases c with
 | false=>exact⟨Z1,l1,s1,r1,h1⟩
 | true=>exact EPost.bp h1 r1 rfl
theorem Mn(h:PE X e (aB C f)):PE X (.UnaryOp .USub e pos) (aB C (fun s=>(ev f s).bind Bl)):=by
 refine cf (pe_un un_neg h) fun sv H Q ⟨Z,loc,s,r,q⟩=>?_
 refine(aB.nT r q).imp fun v H1 ⟨Z1,l1,s1,x,g1,r1,st1,q1,h1⟩=>?_
 unfold Bl at h1
 split at h1
 ·rename_i i e
  exact⟨i,r1.dv q1 e,h1.bp r1 rfl⟩
 ·exact h1.elim
theorem ll.mono(h:Ext Z loc Z' loc'){H':Hp}:∀ {rs:List RV} {vs:List V},ll C Z loc s sv H rs vs→ll C Z' loc' s' sv H' rs vs
 | [],vs,q=>q
 | x::rs,vs,⟨v,r,e,st,q,t⟩=>⟨v,r,e,st,q.mono h st,ll.mono h t⟩
theorem ak:PA X [] (gk C (aE [])):=Cz pa_nil fun sv H Q ⟨Z,loc,s,r,q⟩=>q Z loc H [] (Ext.refl _ _) r rfl
theorem I4{fr:List (State→Res RV)}(h:PE X e (aB C f))(hr:PA X es (gk C (aE fr)))(hs:notStar e=true):PA X (e::es) (gk C (aE (f::fr))):=by
 refine Cz (pa_cons h hr (b5 hs)) fun sv H Q ⟨Z,loc,s,r,q⟩=>?_
 refine(aB.NX r q).imp fun v H1 ⟨Z1,l1,s1,x,g1,r1,st1,q1,h1⟩=>?_
 refine⟨Z1,l1,s1,r1,?_⟩
 cases e1:aE fr s1 with
 | stuck=>rw[e1]at h1;exact h1
 | exc y s2=>rw[e1]at h1;exact h1
 | ok xs s2=>
  rw[e1]at h1
  intro Z2 l2 H2 vs g2 r2 q2
  exact h1 Z2 l2 H2 (v::vs) g2 r2 ⟨v,vs,rfl,st1,q1.mono g2 st1,q2⟩
theorem SR.bE(r:SR C Z loc s sv H):∀ {rs:List RV} {vs:List V} {l:List Val},ll C Z loc s sv H rs vs→bE rs s=.ok l s'→∃ Z',Ext Z loc Z' loc∧SR C Z' loc s' sv H∧bC C.cA Z' loc l vs:=by
 intro rs
 induction rs generalizing Z s with
 | nil=>intro vs l h e;cases e;exact⟨Z,Ext.refl _ _,r,h⟩
 | cons x rs ih=>
  intro vs l h e
  obtain⟨v,t,rfl,st,q,h⟩:=h
  unfold Vw.bE at e
  cases e1:Vw.d8 x s with
  | stuck=>rw[e1]at e;cases e
  | exc y s2=>exact absurd e1 B1
  | ok y s1=>
   rw[e1]at e
   simp only[Res.aa]at e
   obtain⟨Z1,g1,r1,q1⟩:=r.d8 q e1
   cases e2:Vw.bE rs s1 with
   | stuck=>rw[e2]at e;cases e
   | exc y s2=>rw[e2]at e;cases e
   | ok ys s2=>
    rw[e2]at e
    cases e
    obtain⟨Z2,g2,r2,q2⟩:=ih r1 (h.mono g1) e2
    exact⟨Z2,g1.trans g2,r2,v,t,rfl,q1.mono g2,q2⟩
theorem j9:∀ {rs:List RV} {s s1:State} {x:Exn},bE rs s≠ .exc x s1
 | [],s,s1,x=>by simp[bE]
 | r::rs,s,s1,x=>by
  unfold bE
  cases e:d8 r s with
  | stuck=>simp
  | exc y s2=>exact absurd e B1
  | ok y s1=>
   simp only[Res.aa]
   cases e2:bE rs s1 with
   | stuck=>simp
   | exc y s2=>exact absurd e2 j9
   | ok ys s2=>simp
theorem Ec{l:List Val}{vs:List V}{p:Addr}(h:bC C.cA Z loc l vs)(hp:Z p=some (.tup vs)):cy C.cA Z loc (pL l) (.ref p):=by
 unfold pL
 split
 ·rename_i ds e
  rw[toDs_inv e]at h
  exact⟨p,vs,rfl,hp,hI.mp h⟩
 ·exact⟨p,vs,rfl,hp,h⟩
theorem EPost.tup{l:List Val}{vs:List V}{p:Addr}{Q:VK}(h:EPost C Z loc sv (.ok (.val (pL l)) s) Q)(r:SR C Z loc s sv H)(q:bC C.cA Z loc l vs)(np:H p=none):Q (.ref p) (upd H p (.tup vs)):=by
 have r1:=(r.grow (cQ np)).xh (o:=.tup vs) upd_same (r.free np)
 have g:Ext Z loc (upd Z p (.tup vs)) loc:=Ext.z (cQ (r.free np).z)
 exact h _ loc _ _ g r1 (Ec (bC.mono g l q) upd_same)
theorem Ml{k:Nat}{fs:List (State→Res RV)}(h:PA X es (gk C (aE fs))):PE X (.Tuple es k pos) (aB C (fun s=>(aE fs s).bind Bq)):=by
 refine cf (pe_tup h) fun sv H Q ⟨Z,loc,s,r,q⟩=>?_
 refine(gk.Ar r q).imp fun vs H1 ⟨Z1,l1,s1,rs,g1,r1,q1,h1⟩=>?_
 unfold Bq at h1
 cases e:bE rs s1 with
 | stuck=>rw[e]at h1;exact h1.elim
 | exc y s2=>exact absurd e j9
 | ok l s2=>
  rw[e]at h1
  simp only[Res.aa]at h1
  obtain⟨Z2,g2,r2,q2⟩:=r1.bE q1 e
  split at h1
  ·rename_i hl
   exact⟨by rw[←cP q2];exact hl,fun p np=>(h1.ext g2).tup r2 q2 np⟩
  ·exact h1.elim
theorem Lk{fs:List (State→Res RV)}(h:PA X es (gk C (aE fs))):PE X (.List es pos) (aB C (fun s=>(aE fs s).bind Bc)):=by
 refine cf (pe_lst h) fun sv H Q ⟨Z,loc,s,r,q⟩=>?_
 refine(gk.Ar r q).imp fun vs H1 ⟨Z1,l1,s1,rs,g1,r1,q1,h1⟩=>?_
 unfold Bc at h1
 cases e:bE rs s1 with
 | stuck=>rw[e]at h1;exact h1.elim
 | exc y s2=>exact absurd e j9
 | ok l s2=>
  rw[e]at h1
  simp only[Res.aa]at h1
  obtain⟨Z2,g2,r2,q2⟩:=r1.bE q1 e
  split at h1
  ·rename_i hl
   exact⟨by rw[←cP q2];exact hl,fun p np=>(h1.ext g2).new r2 np (by simp) ⟨_,upd_same,q2⟩⟩
  ·exact h1.elim
theorem jY:∀ {l:List Val} {xs:List V} {i:Nat} {x:Val},bC C.cA Z loc l xs→l[i]? =some x→∃ v,xs[i]? =some v∧cy C.cA Z loc x v
 | [],xs,i,x,h,e=>by simp at e
 | y::l,xs,0,x,⟨v,r,e1,q,t⟩,e=>by
  rw[e1]
  simp at e
  exact⟨v,rfl,e▸q⟩
 | y::l,xs,i+1,x,⟨v,r,e1,q,t⟩,e=>by
  rw[e1]
  exact jY (i:=i) t (by simpa using e)
theorem BN{l:List Val}{xs:List V}{i:Int}{x:Val}(h:bC C.cA Z loc l xs)(e:atI l i=some x):∃ v,atI xs i=some v∧cy C.cA Z loc x v:=by
 unfold atI at e ⊢
 rw[←cP h]
 cases e1:ixN l.length i with
 | none=>rw[e1]at e;cases e
 | some j=>
  rw[e1]at e
  exact jY h e
def N3(K:PySem.W.Frag):R2:=fun x y H Q=>rIxD x y H Q∨rIx K x y H Q
theorem Kc:xg C bw (N3 X.K):=by
 intro Z loc s sv H x y u v Q r hx hy h
 unfold bw at h
 split at h
 ·rename_i w e
  obtain⟨a,o,h1,h2,h3⟩:=r.lj hx hy e
  cases o with
  | none=>exact h3.elim
  | some z=>exact .inl ⟨a,z,h1,h2,h.val r h3⟩
 ·exact h.elim
 ·split at h
  ·rename_i t i e1 e2
   split at h
   ·rename_i hl
    split at h
    ·rename_i c e3
     exact .inr (.inr (.inr ⟨⟨t.toArray⟩,i,c,r.dv hx e1,r.dv hy e2,by simpa [Str.length]using hl,by simpa using e3,h.bp r rfl⟩))
    ·exact h.elim
   ·exact h.elim
  ·rename_i i e2 _
   split at h
   ·rename_i l e3
    split at h
    ·rename_i w e4
     obtain⟨a,xs,h1,h2,h3⟩:=r.lv hx e3
     obtain⟨z,h4,h5⟩:=BN h3 e4
     exact .inr (.inl ⟨a,xs,i,z,h1,r.dv hy e2,.inl h2,h4,h.val r h5⟩)
    ·exact h.elim
   ·rename_i l e3
    split at h
    ·rename_i w e4
     obtain⟨a,xs,h1,h2,h3⟩:=r.tv hx e3
     obtain⟨z,h4,h5⟩:=BN h3 e4
     exact .inr (.inr (.inl ⟨a,xs,i,z,h1,r.dv hy e2,.inl (.inl h2),h4,h.val r h5⟩))
    ·exact h.elim
   ·exact h.elim
  ·exact h.elim
theorem N2(hu:X.A.units+64<cLine)(ha:PE X a (aB C fa))(hb:PE X b (aB C fb))(hs:pj b=true):PE X (.Subscript a b pos) (aB C (ah fa fb bw)):=
 cf (pe_ix ((LG hu).or ix_seq) ha hb (Dg hs)) fun sv H Q h=>xr Kc h
def AX(C:Cst)(p:Par):TO:=fun sv H Q=>∃ Z loc s,SR C Z loc s sv H∧match l0 p s with
 | .ok o s'=>∀ Z' loc' H',Ext Z loc Z' loc'→SR C Z' loc' s' sv H'→Q o H'
 | .exc x s'=>∀ Z' loc' H' c d,Ext Z loc Z' loc'→SR C Z' loc' s' sv H'→lW C Z' H' x c d→C.W c d sv H'
 | .stuck=>False
theorem bU:PO X none (AX C .no):=⟨fun pins t sv H Q I ⟨Z,loc,s,r,h⟩=>po_none.run pins t sv H Q I (h Z loc H (Ext.refl _ _) r)⟩
theorem bu(h:PE X e (aB C f)):PO X (some e) (AX C (.ex f)):=by
 refine⟨fun pins t sv H Q I ⟨Z,loc,s,r,q⟩=>(po_some h).run pins t sv H Q I ?_⟩
 unfold l0 at q
 dsimp only at q
 refine aB.D6 (f:=f) (PO:=fun Z loc (t:Res (Option Int))=>match t with
  | .ok o s'=>∀ Z' loc' H',Ext Z loc Z' loc'→SR C Z' loc' s' sv H'→Q o H'
  | .exc x s'=>∀ Z' loc' H' c d,Ext Z loc Z' loc'→SR C Z' loc' s' sv H'→lW C Z' H' x c d→C.W c d sv H'
  | .stuck=>False) r q (fun Z1 l1 t g q=>?_) (fun _ _ q=>q) (fun q=>q) fun v H1 ⟨Z1,l1,s1,x,g1,r1,st1,q1,h1⟩=>?_
 ·cases t with
  | ok o s'=>exact fun Z2 l2 H2 g2=>q Z2 l2 H2 (g.trans g2)
  | exc x s'=>exact fun Z2 l2 H2 c d g2=>q Z2 l2 H2 c d (g.trans g2)
  | stuck=>exact q
 ·have key:(∃ i,dv s1 x=some (.int i)∧CQ x s1=.ok (some i) s1)∨CQ x s1=.stuck:=by
   unfold CQ
   split
   ·rename_i i e
    exact .inl ⟨i,e,rfl⟩
   ·exact .inr rfl
  rcases key with⟨i,e1,e2⟩ | e2
  ·rw[e2]at h1
   exact⟨i,r1.dv q1 e1,h1 Z1 l1 H1 (Ext.refl _ _) r1⟩
  ·rw[e2]at h1
   exact h1.elim
theorem xJ:∀ {l:List Val} {xs:List V} (n:Nat),bC C.cA Z loc l xs→bC C.cA Z loc (l.drop n) (xs.drop n)
 | l,xs,0,h=>h
 | [],xs,n+1,h=>by rw[show xs=_ from h];exact rfl
 | x::l,xs,n+1,⟨v,r,e,q,t⟩=>by rw[e];exact xJ n t
theorem xA:∀ {l:List Val} {xs:List V} (n:Nat),bC C.cA Z loc l xs→bC C.cA Z loc (l.take n) (xs.take n)
 | l,xs,0,h=>rfl
 | [],xs,n+1,h=>by rw[show xs=_ from h];exact rfl
 | x::l,xs,n+1,⟨v,r,e,q,t⟩=>by rw[e];exact⟨v,r.take n,rfl,q,xA n t⟩
theorem zw{l:List Val}{xs:List V}{lo hi:Option Int}(h:bC C.cA Z loc l xs):bC C.cA Z loc (dg l lo hi) (cutV xs lo hi):=by
 unfold dg cutV
 rw[←cP h]
 exact xA _ (xJ _ h)
theorem cb{lo hi:Option Expr}{pl ph:Par}{p2:Pos}(he:PE X e (aB C f))(hl:PO X lo (AX C pl))(hh:PO X hi (AX C ph)):PE X (.Subscript e (.Slice lo hi none p2) pos) (aB C (cJ f pl ph)):=by
 refine cf (pe_slice (sl_str.or (sl_list.or sl_tup)) he hl hh) fun sv H Q ⟨Z,loc,s,r,q⟩=>?_
 refine(aB.nT r q).imp fun v H1 ⟨Z1,l1,s1,x,g1,r1,st1,q1,h1⟩=>?_
 have part:∀ {p:Par} {k:Option Int→State→Res RV} {Z1:Hp} {l1:List Addr} {s1:State} {H1:Hp},SR C Z1 l1 s1 sv H1→EPost C Z1 l1 sv ((l0 p s1).bind k) Q→
   AX C p sv H1 fun o H2=>∃ Z2 l2 s2,Ext Z1 l1 Z2 l2∧SR C Z2 l2 s2 sv H2∧EPost C Z2 l2 sv (k o s2) Q:=by
  intro p k Z1 l1 s1 H1 r1 h
  refine⟨Z1,l1,s1,r1,?_⟩
  cases e:l0 p s1 with
  | stuck=>rw[e]at h;exact h
  | exc y s2=>rw[e]at h;exact h
  | ok o s2=>rw[e]at h;exact fun Z2 l2 H2 g2 r2=>⟨Z2,l2,s2,g2,r2,EPost.ext h g2⟩
 have imp:∀ {p:Par} {H1:Hp} {Q1 Q2:Option Int→Hp→Prop},AX C p sv H1 Q1→(∀ o H,Q1 o H→Q2 o H)→AX C p sv H1 Q2:=by
  rintro p H1 Q1 Q2 ⟨Z,loc,s,r,h⟩ m
  refine⟨Z,loc,s,r,?_⟩
  cases e:l0 p s with
  | stuck=>rw[e]at h;exact h
  | exc y s2=>rw[e]at h;exact h
  | ok o s2=>rw[e]at h;exact fun Z2 l2 H2 g2 r2=>m _ _ (h Z2 l2 H2 g2 r2)
 refine imp (part r1 h1) fun o1 H2 ⟨Z2,l2,s2,g2,r2,h2⟩=>?_
 refine imp (part r2 h2) fun o2 H3 ⟨Z3,l3,s3,g3,r3,h3⟩=>?_
 have q3:=q1.mono (s':=s3) (H':=H3) (g2.trans g3) st1
 unfold wO at h3
 split at h3
 ·rename_i t e1
  split at h3
  ·rename_i hz
   refine .inl ⟨⟨t.toArray⟩,r3.dv q3 e1,by simpa [Str.length]using hz,h3.bp r3 ?_⟩
   show V.str _=V.str _
   simp[cutS,dg,Str.length]
  ·exact h3.elim
 ·split at h3
  ·rename_i l e1
   obtain⟨a,xs,h4,h5,h6⟩:=r3.lv q3 e1
   exact .inr (.inl ⟨a,xs,h4,.inl h5,fun p np=>h3.new r3 np (by simp) ⟨_,upd_same,zw h6⟩⟩)
  ·split at h3
   ·rename_i l e1
    obtain⟨a,xs,h4,h5,h6⟩:=r3.tv q3 e1
    split at h3
    ·exact h3.elim
    ·rename_i hne
     refine .inr (.inr ⟨a,xs,h4,.inl (.inl h5),fun z=>hne ?_,fun p np=>h3.tup r3 (zw h6) np⟩)
     rw[←cP h6]at z
     unfold dg
     rw[z.1,z.2]
     simp
   ·exact h3.elim
end
end Vw
namespace Vw
open PySem L2 PyProof.Rows
def qa(i:Nat):RV→State→Option State
 | .val x,s=>some { s with sg:=s.sg.set i (some (.v x)) }
 | .new o,s=>some { s with sg:=s.sg.set i (some (.own o)) }
 | .own j,s=>match lb j s with
  | .ok x s=>some { s with sg:=s.sg.set i (some (.v x)) }
  | _=>none
def wr(r:RV)(o:Ob)(s:State):State:=
 match mz s r with
 | .own i=> { s with sg:=s.sg.set i (some (.own o)) }
 | .val (.r n)=> { s with st:=s.st.set n o }
 | _=>s
inductive Tg where
 | nm (i:Nat)
 | tp (l:List Tg)
mutual
def ji:Tg→Val→State→Option State
 | .nm i,x,s=>some { s with sg:=s.sg.set i (some (.v x)) }
 | .tp ts,x,s=>match tv s (.val x)with
  | some l=>if l.length=ts.length then n6 ts l s else none
  | none=>none
def n6:List Tg→List Val→State→Option State
 | [],[],s=>some s
 | t::ts,x::xs,s=>match ji t x s with
  | some s=>n6 ts xs s
  | none=>none
 | _,_,_=>none
end
def ua(o:Option State):Res Fl:=
 match o with
 | some s=>.ok .nx s
 | none=>.stuck
def aR(i:Nat)(f:State→Res RV)(s:State):Res Fl:=(f s).bind fun r s=>ua (qa i r s)
def Ao(t:Tg)(f:State→Res RV)(s:State):Res Fl:=(ev f s).bind fun r s=>match d8 r s with
 | .ok x s=>ua (ji t x s)
 | _=>.stuck
def cV(f:State→Res RV)(s:State):Res Fl:=(f s).bind fun _ s=>.ok .nx s
def bq(f:State→Res RV)(s:State):Res Fl:=(f s).bind fun r s=>.ok (.ret r) s
def cc(t:State→Res Bool)(a b:State→Res Fl)(s:State):Res Fl:=(t s).bind fun k s=>if k=true then a s else b s
def ao:List (State→Res Fl)→State→Res Fl
 | [],s=>.ok .nx s
 | f::r,s=>match f s with
  | .ok .nx s=>ao r s
  | t=>t
def l9:Nat→(State→Res Bool)→(State→Res Fl)→State→Res Fl
 | 0,_,_,_=>.stuck
 | n+1,t,b,s=>(t s).bind fun k s=>if k=true then(match b s with
   | .ok .nx s=>l9 n t b s
   | .ok .cnt s=>l9 n t b s
   | .ok .brk s=>.ok .nx s
   | r=>r)else .ok .nx s
def lP(t:Tg)(b:State→Res Fl):List Val→State→Res Fl
 | [],s=>.ok .nx s
 | x::r,s=>match ji t x s with
  | none=>.stuck
  | some s=>match b s with
   | .ok .nx s=>lP t b r s
   | .ok .cnt s=>lP t b r s
   | .ok .brk s=>.ok .nx s
   | r=>r
def yy(o i:RV)(x:Val)(s:State):Option State:=
 match ob s o,dv s i with
 | some (.lst l),some (.int k)=>match ixN l.length k with
  | some j=>some (wr o (.lst (l.set j x)) s)
  | none=>none
 | some (.dic false l),some d=>match BF d with
  | some k=>if l.length<sizeLine then some (wr o (.dic false (yV l k x)) s)else none
  | none=>none
 | some (.dit false l),some (.tup d)=>match Bt d with
  | some k=>if l.length<sizeLine then some (wr o (.dit false (yV l k x)) s)else none
  | none=>none
 | _,_=>none
def C4(fo fi fv:State→Res RV)(s:State):Res Fl:=
 (ev fv s).bind fun v s=>(ev fo s).bind fun o s=>(ev fi s).bind fun i s=>match d8 v s with
  | .ok x s=>ua (yy o i x s)
  | _=>.stuck
def DE:Bop→Option (Int→Int→Int)
 | .add=>some fun a b=>a+b
 | .sub=>some fun a b=>a-b
 | _=>none
section
variable{C:Cst}{Z Z':Hp}{loc loc':List Addr}{s s':State}{sv sv':L2.St}{H H':Hp}
theorem SR.unset(r:SR C Z loc s sv H)(i:Nat)(v:Option V):SR C Z loc { s with sg:=s.sg.set i none } (sv.set i v) H:=by
 have r1:=r.drop i
 have key:∀ {j:Nat} {x:Sl},(s.sg.set i none)[j]? =some (some x)→(sv.set i v)[j]? =sv[j]? :=fun {j x} h=>by
  rcases dI h with⟨_,q⟩ | ⟨ne,q⟩
  ·cases q
  ·rw[List.getElem?_set_ne ne]
 refine⟨r1.fr,r1.zh,r1.zf,r1.lk,r1.ln,r1.nd,r1.lh,r1.cl,fun j x h=>?_,fun j o h=>?_,fun j k o o' a h1 h2 h3 h4=>?_,by simpa using r1.ls⟩
 ·rw[key h];exact r1.vl j x h
 ·rw[key h];exact r1.ow j o h
 ·rw[key h1]at h3;rw[key h2]at h4;exact r1.oi j k o o' a h1 h2 h3 h4
theorem SR.store(r:SR C Z loc s sv H){i:Nat}(hi:i<sv.length){x:Val}{v:V}(q:cy C.cA Z loc x v):SR C Z loc { s with sg:=s.sg.set i (some (.v x)) } (sv.set i (some v)) H:=by
 have:=(r.unset i (some v)).JZ (i:=i) (v:=v) (x:=x) (by simp[hi]) q
 simpa [wK]using this
theorem SR.qa(r:SR C Z loc s sv H){i:Nat}(hi:i<sv.length){rv:RV}{v:V}(q:cw C Z loc s sv H rv v)(e:qa i rv s=some s'):∃ Z',Ext Z loc Z' loc∧SR C Z' loc s' (sv.set i (some v)) H:=by
 cases rv with
 | val x=>cases e;exact⟨Z,Ext.refl _ _,r.store hi q⟩
 | own j=>
  unfold Vw.qa at e
  dsimp only at e
  split at e
  ·rename_i x s1 e1
   cases e
   obtain⟨Z1,g,r1,q1⟩:=r.lb q e1
   exact⟨Z1,g,r1.store hi q1⟩
  ·cases e
 | new o=>
  cases e
  obtain⟨a,rfl,ne,h1,h2⟩:=q
  have r1:=r.unset i (some (.ref a))
  have f:Free C Z loc { s with sg:=s.sg.set i none } (sv.set i (some (.ref a))) a:=by
   refine⟨h2.z,h2.f,h2.l,fun j ob h=>?_⟩
   rcases dI h with⟨_,q⟩ | ⟨ne',q⟩
   ·cases q
   ·rw[List.getElem?_set_ne ne'];exact h2.o j ob q
  have:=r1.N5 (i:=i) (o:=o) (a:=a) (by simp[hi]) ne h1 f
  exact⟨Z,Ext.refl _ _,by simpa [wK]using this⟩
theorem SR.write(r:SR C Z loc s sv H){rv:RV}{v:V}{o o':Ob}{a:Addr}{u:HO}(h:cw C Z loc s sv H rv v)(e:Vw.ob s rv=some o)(ea:v=.ref a)(ne:o'≠ .gone)(nf:∀ x w,H a≠some (.frz x w))
  (q:Cell C.cA Z loc (upd H a u) a o'):SR C Z loc (wr rv o' s) sv (upd H a u):=by
 have q0:=r.mz h
 have zz:Z a=none∧C.Fr a=none:=by
  unfold Vw.ob at e
  split at e
  ·rename_i i e1
   rw[e1]at q0
   split at e
   ·rename_i o1 e2
    obtain⟨b,h1,_,_,h4,h5,_⟩:=r.ow i _ e2
    rw[show sv[i]? =some (some v)from q0,ea]at h1
    cases h1
    exact⟨h4,h5⟩
   ·cases e
  ·rename_i n e1
   rw[e1]at q0
   obtain⟨b,h1,h2⟩:=q0
   rw[ea]at h2
   cases h2
   split at e
   ·cases e
   ·rename_i o1 ng e2
    exact⟨(r.cl n a _ h1 e2 ng).2,(r.lh a (List.mem_of_getElem? h1)).2⟩
   ·cases e
  ·cases e
 have cellAt:∀ {b:Addr} {ob:Ob},b≠a→Cell C.cA Z loc H b ob→Cell C.cA Z loc (upd H a u) b ob:=fun {b ob} hb x=>x.at (upd_ne hb)
 have fr:Same C.Fr (upd H a u):=fun b x hx=>by
  have hb:b≠a:=fun z=>by rw[z,zz.2]at hx;cases hx
  rw[upd_ne hb];exact r.fr b x hx
 have zh:∀ (b:Addr) (x:HO),Z b=some x→Rz (upd H a u) b x:=fun b x hx=>by
  have hb:b≠a:=fun z=>by rw[z,zz.1]at hx;cases hx
  unfold Rz
  rw[upd_ne hb];exact r.zh b x hx
 have lk:∀ (b:Addr) (x:Obj) (w:HO),C.H0 b=some (.frz x w)→upd H a u b=some (.frz x w):=fun b x w hx=>by
  have hb:b≠a:=fun z=>nf x w (z▸r.lk b x w hx)
  rw[upd_ne hb];exact r.lk b x w hx
 have lh:∀ b∈loc,upd H a u b≠none∧C.Fr b=none:=fun b hb=>by
  refine⟨?_,(r.lh b hb).2⟩
  by_cases hba:b=a
  ·rw[hba,upd_same];simp
  ·rw[upd_ne hba];exact(r.lh b hb).1
 unfold Vw.ob at e
 unfold wr
 split at e
 ·rename_i i e1
  rw[e1]at q0
  split at e
  ·rename_i o1 e2
   cases e
   have hi:sv[i]? =some (some (.ref a)):=by rw[←ea];exact q0
   obtain⟨b,h1,h2,h3,h4,h5,h6⟩:=r.ow i _ e2
   rw[hi]at h1
   cases h1
   try rw[e1]
   try dsimp only
   refine⟨fr,zh,r.zf,lk,r.ln,r.nd,lh,fun n b ob g1 g2 g3=>?_,fun j x g=>?_,fun j ob g=>?_,fun j k o1 o2 b g1 g2 g3 g4=>?_,by simpa using r.ls⟩
   ·have hb:b≠a:=fun z=>h6 (z▸List.mem_of_getElem? g1)
    exact⟨cellAt hb (r.cl n b ob g1 g2 g3).1,(r.cl n b ob g1 g2 g3).2⟩
   ·change (s.sg.set i _)[j]? =_ at g
    rcases dI g with⟨_,k⟩ | ⟨_,k⟩
    ·cases k
    ·exact r.vl j x k
   ·change (s.sg.set i _)[j]? =_ at g
    rcases dI g with⟨rfl,k⟩ | ⟨nj,k⟩
    ·cases k
     exact⟨a,hi,ne,q,h4,h5,h6⟩
    ·obtain⟨b,f1,f2,f3,f4⟩:=r.ow j ob k
     have hb:b≠a:=fun z=>nj (r.oi i j _ ob a e2 k hi (z▸f1))
     exact⟨b,f1,f2,cellAt hb f3,f4⟩
   ·have pick:∀ {j:Nat} {ob:Ob},(s.sg.set i (some (.own o')))[j]? =some (some (.own ob))→∃ ob',s.sg[j]? =some (some (.own ob')):=fun {j ob} g=>by
     rcases dI g with⟨rfl,_⟩ | ⟨_,k⟩
     ·exact⟨_,e2⟩
     ·exact⟨_,k⟩
    obtain⟨p1,k1⟩:=pick g1
    obtain⟨p2,k2⟩:=pick g2
    exact r.oi j k p1 p2 b k1 k2 g3 g4
  ·cases e
 ·rename_i n e1
  rw[e1]at q0
  obtain⟨b,h1,h2⟩:=q0
  rw[ea]at h2
  cases h2
  try rw[e1]
  try dsimp only
  have hn:n<s.st.length:=by rw[←r.ln];exact(List.getElem?_eq_some_iff.mp h1).1
  refine⟨fr,zh,r.zf,lk,by simpa using r.ln,r.nd,lh,fun m b ob g1 g2 g3=>?_,r.vl,fun j ob g=>?_,r.oi,r.ls⟩
  ·rcases dI g2 with⟨rfl,g⟩ | ⟨nm,g⟩
   ·cases g
    rw[h1]at g1
    cases g1
    exact⟨q,zz.1⟩
   ·have hb:b≠a:=fun z=>by
     subst z
     obtain⟨l1,e3⟩:=List.getElem?_eq_some_iff.mp h1
     obtain⟨l2,e4⟩:=List.getElem?_eq_some_iff.mp g1
     exact nm ((List.getElem_inj r.nd).mp (e3.trans e4.symm))
    exact⟨cellAt hb (r.cl m b ob g1 g g3).1,(r.cl m b ob g1 g g3).2⟩
  ·obtain⟨b,f1,f2,f3,f4,f5,f6⟩:=r.ow j ob g
   have hb:b≠a:=fun z=>f6 (z▸List.mem_of_getElem? h1)
   exact⟨b,f1,f2,cellAt hb f3,f4,f5,f6⟩
 ·cases e
mutual
def zF:Tg→List Nat
 | .nm i=>[i]
 | .tp l=>Bi l
def Bi:List Tg→List Nat
 | []=>[]
 | t::l=>zF t++Bi l
end
def Off(l:List Nat)(a b:L2.St):Prop:=b.length=a.length∧∀ j,j∉l→b[j]? =a[j]?
def qN(C:Cst)(t:Tg):TG:=fun v sv H Q=>∃ Z loc s x,SR C Z loc s sv H∧cy C.cA Z loc x v∧match ji t x s with
 | some s'=>∀ sv',Off (zF t) sv sv'→SR C Z loc s' sv' H→Q sv' H
 | none=>False
def DN(C:Cst)(ts:List Tg):TGs:=fun vs sv H Q=>∃ Z loc s xs,SR C Z loc s sv H∧bC C.cA Z loc xs vs∧match n6 ts xs s with
 | some s'=>∀ sv',Off (Bi ts) sv sv'→SR C Z loc s' sv' H→Q sv' H
 | none=>False
variable{X:Cx}{e a b c:Expr}{es:List Expr}{pos:Pos}{f fa fb fc fo fi fv:State→Res RV}{ft:State→Res Bool}
theorem CC{t t':TG}{e:Expr}(h:PG X e t)(m:∀ v sv H Q,sv.length=X.N.length→t' v sv H Q→t v sv H Q):PG X e t':=⟨fun pins s sv H v u Q I r q=>h.run pins s sv H v u Q I r (m v sv H Q I.len q)⟩
theorem Bv{t t':TGs}{e:List Expr}(h:PGs X e t)(m:∀ v sv H Q,sv.length=X.N.length→t' v sv H Q→t v sv H Q):PGs X e t':=⟨fun pins s sv H v u Q I r q=>h.run pins s sv H v u Q I r (m v sv H Q I.len q)⟩
theorem wm{st:Stmt}{t t':TS}(h:PS X st t)(m:∀ D sv H,sv.length=X.N.length→t' D sv H→t D sv H):PS X st t':=⟨fun pins s sv H D I q=>h.run pins s sv H D I (m D sv H I.len q)⟩
theorem Ms{i:Nat}{x:Str}(hN:X.N.Nodup)(hi:X.N[i]? =some x)(hx:Loc X.env.scope x)(hf:X.fn x=true∨X.env.scope.names.lookup x=some .local):PG X (.Name x pos) (qN C (.nm i)):=by
 refine CC (pg_name hN hi hx hf) fun v sv H Q hl ⟨Z,loc,s,y,r,q,h⟩=>?_
 have hi':i<sv.length:=by rw[hl];exact(List.getElem?_eq_some_iff.mp hi).1
 exact h _ ⟨List.length_set,fun j hj=>List.getElem?_set_ne (fun e=>hj (by simp[zF,e]))⟩ (r.store hi' q)
theorem y7:PGs X [] (DN C []):=Bv pgs_nil fun vs sv H Q hl ⟨Z,loc,s,xs,r,q,h⟩=>by
 cases xs with
 | nil=>exact⟨q,h sv ⟨rfl,fun _ _=>rfl⟩ r⟩
 | cons x xs=>exact h.elim
theorem wi{e:Expr}{es:List Expr}{env:Env}(h:notStar e=true):assignEach (e::es) env=(false,assign e env)::assignEach es env:=by
 cases e<;> first | rfl | cases h
theorem mL{t:Tg}{ts:List Tg}(h1:PG X e (qN C t))(h2:PGs X es (DN C ts))(hs:notStar e=true):PGs X (e::es) (DN C (t::ts)):=by
 refine Bv (pgs_cons h1 h2 (by rw[wi hs];rfl)) fun vs sv H Q hl ⟨Z,loc,s,xs,r,q,h⟩=>?_
 cases xs with
 | nil=>exact h.elim
 | cons x xs=>
  obtain⟨v,t',rfl,q1,q2⟩:=q
  refine⟨v,t',rfl,Z,loc,s,x,r,q1,?_⟩
  unfold n6 at h
  cases e1:ji t x s with
  | none=>rw[e1]at h;exact h
  | some s1=>
   rw[e1]at h
   refine fun sv' o' r'=>⟨Z,loc,s1,xs,r',q2,?_⟩
   dsimp only at h
   split at h
   ·rename_i s2 e2
    exact fun sv2 o2 r2=>h sv2 ⟨o2.1.trans o'.1,fun j hj=>(o2.2 j fun z=>hj (by simp[Bi,z])).trans (o'.2 j fun z=>hj (by simp[Bi,z]))⟩ r2
   ·exact h.elim
theorem Co:∀ {es:List Expr} {env:Env},(assignEach es env).length=es.length
 | [],_=>rfl
 | e::es,env=>by cases e<;> exact congrArg Nat.succ Co
theorem Cm:∀ {es:List Expr} {env:Env},es.all notStar=true→(assignEach es env).findIdx? (·.1)=none
 | [],_,_=>rfl
 | e::es,env,h=>by
  simp only[List.all_cons,Bool.and_eq_true]at h
  rw[wi h.1,List.findIdx?_cons]
  simp[Cm h.2]
theorem yw{k:Nat}{ts:List Tg}(hc:X.calm=true)(h:PGs X es (DN C ts))(hs:es.all notStar=true)(hl:es.length=ts.length):PG X (.Tuple es k pos) (qN C (.tp ts)):=by
 refine CC (pg_tup hc h (n:=ts.length) (Co.trans hl) (Cm hs)) fun v sv H Q hl ⟨Z,loc,s,y,r,q,h⟩=>?_
 unfold ji at h
 cases e1:tv s (.val y)with
 | none=>rw[e1]at h;exact h.elim
 | some l=>
  rw[e1]at h
  dsimp only at h
  obtain⟨a,xs,h1,h2,h3⟩:=r.tv (rv:=.val y) q e1
  by_cases hlen:l.length=ts.length
  ·rw[if_pos hlen]at h
   exact⟨a,xs,h1,.inl (.inl h2),by rw[←cP h3];exact hlen,Z,loc,s,l,r,h3,h⟩
  ·rw[if_neg hlen]at h;exact h.elim
theorem cx.nx{D:Ends}(h:cx C Z loc (.ok .nx s) D)(r:SR C Z loc s sv H):D.nx sv H:=h Z loc sv H (Ext.refl _ _) r
theorem cS(h:PE X e (aB C f))(hc:ki e=true):PS X (.Expr e pos) (fY C (cV f)):=by
 refine iR (ps_expr h (uD hc)) fun D sv H ⟨Z,loc,s,r,q⟩=>?_
 exact(aB.rN r q).imp fun v H1 ⟨Z1,l1,s1,x,g1,r1,q1,h1⟩=>h1.nx r1
theorem aZ(h:PE X e (aB C f)):PS X (.Return (some e) pos) (fY C (bq f)):=by
 refine iR (ps_ret h) fun D sv H ⟨Z,loc,s,r,q⟩=>?_
 exact(aB.rN r q).imp fun v H1 ⟨Z1,l1,s1,x,g1,r1,q1,h1⟩=>h1 Z1 l1 sv H1 v (Ext.refl _ _) r1 q1
theorem bR{a b:List Stmt}{sa sb:State→Res Fl}(ht:PT X c (gD C ft))(ha:PSs X a (fY C sa))(hb:PSs X b (fY C sb)):PS X (.If c a b pos) (fY C (cc ft sa sb)):=by
 refine iR (ps_if ht ha hb) fun D sv H ⟨Z,loc,s,r,q⟩=>?_
 refine(gD.rN r q).imp fun k H1 ⟨Z1,l1,s1,g1,r1,h1⟩=>?_
 cases k with
 | true=>exact⟨Z1,l1,s1,r1,h1⟩
 | false=>exact⟨Z1,l1,s1,r1,h1⟩
theorem aq:PSs X [] (fY C (ao [])):=Bf pss_nil fun D sv H ⟨Z,loc,s,r,h⟩=>h.nx r
theorem ae{st:Stmt}{sts:List Stmt}{g:State→Res Fl}{gs:List (State→Res Fl)}(h1:PS X st (fY C g))(h2:PSs X sts (fY C (ao gs))):PSs X (st::sts) (fY C (ao (g::gs))):=by
 refine Bf (pss_cons h1 h2) fun D sv H ⟨Z,loc,s,r,h⟩=>?_
 refine⟨Z,loc,s,r,?_⟩
 unfold ao at h
 cases e:g s with
 | stuck=>rw[e]at h;exact h
 | exc x s1=>rw[e]at h;exact h
 | ok k s1=>
  rw[e]at h
  cases k with
  | nx=>exact fun Z1 l1 sv1 H1 g1 r1=>⟨Z1,l1,s1,r1,cx.ext h g1⟩
  | ret rv=>exact h
  | brk=>exact h
  | cnt=>exact h
theorem Gq{i:Nat}{x:Str}{p:Pos}(hN:X.N.Nodup)(hi:X.N[i]? =some x)(hx:Loc X.env.scope x)(hf:X.fn x=true∨X.env.scope.names.lookup x=some .local)(h:PE X e (aB C f))(hc:ki e=true):
  PS X (.Assign [.Name x p] e pos) (fY C (aR i f)):=by
 refine wm (ps_set hN hi hx h (uD hc) hf) fun D sv H hl ⟨Z,loc,s,r,q⟩=>?_
 have hi':i<sv.length:=by rw[hl];exact(List.getElem?_eq_some_iff.mp hi).1
 refine(aB.rN r q).imp fun v H1 ⟨Z1,l1,s1,y,g1,r1,q1,h1⟩=>?_
 show D.nx (sv.set i (some v)) H1
 unfold ua at h1
 split at h1
 ·rename_i s2 e2
  obtain⟨Z2,g2,r2⟩:=r1.qa hi' q1 e2
  exact(h1.ext g2).nx r2
 ·exact h1.elim
def DT:Expr→Bool
 | .Tuple .. =>false
 | _=>true
theorem Kd{tg e:Expr}{env:Env}(h:DT e=true):swappedStores [tg] e env=pure none:=by
 cases e<;> first | rfl | (cases tg<;> rfl) | cases h
theorem ET{t:Tg}{tg:Expr}(h:PE X e (aB C f))(ht:PG X tg (qN C t))(hc:ki e=true)(hn:DT e=true)(hs:notStar tg=true):PS X (.Assign [tg] e pos) (fY C (Ao t f)):=by
 refine wm (ps_asg h ht (uD hc) (Kd hn) (by rw[wi hs];rfl)) fun D sv H hl ⟨Z,loc,s,r,q⟩=>?_
 refine(aB.zu r q).imp fun v H1 ⟨Z1,l1,s1,y,g1,r1,st1,q1,h1⟩=>?_
 cases e1:d8 y s1 with
 | stuck=>rw[e1]at h1;exact h1.elim
 | exc x s2=>rw[e1]at h1;exact h1.elim
 | ok z s2=>
  rw[e1]at h1
  dsimp only at h1
  obtain⟨Z2,g2,r2,q2⟩:=r1.d8 q1 e1
  refine⟨Z2,l1,s2,z,r2,q2,?_⟩
  cases e2:ji t z s2 with
  | none=>rw[e2]at h1;exact h1
  | some s3=>rw[e2]at h1;exact fun sv' _ r'=>cx.nx (cx.ext h1 g2) r'
end
end Vw
namespace Vw
open PySem L2 PyProof.Rows
section
variable{C:Cst}{Z Z':Hp}{loc loc':List Addr}{s s':State}{sv sv':L2.St}{H H':Hp}
variable{X:Cx}{e a b c:Expr}{es:List Expr}{pos:Pos}{f fa fb fc fo fi fv:State→Res RV}{ft:State→Res Bool}
theorem K5(hu:X.A.units+64<cLine):PSet X (fun o i v H Q=>∃ a H',o=.ref a∧DPut H a i v H'∧Q H'):=by
 intro pins s sv H o i v ov iv u Q I ro ri rv ⟨a,H',e,g,q⟩
 subst e
 cases ro
 exact d_setItem (by omega) I g ri rv fun s' I'=>⟨H',I',q⟩
theorem Io{t t':TSet}(h:PSet X t)(h':PSet X t'):PSet X (fun o i v H Q=>t o i v H Q∨t' o i v H Q):=by
 intro pins s sv H o i v ov iv u Q I ro ri rv q
 rcases q with q | q
 ·exact h pins s sv H o i v ov iv u Q I ro ri rv q
 ·exact h' pins s sv H o i v ov iv u Q I ro ri rv q
theorem zr:∀ {l:List Val} {xs:List V} (j:Nat) {x:Val} {v:V},bC C.cA Z loc l xs→cy C.cA Z loc x v→bC C.cA Z loc (l.set j x) (xs.set j v)
 | [],xs,j,x,v,h,q=>by rw[show xs=_ from h];exact rfl
 | y::l,xs,0,x,v,⟨w,t,e,q1,q2⟩,q=>by rw[e];exact⟨v,t,rfl,q,q2⟩
 | y::l,xs,j+1,x,v,⟨w,t,e,q1,q2⟩,q=>by rw[e];exact⟨w,t.set j v,rfl,q1,zr j q2 q⟩
theorem KI:∀ {l:List (K0×Val)} {ws:List (Key×V)} (k:K0),fk C.cA Z loc l ws→(l.any fun p=>decide (p.1=k))=ws.any fun p=>decide (p.1=kz k)
 | [],ws,k,h=>by rw[show ws=_ from h];rfl
 | (k',x)::l,ws,k,⟨v,t,e,q,r⟩=>by
  rw[e,List.any_cons,List.any_cons,KI k r]
  congr 1
  by_cases h:k'=k
  ·simp[h]
  ·have h2:¬ kz k'=kz k:=fun z=>h (uq z)
   simp[h,h2]
theorem KC:∀ {l:List (List K0×Val)} {ws:List (List Key×V)} (k:List K0),fL C.cA Z loc l ws→(l.any fun p=>decide (p.1=k))=ws.any fun p=>decide (p.1=k.map kz)
 | [],ws,k,h=>by rw[show ws=_ from h];rfl
 | (k',x)::l,ws,k,⟨v,t,e,q,r⟩=>by
  rw[e,List.any_cons,List.any_cons,KC k r]
  congr 1
  by_cases h:k'=k
  ·simp[h]
  ·have h2:¬ k'.map kz=k.map kz:=fun z=>h (n8 z)
   simp[h,h2]
theorem Fw:∀ {l:List (K0×Val)} {ws:List (Key×V)} (k:K0) {x:Val} {v:V},fk C.cA Z loc l ws→cy C.cA Z loc x v→
  fk C.cA Z loc (l.map fun p=>if p.1=k then(p.1,x)else p) (ws.map fun p=>if p.1=kz k then(p.1,v)else p)
 | [],ws,k,x,v,h,q=>by rw[show ws=_ from h];exact rfl
 | (k',y)::l,ws,k,x,v,⟨w,t,e,q1,r⟩,q=>by
  rw[e,List.map_cons,List.map_cons]
  by_cases h:k'=k
  ·rw[if_pos h,if_pos (by rw[h])];exact⟨v,_,rfl,q,Fw k r q⟩
  ·rw[if_neg h,if_neg (fun z=>h (uq z))];exact⟨w,_,rfl,q1,Fw k r q⟩
theorem E6:∀ {l:List (List K0×Val)} {ws:List (List Key×V)} (k:List K0) {x:Val} {v:V},fL C.cA Z loc l ws→cy C.cA Z loc x v→
  fL C.cA Z loc (l.map fun p=>if p.1=k then(p.1,x)else p) (ws.map fun p=>if p.1=k.map kz then(p.1,v)else p)
 | [],ws,k,x,v,h,q=>by rw[show ws=_ from h];exact rfl
 | (k',y)::l,ws,k,x,v,⟨w,t,e,q1,r⟩,q=>by
  rw[e,List.map_cons,List.map_cons]
  by_cases h:k'=k
  ·rw[if_pos h,if_pos (by rw[h])];exact⟨v,_,rfl,q,E6 k r q⟩
  ·rw[if_neg h,if_neg (fun z=>h (n8 z))];exact⟨w,_,rfl,q1,E6 k r q⟩
theorem J2:∀ {l m:List (K0×Val)} {ws us:List (Key×V)},fk C.cA Z loc l ws→fk C.cA Z loc m us→fk C.cA Z loc (l++m) (ws++us)
 | [],m,ws,us,h,q=>by rw[show ws=_ from h];exact q
 | (k,y)::l,m,ws,us,⟨w,t,e,q1,r⟩,q=>by rw[e];exact⟨w,t++us,rfl,q1,J2 r q⟩
theorem Jy:∀ {l m:List (List K0×Val)} {ws us:List (List Key×V)},fL C.cA Z loc l ws→fL C.cA Z loc m us→fL C.cA Z loc (l++m) (ws++us)
 | [],m,ws,us,h,q=>by rw[show ws=_ from h];exact q
 | (k,y)::l,m,ws,us,⟨w,t,e,q1,r⟩,q=>by rw[e];exact⟨w,t++us,rfl,q1,Jy r q⟩
theorem Mz{l:List (K0×Val)}{ws:List (Key×V)}(k:K0){x:Val}{v:V}(h:fk C.cA Z loc l ws)(q:cy C.cA Z loc x v):fk C.cA Z loc (yV l k x) (putK ws (kz k) v):=by
 unfold yV putK
 rw[KI k h]
 split
 ·exact Fw k h q
 ·exact J2 h ⟨v,[],rfl,q,rfl⟩
theorem MG{l:List (List K0×Val)}{ws:List (List Key×V)}(k:List K0){x:Val}{v:V}(h:fL C.cA Z loc l ws)(q:cy C.cA Z loc x v):fL C.cA Z loc (yV l k x) (putK ws (k.map kz) v):=by
 unfold yV putK
 rw[KC k h]
 split
 ·exact E6 k h q
 ·exact Jy h ⟨v,[],rfl,q,rfl⟩
theorem KU:∀ {l:List (K0×Val)} {ws:List (Key×V)},fk C.cA Z loc l ws→l.length=ws.length
 | [],ws,h=>by rw[show ws=_ from h];rfl
 | (k,y)::l,ws,⟨w,t,e,q1,r⟩=>by rw[e,List.length_cons,List.length_cons,KU r]
theorem Kv:∀ {l:List (List K0×Val)} {ws:List (List Key×V)},fL C.cA Z loc l ws→l.length=ws.length
 | [],ws,h=>by rw[show ws=_ from h];rfl
 | (k,y)::l,ws,⟨w,t,e,q1,r⟩=>by rw[e,List.length_cons,List.length_cons,Kv r]
def MQ:TSet:=fun o i v H Q=>rSetL o i v H Q∨∃ a H',o=.ref a∧DPut H a i v H'∧Q H'
theorem HG(r:SR C Z loc s sv H){o i:RV}{x:Val}{u k v:V}(ho:cw C Z loc s sv H o u)(hi:cw C Z loc s sv H i k)(hx:cy C.cA Z loc x v)(e:yy o i x s=some s'){Q:Hp→Prop}(q:∀ H',SR C Z loc s' sv H'→Q H'):MQ u k v H Q:=by
 unfold yy at e
 split at e
 ·rename_i l n e1 e2
  split at e
  ·rename_i j e3
   cases e
   obtain⟨a,h1,_,xs,h2,h3⟩:=r.ob ho e1
   refine .inl ⟨a,xs,n,j,h1,r.dv hi e2,h2,by rw[←cP h3];exact e3,q _ ?_⟩
   exact r.write ho e1 h1 (by simp) (fun _ _ z=>by rw[h2]at z;cases z) ⟨_,upd_same,zr j h3 hx⟩
  ·cases e
 ·rename_i l d e1 e2
  split at e
  ·rename_i k' e3
   split at e
   ·rename_i hl
    cases e
    obtain⟨a,h1,_,xs,h2,h3⟩:=r.ob ho e1
    have h2:H a=some (.dK xs):=h2
    refine .inr ⟨a,_,h1,.inl ⟨xs,kz k',h2,DB e3 (r.dv hi e2),by rw[←KU h3];exact hl,rfl⟩,q _ ?_⟩
    exact r.write ho e1 h1 (by simp) (fun _ _ z=>by rw[h2]at z;cases z) ⟨_,upd_same,Mz k' h3 hx⟩
   ·cases e
  ·cases e
 ·rename_i l d e1 e2
  split at e
  ·rename_i k' e3
   split at e
   ·rename_i hl
    cases e
    obtain⟨a,h1,_,xs,h2,h3⟩:=r.ob ho e1
    have h2:H a=some (.dT xs):=h2
    obtain⟨b,vs,h4,h5,h6⟩:=r.dv hi e2
    have hb:H b=some (.tup ((k'.map kz).map kV)):=by
     rw[←Bw e3 h6]
     exact(r.zh b _ h5).at rfl
    refine .inr ⟨a,_,h1,.inr ⟨xs,k'.map kz,b,h2,h4,hb,by rw[←Kv h3];exact hl,rfl⟩,q _ ?_⟩
    exact r.write ho e1 h1 (by simp) (fun _ _ z=>by rw[h2]at z;cases z) ⟨_,upd_same,MG k' h3 hx⟩
   ·cases e
  ·cases e
 ·cases e
theorem Iq{o i:Expr}{p:Pos}{env:Env}(h:pj i=true):∀ v,assign (.Subscript o i p) env v=(do
   let ov ←holding [v] (eval o env)
   let iv ←holding [v,ov] (eval i env)
   standAt p
   holding [v,ov,iv] (setItem ov iv v)
   release [v,ov,iv] []):=by
 intro v
 cases i<;> first | rfl | cases h
theorem Ib{t e:Expr}{n:Nat}{env:Env}(h:ki e=true):swapsWithSole [t] e n env=pure false:=by
 cases e<;> first | rfl | cases h
theorem Mw{o i v:Expr}{p:Pos}(hu:X.A.units+64<cLine)(ho:PE X o (aB C fo))(hi:PE X i (aB C fi))(hv:PE X v (aB C fv))(hs:pj i=true)(hc:ki v=true):
  PS X (.Assign [.Subscript o i p] v pos) (fY C (C4 fo fi fv)):=by
 refine iR (ps_asg hv (pg_sub ho hi (Io set_list (K5 hu)) (Iq hs)) (Ib hc) (by cases v<;> rfl)) fun D sv H ⟨Z,loc,s,r,q⟩=>?_
 refine(aB.zu r q).imp fun x H1 ⟨Z1,l1,s1,y,g1,r1,st1,q1,h1⟩=>?_
 show aB C fo sv H1 _
 refine(aB.zu r1 h1).imp fun u H2 ⟨Z2,l2,s2,y2,g2,r2,st2,q2,h2⟩=>?_
 refine(aB.zu r2 h2).imp fun k H3 ⟨Z3,l3,s3,y3,g3,r3,st3,q3,h3⟩=>?_
 have q1':=q1.mono (s':=s3) (H':=H3) (g2.trans g3) st1
 have q2':=q2.mono (s':=s3) (H':=H3) g3 st2
 cases e1:d8 y s3 with
 | stuck=>rw[e1]at h3;exact h3.elim
 | exc x s4=>rw[e1]at h3;exact h3.elim
 | ok z s4=>
  rw[e1]at h3
  dsimp only at h3
  obtain⟨Z4,g4,r4,q4⟩:=r3.d8 q1' e1
  unfold ua at h3
  split at h3
  ·rename_i s5 e5
   exact HG r4 (q2'.mono (s':=s4) (H':=H3) g4 st2) (q3.mono (s':=s4) (H':=H3) g4 st3) q4 e5 fun H' r'=>cx.nx (cx.ext h3 g4) r'
  ·exact h3.elim
theorem yb{n:Nat}{b:List Stmt}{sb:State→Res Fl}(hp:PassesOwn (model X.prog X.w) X.A X.env X.xe)(ht:PT X c (gD C ft))(hb:PSs X b (fY C sb)):PS X (.While c b [] pos) (fY C (l9 n ft sb)):=by
 refine iR (ps_while hp ht hb) fun D sv H ⟨Z0,loc0,s0,r0,q0⟩=>?_
 refine⟨fun m sv H=>∃ Z loc s,SR C Z loc s sv H∧cx C Z loc (l9 m ft sb s) D,⟨n,Z0,loc0,s0,r0,q0⟩,?_⟩
 rintro m sv H ⟨Z,loc,s,r,q⟩
 cases m with
 | zero=>exact q.elim
 | succ m=>
  unfold l9 at q
  refine(gD.rN r q).imp fun k H1 ⟨Z1,l1,s1,g1,r1,h1⟩=>?_
  cases k with
  | false=>
   rw[if_neg Bool.false_ne_true]at h1 ⊢
   exact h1.nx r1
  | true=>
   rw[if_pos rfl]at h1 ⊢
   refine⟨fun sv' H'=>∃ Z loc s,SR C Z loc s sv' H'∧cx C Z loc (l9 m ft sb s) D,fun sv' H' h=>⟨m,Nat.lt_succ_self m,h⟩,⟨Z1,l1,s1,r1,?_⟩⟩
   cases e:sb s1 with
   | stuck=>rw[e]at h1;exact h1
   | exc x s2=>rw[e]at h1;exact h1
   | ok k s2=>
    rw[e]at h1
    cases k with
    | nx=>exact fun Z2 l2 sv2 H2 g2 r2=>⟨Z2,l2,s2,r2,cx.ext h1 g2⟩
    | cnt=>exact fun Z2 l2 sv2 H2 g2 r2=>⟨Z2,l2,s2,r2,cx.ext h1 g2⟩
    | brk=>exact fun Z2 l2 sv2 H2 g2 r2=>cx.nx (cx.ext h1 g2) r2
    | ret rv=>exact h1
structure CLe (C C':Cst):Prop where
 ca:C'.cA=C.cA
 fr:C'.Fr=C.Fr
 w:C'.W=C.W
 h0:∀ (a:Addr) (o:Obj) (u:HO),C.H0 a=some (.frz o u)→C'.H0 a=some (.frz o u)
theorem CLe.refl(C:Cst):CLe C C:=⟨rfl,rfl,rfl,fun _ _ _ h=>h⟩
theorem SR.le{C':Cst}(c:CLe C C')(r:SR C' Z loc s sv H):SR C Z loc s sv H:=by
 obtain⟨a,f,h,w⟩:=C
 obtain⟨a',f',h',w'⟩:=C'
 obtain⟨c1,c2,c3,c4⟩:=c
 dsimp only at c1 c2 c3 c4
 subst c1 c2 c3
 exact⟨r.fr,r.zh,r.zf,fun b o u e=>r.lk b o u (c4 b o u e),r.ln,r.nd,r.lh,r.cl,r.vl,r.ow,r.oi,r.ls⟩
def qc(H Z H' Z':Hp):Prop:=Same H H'∧∀ a,H a≠none→Z' a=Z a
theorem qc.refl(H Z:Hp):qc H Z H Z:=⟨Same.refl _,fun _ _=>rfl⟩
structure WalkS (C:Cst) (Z:Hp) (loc:List Addr) (l:List Val) (J:It) (G:Hp→Prop) (Y:Nat→Hp→V→Hp→Prop):Prop where
 w:Walk J l.length G Y
 g:∀ Z' loc' s sv H,Ext Z loc Z' loc'→SR C Z' loc' s sv H→G H
 y:∀ Z' loc' s sv H (i:Nat) x v H',Ext Z loc Z' loc'→SR C Z' loc' s sv H→l[i]? =some x→Y i H v H'→∃ Z'',Ext Z' loc' Z'' loc'∧qc H Z' H' Z''∧SR C Z'' loc' s sv H'∧cy C.cA Z'' loc' x v
def mQ(C:Cst)(f:State→Res (List Val)):TI:=fun sv H R=>∃ Z loc s,SR C Z loc s sv H∧match f s with
 | .ok l s'=>∀ Z' loc' H' C' J G Y,CLe C C'→Ext Z loc Z' loc'→SR C' Z' loc' s' sv H'→WalkS C' Z' loc' l J G Y→R J H'
 | .exc x s'=>∀ Z' loc' H' c d,Ext Z loc Z' loc'→SR C Z' loc' s' sv H'→lW C Z' H' x c d→C.W c d sv H'
 | .stuck=>False
def oW(t:Tg)(src:State→Res (List Val))(b:State→Res Fl)(s:State):Res Fl:=(src s).bind fun l s=>lP t b l s
theorem MB{t:Tg}{tg it:Expr}{b:List Stmt}{sb:State→Res Fl}{src:State→Res (List Val)}(hp:PassesOwn (model X.prog X.w) X.A X.env X.xe)(hc:X.calm=true)(hi:PI X tg it (mQ C src))
  (hg:∀ C',CLe C C'→PG X tg (qN C' t)) (hb:∀ C',CLe C C'→PSs X b (fY C' sb)) (hs:de it=true):PS X (.For tg it b [] pos) (fY C (oW t src sb)):=by
 refine⟨fun pins t0 sv H D I ⟨Z,loc,s,r,q⟩=>?_⟩
 -- the ends by any of the body's constants
 refine(ps_for (g:=fun v sv H Q=>∃ C',CLe C C'∧qN C' t v sv H Q) (tb:=fun D sv H=>∃ C',CLe C C'∧fY C' sb D sv H) hp hc hi
  ⟨fun pins s sv H v u Q I r ⟨C',c,q⟩=>(hg C' c).run pins s sv H v u Q I r q⟩ ⟨fun pins s sv H D I ⟨C',c,q⟩=>(hb C' c).run pins s sv H D I q⟩ (fold_ok hs)).run pins t0 sv H D I ?_
 refine⟨Z,loc,s,r,?_⟩
 unfold oW at q
 cases e:src s with
 | stuck=>rw[e]at q;exact q
 | exc x s1=>rw[e]at q;exact fun Z' loc' H' c d=>q Z' loc' sv H' c d
 | ok l s1=>
  rw[e]at q
  intro Z1 l1 H1 C' J G Y cle g1 r1 wk
  have q:cx C Z loc (lP t sb l s1) D:=q
  refine for_it (g:=fun v sv H Q=>∃ C',CLe C C'∧qN C' t v sv H Q) (tb:=fun D sv H=>∃ C',CLe C C'∧fY C' sb D sv H) (D:=D) wk.w (fun i sv H=>∃ Z2 l2 s2,Ext Z1 l1 Z2 l2∧SR C' Z2 l2 s2 sv H∧cx C Z2 l2 (lP t sb (l.drop i) s2) D)
   ⟨Z1,l1,s1,Ext.refl _ _,r1,q.ext g1⟩ (fun i sv H _ ⟨Z2,l2,s2,g2,r2,_⟩=>wk.g Z2 l2 s2 sv H g2 r2) ?_ ?_
  ·rintro i v sv2 H2 H3 hi ⟨Z2,l2,s2,g2,r2,q2⟩ hy
   rw[List.drop_eq_getElem_cons hi]at q2
   obtain⟨Z3,g3,_,r3,q3⟩:=wk.y Z2 l2 s2 sv2 H2 i l[i] v H3 g2 r2 (by simp[hi]) hy
   refine⟨C',cle,Z3,l2,s2,l[i],r3,q3,?_⟩
   unfold lP at q2
   cases e1:ji t l[i] s2 with
   | none=>rw[e1]at q2;exact q2
   | some s3=>
    rw[e1]at q2
    intro sv4 _ r4
    refine⟨C',cle,Z3,l2,s3,r4,?_⟩
    dsimp only at q2
    have q2':=cx.ext q2 g3
    cases e2:sb s3 with
    | stuck=>rw[e2]at q2';exact q2'
    | exc x s5=>
     rw[e2]at q2'
     have q2':cx C Z3 l2 (.exc x s5) D:=q2'
     intro Z5 l5 sv5 H5 c d g5 r5 x5
     have:=q2' Z5 l5 sv5 H5 c d g5 (SR.le cle r5)
     unfold lW at this x5
     rw[cle.ca]at x5
     rw[cle.w]
     exact this x5
    | ok k s5=>
     rw[e2]at q2'
     cases k with
     | nx=>exact fun Z5 l5 sv5 H5 g5 r5=>⟨Z5,l5,s5,g2.trans (g3.trans g5),r5,cx.ext q2' g5⟩
     | cnt=>exact fun Z5 l5 sv5 H5 g5 r5=>⟨Z5,l5,s5,g2.trans (g3.trans g5),r5,cx.ext q2' g5⟩
     | brk=>exact fun Z5 l5 sv5 H5 g5 r5=>cx.nx (cx.ext q2' g5) (SR.le cle r5)
     | ret rv=>
      intro Z5 l5 sv5 H5 v5 g5 r5 q5
      refine q2' Z5 l5 sv5 H5 v5 g5 (SR.le cle r5) ?_
      cases rv with
      | val x=>have q5:cy C'.cA Z5 l5 x v5:=q5;rw[cle.ca]at q5;exact q5
      | own j=>exact q5
      | new o=>
       obtain⟨a,h1,h2,h3,h4⟩:=q5
       rw[cle.ca]at h3
       exact⟨a,h1,h2,h3,h4.z,by rw[←cle.fr];exact h4.f,h4.l,h4.o⟩
  ·rintro sv2 H2 ⟨Z2,l2,s2,g2,r2,q2⟩
   rw[List.drop_length]at q2
   exact cx.nx q2 (SR.le cle r2)
end
end Vw
namespace Vw
open PySem L2 PyProof.Rows
def nR(r:RV)(s:State):Res D:=
 match d8 r s with
 | .ok (.d x) s=>.ok x s
 | _=>.stuck
def Ha:K0→D
 | .i n=>.int n
 | .s t=>.str t
def itemsOf:D→State→Res (List Val)
 | .lst l,s=>.ok (l.map .d) s
 | .tup l,s=>.ok (l.map .d) s
 | .str t,s=>.ok (t.map fun c=>.d (.str [c])) s
 | .dic l,s=>.ok (l.map fun p=>.d (Ha p.1)) s
 | _,s=>.stuck
def o8:D→State→Res (List Val)
 | .lst l,s=>.ok (l.mapIdx fun i x=>.d (.tup [.int i,x])) s
 | .str t,s=>.ok (t.mapIdx fun i c=>.d (.tup [.int i,.str [c]])) s
 | _,s=>.stuck
def sD(f:State→Res RV)(k:D→State→Res (List Val))(s:State):Res (List Val):=(ev f s).bind fun r s=>(nR r s).bind k
def pU(lo hi:Int)(s:State):Res (List Val):=
 if-(2^62)≤lo∧lo<2^62∧ -(2^62)≤hi∧hi<2^62 then .ok ((List.range (hi-lo).toNat).map fun i=>.d (.int (lo+(i:Nat)))) s else .stuck
section
variable{C:Cst}{Z Z':Hp}{loc loc':List Addr}{s s':State}{sv sv':L2.St}{H H':Hp}
variable{X:Cx}{e a b c tg:Expr}{es:List Expr}{pos:Pos}{f fa fb fc fo fi fv:State→Res RV}
theorem aB.Oa{rv:RV}(r:SR C Z loc s sv H)(e:ev f s=.ok rv s'):aB C f sv H (fun v H'=>∃ Z' loc',Ext Z loc Z' loc'∧SR C Z' loc' s' sv H'∧xR rv∧cw C Z' loc' s' sv H' rv v):=by
 refine⟨Z,loc,s,r,?_⟩
 unfold ev at e
 cases e1:f s with
 | stuck=>rw[e1]at e;cases e
 | exc x s1=>rw[e1]at e;cases e
 | ok r0 s1=>
  rw[e1]at e
  intro Z1 l1 H1 v g r1 q
  obtain⟨rfl,st,Z2,g2,r2,q2⟩:=r1.settle q e
  exact⟨Z2,l1,g.trans g2,r2,st,q2⟩
theorem aB.NC{x:Exn}{Q:VK}(r:SR C Z loc s sv H)(e:ev f s=.exc x s')(h:∀ Z' loc' H' c d,Ext Z loc Z' loc'→SR C Z' loc' s' sv H'→lW C Z' H' x c d→C.W c d sv H'):aB C f sv H Q:=by
 refine⟨Z,loc,s,r,?_⟩
 unfold ev at e
 cases e1:f s with
 | stuck=>rw[e1]at e;cases e
 | exc x s1=>rw[e1]at e;cases e;exact h
 | ok r0 s1=>rw[e1]at e;exact absurd e zA
theorem SR.nR(r:SR C Z loc s sv H){rv:RV}{v:V}{x:D}(h:cw C Z loc s sv H rv v)(e:nR rv s=.ok x s'):∃ Z',Ext Z loc Z' loc∧SR C Z' loc s' sv H∧ej C.cA Z' x v:=by
 unfold Vw.nR at e
 split at e
 ·rename_i y s1 e1
  cases e
  exact r.d8 h e1
 ·cases e
theorem Hy{rv:RV}{x:Exn}{s s':State}:nR rv s≠ .exc x s':=by
 unfold nR
 split<;> simp
theorem Ai{w w':TI}(h:PI X tg e w)(h':PI X tg e w'):PI X tg e (fun sv H R=>w sv H R∨w' sv H R):=
 ⟨fun pins s sv H R I q=>q.elim (h.run pins s sv H R I) (h'.run pins s sv H R I)⟩
theorem uy{w w':TI}(h:PI X tg e w)(m:∀ sv H R,w' sv H R→w sv H R):PI X tg e w':=⟨fun pins s sv H R I q=>h.run pins s sv H R I (m sv H R q)⟩
def Qf(t:TE):TE:=fun sv H Q=>t sv H fun x H1=>(∃ d u,x=.ref d∧H1 d=some u∧sl u=true∧∀ od,Q x (upd H1 d (.frz od u)))∨Q x H1
theorem Ln{t:TE}(h:PE X e t):PE X e (Qf t):=by
 refine⟨fun pins s sv H Q I q=>thn (h.run pins s sv H _ I q) fun v s1 ⟨x,H1,I1,rx,q1⟩=>?_⟩
 rcases q1 with⟨d,u,e1,h1,h2,q1⟩ | q1
 ·obtain⟨od,I2⟩:=I1.lock h1 (by cases u<;> first | trivial | cases h2)
  exact⟨x,_,I2,rx,q1 od⟩
 ·exact⟨x,H1,I1,rx,q1⟩
theorem SR.G9(r:SR C Z loc s sv H){d:Addr}{u:HO}(hz:Z d=some u)(hu:sl u=true)(hd:H d=some u)(od:Obj):
  CLe C { C with H0:=upd C.H0 d (.frz od u) }∧SR { C with H0:=upd C.H0 d (.frz od u) } Z loc s sv (upd H d (.frz od u)):=by
 have nf:∀ o w,C.H0 d≠some (.frz o w):=fun o w e=>by
  have:=r.lk d o w e
  rw[hd]at this
  cases this
  cases hu
 have fd:C.Fr d=none:=r.zf d u hz
 have cellAt:∀ {b:Addr} {ob:Ob},b≠d→Cell C.cA Z loc H b ob→Cell C.cA Z loc (upd H d (.frz od u)) b ob:=fun {b ob} hb x=>x.at (upd_ne hb)
 refine⟨⟨rfl,rfl,rfl,fun b o w e=>?_⟩,?_⟩
 ·have hb:b≠d:=fun z=>nf o w (z▸e)
  show upd C.H0 d _ b=_
  rw[upd_ne hb];exact e
 ·refine⟨fun b x hx=>?_,fun b x hx=>?_,r.zf,fun b o w e=>?_,r.ln,r.nd,fun b hb=>?_,fun n b ob h1 h2 h3=>?_,r.vl,fun i ob h=>?_,r.oi,r.ls⟩
  ·have hx:C.Fr b=some x:=hx
   have hb:b≠d:=fun z=>by rw[z,fd]at hx;cases hx
   rw[upd_ne hb];exact r.fr b x hx
  ·by_cases hb:b=d
   ·subst hb
    rw[hz]at hx
    cases hx
    exact .inr ⟨hu,od,upd_same⟩
   ·unfold Rz
    rw[upd_ne hb];exact r.zh b x hx
  ·have e:upd C.H0 d (.frz od u) b=some (.frz o w):=e
   by_cases hb:b=d
   ·subst hb
    rw[upd_same]at e
    cases e
    exact upd_same
   ·rw[upd_ne hb]at e ⊢
    exact r.lk b o w e
  ·refine⟨?_,(r.lh b hb).2⟩
   by_cases hbd:b=d
   ·rw[hbd,upd_same];simp
   ·rw[upd_ne hbd];exact(r.lh b hb).1
  ·obtain⟨q1,q2⟩:=r.cl n b ob h1 h2 h3
   have hb:b≠d:=fun z=>by rw[z,hz]at q2;cases q2
   exact⟨cellAt hb q1,q2⟩
  ·obtain⟨b,h1,h2,h3,h4,h5⟩:=r.ow i ob h
   have hb:b≠d:=fun z=>by rw[z,hz]at h4;cases h4
   exact⟨b,h1,h2,cellAt hb h3,h4,h5⟩
theorem Hh{K:PySem.W.Frag}{ds:List D}{a:Addr}{vs:List V}(hz:Z a=some (.lst vs)∨∃ o,Z a=some (.frz o (.lst vs)))(q:gV C.cA Z ds vs):
  WalkS C Z loc (ds.map .d) (Itl K a) (fun H=>SqL K H a vs) (YAt vs):=by
 have hl:(ds.map Val.d).length=vs.length:=cP (loc:=loc) (hI.mpr q)
 refine⟨by rw[hl];exact walk_list,fun Z' loc' s sv H g r=>?_,fun Z' loc' s sv H i x v H' g r hx y=>?_⟩
 ·rcases hz with z | ⟨o,z⟩
  ·exact .inl (.inl ((r.zh a _ (g.1 _ _ z)).at rfl))
  ·exact .inl (.inr ⟨o,(r.zh a _ (g.1 _ _ z)).at rfl⟩)
 ·obtain⟨rfl,y⟩:=y
  obtain⟨v',h1,h2⟩:=jY (hI.mpr q) hx
  rw[y]at h1
  cases h1
  exact⟨Z',Ext.refl _ _,qc.refl _ _,r,h2.mono g⟩
theorem LL{K:PySem.W.Frag}{ds:List D}{a:Addr}{vs:List V}(hz:Z a=some (.tup vs))(q:gV C.cA Z ds vs):
  WalkS C Z loc (ds.map .d) (Itt K a) (fun H=>SqT K H a vs) (YAt vs):=by
 have hl:(ds.map Val.d).length=vs.length:=cP (loc:=loc) (hI.mpr q)
 refine⟨by rw[hl];exact walk_tup,fun Z' loc' s sv H g r=>?_,fun Z' loc' s sv H i x v H' g r hx y=>?_⟩
 ·exact .inl (.inl ((r.zh a _ (g.1 _ _ hz)).at rfl))
 ·obtain⟨rfl,y⟩:=y
  obtain⟨v',h1,h2⟩:=jY (hI.mpr q) hx
  rw[y]at h1
  cases h1
  exact⟨Z',Ext.refl _ _,qc.refl _ _,r,h2.mono g⟩
theorem MJ{t:List Nat}:∃ G Y,WalkS C Z loc (t.map fun c=>.d (.str [c])) (Its ⟨t.toArray⟩) G Y:=by
 refine⟨_,_,by simpa using walk_str (z:=⟨t.toArray⟩),fun _ _ _ _ _ _ _=>trivial,fun Z' loc' s sv H i x v H' g r hx y=>?_⟩
 obtain⟨rfl,c,y1,y2⟩:=y
 rw[List.getElem?_map]at hx
 have y1:t[i]? =some c:=by simpa using y1
 rw[y1]at hx
 cases hx
 exact⟨Z',Ext.refl _ _,qc.refl _ _,r,y2⟩
theorem G4{lo:Int}{n:Nat}:∃ G Y,WalkS C Z loc ((List.range n).map fun i=>.d (.int (lo+(i:Nat)))) (Itr lo n) G Y:=by
 refine⟨_,_,by simpa using walk_range (lo:=lo) (n:=n),fun _ _ _ _ _ _ _=>trivial,fun Z' loc' s sv H i x v H' g r hx y=>?_⟩
 obtain⟨rfl,y⟩:=y
 rw[List.getElem?_map]at hx
 obtain⟨j,h1,h2⟩:=Option.map_eq_some_iff.mp hx
 have h3:=List.getElem?_eq_some_iff.mp h1
 obtain⟨h4,h5⟩:=h3
 rw[List.getElem_range]at h5
 subst h5 h2
 exact⟨Z',Ext.refl _ _,qc.refl _ _,r,y⟩
theorem Hm{xs ys:Nat→Option V}{Z:Hp}{loc:List Addr}(r:SR C Z loc s sv H){i:Nat}{v:V}{d1 d2:D}(y:YPair xs ys i H v H')(h1:∀ u,xs i=some u→ej C.cA Z d1 u)(h2:∀ u,ys i=some u→ej C.cA Z d2 u):
  ∃ Z'',Ext Z loc Z'' loc∧qc H Z H' Z''∧SR C Z'' loc s sv H'∧cy C.cA Z'' loc (.d (.tup [d1,d2])) v:=by
 obtain⟨T,x,y,rfl,hT,rfl,e1,e2⟩:=y
 have f:=r.free hT
 have g:=cQ (o:=.tup [x,y]) f.z
 exact⟨_,Ext.z g,⟨cQ hT,fun b hb=>upd_ne fun z=>hb (z▸hT)⟩,(r.grow (cQ hT)).xh upd_same f,T,[x,y],rfl,upd_same,x,[y],rfl,ej.mono g d1 (h1 x e1),y,[],rfl,ej.mono g d2 (h2 y e2),rfl⟩
theorem Ea{ds:List D}{vs:List V}{i:Nat}{u:V}(q:gV C.cA Z ds vs)(h:vs[i]? =some u):∃ d,ds[i]? =some d∧ej C.cA Z d u:=by
 have hl:(ds.map Val.d).length=vs.length:=cP (loc:=[]) (hI.mpr q)
 have hi:i<ds.length:=by
  have:=(List.getElem?_eq_some_iff.mp h).1
  simpa [←hl]using this
 obtain⟨v',h1,h2⟩:=jY (loc:=[]) (hI.mpr q) (i:=i) (x:=.d ds[i]) (by simp[hi])
 rw[h]at h1
 cases h1
 exact⟨ds[i],by simp[hi],h2⟩
theorem Mp{K:PySem.W.Frag}{ds:List D}{a:Addr}{vs:List V}(hz:Z a=some (.lst vs)∨∃ o,Z a=some (.frz o (.lst vs)))(q:gV C.cA Z ds vs):
  ∃ G Y,WalkS C Z loc (ds.mapIdx fun i x=>.d (.tup [.int i,x])) (Ite K a) G Y:=by
 have hl:(ds.map Val.d).length=vs.length:=cP (loc:=loc) (hI.mpr q)
 refine⟨_,_,by rw[List.length_mapIdx,←List.length_map (f:=Val.d),hl];exact walk_enum (xs:=vs) (K:=K),fun Z' loc' s sv H g r=>?_,fun Z' loc' s sv H i x v H' g r hx y=>?_⟩
 ·rcases hz with z | ⟨o,z⟩
  ·exact .inl (.inl ((r.zh a _ (g.1 _ _ z)).at rfl))
  ·exact .inl (.inr ⟨o,(r.zh a _ (g.1 _ _ z)).at rfl⟩)
 ·rw[List.getElem?_mapIdx]at hx
  obtain⟨d,h1,rfl⟩:=Option.map_eq_some_iff.mp hx
  refine Hm r y (fun u e=>by cases e;rfl) fun u e=>?_
  obtain⟨d',h2,h3⟩:=Ea q e
  rw[h1]at h2
  cases h2
  exact ej.mono g.1 d h3
theorem zm:∀ {l:List (K0×D)} {ws:List (Key×V)} {i:Nat} {p:K0×D},kn C.cA Z l ws→l[i]? =some p→∃ v,ws[i]? =some (kz p.1,v)∧ej C.cA Z p.2 v
 | [],ws,i,p,h,e=>by simp at e
 | (k,x)::l,ws,0,p,⟨v,t,e1,q,r⟩,e=>by
  rw[e1]
  simp at e
  subst e
  exact⟨v,rfl,q⟩
 | (k,x)::l,ws,i+1,p,⟨v,t,e1,q,r⟩,e=>by
  rw[e1]
  exact zm (i:=i) r (by simpa using e)
theorem zv:∀ {l:List (K0×D)} {ws:List (Key×V)},kn C.cA Z l ws→l.length=ws.length
 | [],ws,h=>by rw[show ws=_ from h];rfl
 | (k,y)::l,ws,⟨w,t,e,q1,r⟩=>by rw[e,List.length_cons,List.length_cons,zv r]
theorem HI(k:K0):ej C.cA Z (Ha k) (kV (kz k)):=by cases k<;> rfl
theorem Mh{d:Addr}{u:HO}{od:Obj}{Z':Hp}{loc':List Addr}(h0:C.H0 d=some (.frz od u))(r:SR C Z' loc' s sv H):H d=some (.frz od u):=r.lk d od u h0
theorem LW{l:List (K0×D)}{d:Addr}{od:Obj}{ws:List (Key×V)}(h0:C.H0 d=some (.frz od (.dK ws)))(q:kn C.cA Z l ws):∃ G Y,WalkS C Z loc (l.map fun p=>.d (Ha p.1)) (Itk d od ws) G Y:=by
 refine⟨_,_,by rw[List.length_map,zv q];exact walk_keys (d:=d) (o:=od) (kvs:=ws),fun Z' loc' s sv H g r=>Mh h0 r,fun Z' loc' s sv H i x v H' g r hx y=>?_⟩
 obtain⟨rfl,k,w,h1,rfl⟩:=y
 rw[List.getElem?_map]at hx
 obtain⟨p,h2,rfl⟩:=Option.map_eq_some_iff.mp hx
 obtain⟨v',h3,h4⟩:=zm q h2
 rw[h1]at h3
 cases h3
 exact⟨Z',Ext.refl _ _,qc.refl _ _,r,HI p.1⟩
end
end Vw
namespace Vw
open PySem L2 PyProof.Rows
def DG(x:Str):It:=⟨fun i _=>i<x.cps.size,fun i H v H'=>∃ T c,v=.ref T∧H T=none∧H'=upd H T (.tup [.int (i:Nat),.str ⟨#[c]⟩])∧x.cps[i]? =some c,fun i _=>x.cps.size≤i⟩
theorem C6{P:Program}{w:World}{K:PySem.W.Frag}{elts:List Expr}{kk:Nat}{tpos:Pos}(x:Str)(t:Tok)(e it:Addr):
  Turn P w K (.Tuple elts kk tpos) (DG x) [e,it] e (fun i h=>((∃ old,IsEnum h e it ((i:Nat):Int) old)∧h.IsStrIter it (strIterType x) x t i)∧e≠it∧i≤x.cps.size) where
 mem:=by simp
 obj:=fun i h st b hb=>by
  obtain⟨⟨⟨old,he⟩,⟨o,ho,hc,hd⟩⟩,_⟩:=st
  have e':b=e∨b=it:=by simpa using hb
  rcases e' with z | z
  ·rw[z];exact⟨_,he,fun v q=>nomatch q⟩
  ·rw[z];exact⟨o,ho,fun v q=>by rw[hd]at q;cases q⟩
 keep:=fun i h h' st k=>by
  obtain⟨⟨⟨old,he⟩,⟨o,ho,hc,hd⟩⟩,hne⟩:=st
  exact⟨⟨⟨old,k e (by simp) _ he⟩,⟨o,k it (by simp) _ ho,hc,hd⟩⟩,hne⟩
 item:=by
  intro X hP hw hK hc i pins s sv H E I hf st hg
  subst hP hw hK
  obtain⟨⟨⟨old,he⟩,hit⟩,hne,hle⟩:=st
  have hi:i<x.cps.size:=hg
  have hh:X.A.in1.handled=none:=by have:=I.ok.hd hc;exact this
  have D:Draws X.prog X.w X.A.in1 it [it] x.cps.size (fun i v=>∃ c u,x.cps[i]? =some c∧v=.str ⟨#[c]⟩ u) (fun i h=>h.IsStrIter it (strIterType x) x t i):=by
   unfold strIterType
   split
   ·exact Draws.strAscii hh it x t
   ·exact Draws.strWide hh it x t
  have hel:e<s.heap.objs.size:=Heap.lt_size he
  have hil:it<s.heap.objs.size:=by obtain⟨_,q,_⟩:=hit;exact Heap.lt_size q
  refine wpAny_pyNext_enum_itemD D he hit hi hne (by simpa using hne) fun y h' tk hy ho hit' hT hsz hk=>?_
  obtain⟨c,u,hcx,rfl⟩:=hy
  refine⟨_,rfl,wpAny_letOwnedTupleGo_enum (s:={ s with heap:=h',toks:=tk+1 }) ho fun h'' he' sb=>?_⟩
  have hT2:h''.get? s.heap.objs.size=some { cls:=.type "tuple",data:=.seq #[.int i tk,.str ⟨#[c]⟩ u] }:=(sb.2 _ (Nat.ne_of_gt hel)).trans hT
  have new:ObjOk X.prog X.w (upd H s.heap.objs.size (.tup [.int (i:Nat),.str ⟨#[c]⟩])) h'' s.heap.objs.size (.tup [.int (i:Nat),.str ⟨#[c]⟩]):=
   ⟨by show 2≤sizeLine;decide,[.int i tk,.str ⟨#[c]⟩ u],.cons ⟨_,rfl⟩ (.cons ⟨_,rfl⟩ .nil),⟨_,hT2,rfl,_,rfl⟩⟩
  have I1:Inv X pins sv (upd H s.heap.objs.size (.tup [.int (i:Nat),.str ⟨#[c]⟩])) { s with heap:=h'',toks:=tk+1 }:=
   I.turnedNew (ch:=[e,it]) (fun b ob hb q=>(sb.2 b (fun z=>hb (by simp[z]))).trans (hk b ob (fun z=>hb (by simp[z])) (fun z=>hb (by simp[z])) q)) hf (Nat.le_refl _) new
  refine⟨.ref s.heap.objs.size,_,I1,rfl,⟨_,c,rfl,I.hok.fresh (Nat.le_refl _),rfl,hcx⟩,⟨⟨⟨.str ⟨#[c]⟩ u,?_⟩,?_⟩,hne,hi⟩,fun b hb=>?_⟩
  ·have e1:((i+1:Nat):Int)=(i:Int)+1:=by omega
   rw[e1];exact he'
  ·obtain⟨o,q1,q2⟩:=hit'
   exact⟨o,(sb.2 it (Ne.symm hne)).trans q1,q2⟩
  ·have hb':b<s.heap.objs.size:=by
    have e':b=e∨b=it:=by simpa using hb
    rcases e' with z | z
    ·rw[z];exact hel
    ·rw[z];exact hil
   rw[upd_ne (Nat.ne_of_lt hb')]
   exact(hf b hb).1
 done:=by
  intro X hP hw hK hc i pins s sv H E I hf st hg
  subst hP hw hK
  obtain⟨⟨⟨old,he⟩,hit⟩,hne,hle⟩:=st
  have hh:X.A.in1.handled=none:=by have:=I.ok.hd hc;exact this
  have D:Draws X.prog X.w X.A.in1 it [it] x.cps.size (fun i v=>∃ c u,x.cps[i]? =some c∧v=.str ⟨#[c]⟩ u) (fun i h=>h.IsStrIter it (strIterType x) x t i):=by
   unfold strIterType
   split
   ·exact Draws.strAscii hh it x t
   ·exact Draws.strWide hh it x t
  have hi:i=x.cps.size:=Nat.le_antisymm hle hg
  obtain⟨f0,f1,f2,f3,f4,f5⟩:=hf it (by simp)
  exact wpAny_pyNext_enum_endD D he (hi▸hit) fun h' eb=>⟨rfl,I.turned (t':=s.toks) (fun b o hb q=>eb b o hb q) f0 f1 f3 f4 f5⟩
 self:=fun A i s Q E st h=>let ⟨⟨⟨_,he⟩,_⟩,_⟩:=st;wpAny_pyIter_enum he h
def Jx(ta:TA):TI:=fun sv H R=>ta sv H fun vs H1=>∃ x,vs=[.str x]∧R (DG x) H1
theorem FL{X:Cx}{e:Expr}{ta:TA}{p pos tpos:Pos}{elts:List Expr}{kk:Nat}(hg:Gl X "enumerate")(hm:X.mg "enumerate"=none)(ha:PA X [e] ta)(hs:starEach [e] X.env=[(false,eval e X.env)]):
  PI X (.Tuple elts kk tpos) (.Call (.Name "enumerate" p) [e] [] pos) (Jx ta):=by
 refine⟨fun pins s sv H R I h=>?_⟩
 refine Call_ (ld_blt I hg hm boot_enumerate (PyProof.Rows.callWith_type1 (thn (ha.run pos pins s sv H _ I h) fun us s1 ⟨vs,H1,I1,r1,q1⟩=>?_) hs rfl))
 obtain⟨x,ex,q⟩:=q1
 subst ex
 cases r1 with
 | cons r rr=>
  cases rr
  obtain⟨t,rfl⟩:=r
  refine call_enumerate_str fun h' he hit hsz hk=>wpAny_pyIter_enum he ?_
  have I2:Inv X pins sv H1 { s1 with heap:=h' }:=I1.kept (t':=s1.toks) hk
  refine⟨s1.heap.objs.size+1,[s1.heap.objs.size+1,s1.heap.objs.size],_,_,H1,rfl,I2,C6 x t (s1.heap.objs.size+1) s1.heap.objs.size,⟨⟨⟨.none,he⟩,hit⟩,Nat.succ_ne_self _,Nat.zero_le _⟩,fun b hb=>?_,q⟩
  have e':b=s1.heap.objs.size+1∨b=s1.heap.objs.size:=by simpa using hb
  have hle:s1.heap.objs.size≤b:=by
   rcases e' with z | z
   ·rw[z];exact Nat.le_add_right _ _
   ·rw[z];exact Nat.le_refl _
  exact I1.fpOk hle (I1.hok.fresh hle)
section
variable{C:Cst}{Z Z':Hp}{loc loc':List Addr}{s s':State}{sv sv':L2.St}{H H':Hp}
variable{X:Cx}{e a b c tg:Expr}{es:List Expr}{pos:Pos}{f fa fb fc fo fi fv:State→Res RV}
theorem CZ{x:Str}:Walk (DG x) x.cps.size (fun _=>True) (YPair (fun i=>some (.int (i:Nat))) (fun i=>x.cps[i]?.map fun c=>.str ⟨#[c]⟩)):=by
 refine⟨fun i _ hi q=>hi,fun _ q=>Nat.le_refl _,fun i H v H' _ q y=>?_⟩
 obtain⟨T,c,h1,h2,h3,h4⟩:=y
 exact⟨T,.int (i:Nat),.str ⟨#[c]⟩,h1,h2,h3,rfl,by simp[h4]⟩
theorem Ku{t:List Nat}:∃ G Y,WalkS C Z loc (t.mapIdx fun i c=>.d (.tup [.int i,.str [c]])) (DG ⟨t.toArray⟩) G Y:=by
 refine⟨_,_,by simpa using CZ (x:=⟨t.toArray⟩),fun _ _ _ _ _ _ _=>trivial,fun Z' loc' s sv H i x v H' g r hx y=>?_⟩
 rw[List.getElem?_mapIdx]at hx
 obtain⟨d,h1,rfl⟩:=Option.map_eq_some_iff.mp hx
 refine Hm r y (fun u e=>by cases e;rfl) fun u e=>?_
 simp[h1]at e
 subst e
 rfl
theorem SR.G3(r:SR C Z loc s sv H){d:Addr}{u:HO}{od:Obj}(hd:H d=some (.frz od u)):
  CLe C { C with H0:=upd C.H0 d (.frz od u) }∧SR { C with H0:=upd C.H0 d (.frz od u) } Z loc s sv H:=by
 refine⟨⟨rfl,rfl,rfl,fun b o w e=>?_⟩,⟨r.fr,r.zh,r.zf,fun b o w e=>?_,r.ln,r.nd,r.lh,r.cl,r.vl,r.ow,r.oi,r.ls⟩⟩
 ·show upd C.H0 d _ b=_
  by_cases hb:b=d
  ·subst hb
   rw[r.lk b o w e]at hd
   cases hd
   exact upd_same
  ·rw[upd_ne hb];exact e
 ·have e:upd C.H0 d (.frz od u) b=some (.frz o w):=e
  by_cases hb:b=d
  ·subst hb
   rw[upd_same]at e
   cases e
   exact hd
  ·rw[upd_ne hb]at e
   exact r.lk b o w e
theorem GP{k:D→State→Res (List Val)}{R:It→Hp→Prop}(h:mQ C (sD f k) sv H R)(hk:∀ d s x s',k d s≠ .exc x s'):
  (∀ Q,aB C f sv H Q)∨∃ d l s1 s2,k d s1=.ok l s2∧∀ Q:VK,(∀ v H1 Z1 l1,SR C Z1 l1 s1 sv H1→ej C.cA Z1 d v→
   (∀ C' J G Y H',CLe C C'→SR C' Z1 l1 s2 sv H'→WalkS C' Z1 l1 l J G Y→R J H')→Q v H1)→aB C f sv H Q:=by
 obtain⟨Z,loc,s,r,q⟩:=h
 unfold sD at q
 cases e:ev f s with
 | stuck=>rw[e]at q;exact q.elim
 | exc x s1=>rw[e]at q;exact .inl fun Q=>aB.NC r e q
 | ok rv s1=>
  rw[e]at q
  simp only[Res.bind]at q
  cases e1:nR rv s1 with
  | stuck=>rw[e1]at q;exact q.elim
  | exc x s2=>exact absurd e1 Hy
  | ok d s2=>
   rw[e1]at q
   simp only[Res.bind]at q
   cases e2:k d s2 with
   | stuck=>rw[e2]at q;exact q.elim
   | exc x s3=>exact absurd e2 (hk _ _ _ _)
   | ok l s3=>
    rw[e2]at q
    refine .inr ⟨d,l,s2,s3,e2,fun Q h=>(aB.Oa r e).imp fun v H1 ⟨Z',l',g,r1,st,rv⟩=>?_⟩
    obtain⟨Z2,g2,r2,q2⟩:=r1.nR rv e1
    exact h v H1 Z2 l' r2 q2 fun C' J G Y H' cl r' wk=>q Z2 l' H' C' J G Y cl (g.trans g2) r' wk
theorem C8{d:D}{x:Exn}:itemsOf d s≠ .exc x s':=by unfold itemsOf;split<;> simp
theorem ES{d:D}{x:Exn}:o8 d s≠ .exc x s':=by unfold o8;split<;> simp
theorem N4{l:List (K0×D)}{v:V}(r:SR C Z loc s sv H)(q:ej C.cA Z (.dic l) v)(Q:VK)
  (h:∀ d od ws C' H',v=.ref d→CLe C C'→SR C' Z loc s sv H'→C'.H0 d=some (.frz od (.dK ws))→H' d=some (.frz od (.dK ws))→kn C.cA Z l ws→Q v H'):
  (∃ d u,v=.ref d∧H d=some u∧sl u=true∧∀ od,Q v (upd H d (.frz od u)))∨Q v H:=by
 obtain⟨d,ws,rfl,hz,q⟩:=q
 rcases r.zh d _ hz with h1 | ⟨_,od,h1⟩
 ·exact .inl ⟨d,.dK ws,rfl,h1,rfl,fun od=>h d od ws _ _ rfl (r.G9 hz rfl h1 od).1 (r.G9 hz rfl h1 od).2 upd_same upd_same q⟩
 ·exact .inr (h d od ws _ _ rfl (r.G3 h1).1 (r.G3 h1).2 upd_same h1 q)
theorem Bu(he:PE X e (aB C f)):PI X tg e (mQ C (sD f itemsOf)):=by
 refine uy (Ai (pi_list he) (Ai (pi_tup he) (Ai (pi_str he) (pi_keys (Ln he))))) fun sv H R h=>?_
 rcases GP h fun _ _ _ _=>C8 with h | ⟨d,l,s1,s2,e1,h⟩
 ·exact .inl (h _)
 ·cases d<;> simp only[itemsOf]at e1<;> cases e1
  ·refine .inr (.inr (.inl (h _ fun v H1 Z1 l1 r q k=>?_)))
   cases q
   obtain⟨G,Y,wk⟩:=MJ (C:=C) (Z:=Z1) (loc:=l1)
   exact⟨_,rfl,k C _ _ _ _ (CLe.refl C) r wk⟩
  ·refine .inr (.inl (h _ fun v H1 Z1 l1 r q k=>?_))
   obtain⟨a,vs,rfl,hz,q⟩:=q
   have wk:=LL (C:=C) (loc:=l1) (K:=X.K) hz q
   exact⟨a,rfl,⟨vs,wk.g Z1 l1 _ sv H1 (Ext.refl _ _) r⟩,k C _ _ _ _ (CLe.refl C) r wk⟩
  ·refine .inl (h _ fun v H1 Z1 l1 r q k=>?_)
   obtain⟨a,vs,rfl,hz,q⟩:=q
   have wk:=Hh (C:=C) (loc:=l1) (K:=X.K) hz q
   exact⟨a,rfl,⟨vs,wk.g Z1 l1 _ sv H1 (Ext.refl _ _) r⟩,k C _ _ _ _ (CLe.refl C) r wk⟩
  ·refine .inr (.inr (.inr (h _ fun v H1 Z1 l1 r q k=>N4 r q (fun x H1=>∃ d o,x=.ref d∧((∃ kvs,H1 d=some (.frz o (.dK kvs))∧R (Itk d o kvs) H1)∨∃ kvs,H1 d=some (.frz o (.dT kvs))∧R (Itkt d o kvs) H1)) fun d od ws C' H' ev c r' h0 hd q'=>?_)))
   obtain⟨G,Y,wk⟩:=LW (C:=C') (Z:=Z1) (loc:=l1) h0 (c.ca▸q')
   exact⟨d,od,ev,.inl ⟨ws,hd,k C' _ _ _ _ c r' wk⟩⟩
theorem Jg{p tpos:Pos}{elts:List Expr}{kk:Nat}(he:PE X e (aB C f))(hg:Gl X "enumerate")(hm:X.mg "enumerate"=none)(hs:notStar e=true):
  PI X (.Tuple elts kk tpos) (.Call (.Name "enumerate" p) [e] [] pos) (mQ C (sD f o8)):=by
 have ha:PA X [e] (tCons (aB C f) tNil):=pa_cons he pa_nil (b5 hs)
 refine uy (Ai (pi_enum hg hm ha (b5 hs)) (FL hg hm ha (b5 hs))) fun sv H R h=>?_
 rcases GP h fun _ _ _ _=>ES with h | ⟨d,l,s1,s2,e1,h⟩
 ·exact .inl (h _)
 ·cases d<;> simp only[o8]at e1<;> cases e1
  ·refine .inr (h _ fun v H1 Z1 l1 r q k=>?_)
   cases q
   obtain⟨G,Y,wk⟩:=Ku (C:=C) (Z:=Z1) (loc:=l1)
   exact⟨_,rfl,k C _ _ _ _ (CLe.refl C) r wk⟩
  ·refine .inl (h _ fun v H1 Z1 l1 r q k=>?_)
   obtain⟨a,vs,rfl,hz,q⟩:=q
   obtain⟨G,Y,wk⟩:=Mp (C:=C) (loc:=l1) (K:=X.K) hz q
   exact⟨a,vs,rfl,(Hh (C:=C) (loc:=l1) (K:=X.K) hz q).g Z1 l1 _ sv H1 (Ext.refl _ _) r,k C _ _ _ _ (CLe.refl C) r wk⟩
def BM(C:Cst)(Z:Hp)(loc:List Addr)(sv:L2.St)(r:Res (List Val))(R:It→Hp→Prop):Prop:=
 match r with
 | .ok l s'=>∀ Z' loc' H' C' J G Y,CLe C C'→Ext Z loc Z' loc'→SR C' Z' loc' s' sv H'→WalkS C' Z' loc' l J G Y→R J H'
 | .exc x s'=>∀ Z' loc' H' c d,Ext Z loc Z' loc'→SR C Z' loc' s' sv H'→lW C Z' H' x c d→C.W c d sv H'
 | .stuck=>False
theorem BM.ext{r:Res (List Val)}{R:It→Hp→Prop}(h:BM C Z loc sv r R)(g:Ext Z loc Z' loc'):BM C Z' loc' sv r R:=by
 cases r with
 | stuck=>exact h
 | ok l s=>exact fun Z2 l2 H2 C' J G Y c g2=>h Z2 l2 H2 C' J G Y c (g.trans g2)
 | exc x s=>exact fun Z2 l2 H2 c d g2=>h Z2 l2 H2 c d (g.trans g2)
def kX(fs:State→Res (List RV))(k:List RV→State→Res (List Val))(s:State):Res (List Val):=(fs s).bind k
theorem K3{fs:State→Res (List RV)}{k:List RV→State→Res (List Val)}{R:It→Hp→Prop}(h:mQ C (kX fs k) sv H R):
  gk C fs sv H fun vs H1=>∃ Z loc s xs,SR C Z loc s sv H1∧ll C Z loc s sv H1 xs vs∧BM C Z loc sv (k xs s) R:=by
 obtain⟨Z,loc,s,r,q⟩:=h
 refine⟨Z,loc,s,r,?_⟩
 unfold kX at q
 cases e:fs s with
 | stuck=>rw[e]at q;exact q.elim
 | exc x s1=>rw[e]at q;exact q
 | ok xs s1=>
  rw[e]at q
  exact fun Z' l' H' vs g r' q'=>⟨Z',l',s1,xs,r',q',BM.ext (r:=k xs s1) q g⟩
def dvs(s:State):List RV→Option (List D)
 | []=>some []
 | r::rs=>match Vw.dv s r,dvs s rs with
  | some d,some ds=>some (d::ds)
  | _,_=>none
theorem SR.dvs(r:SR C Z loc s sv H):∀ {rs:List RV} {vs:List V} {ds:List D},ll C Z loc s sv H rs vs→dvs s rs=some ds→gV C.cA Z ds vs
 | [],vs,ds,h,e=>by cases e;exact h
 | x::l,vs,ds,⟨v,t,e1,st,q,h⟩,e=>by
  unfold Vw.dvs at e
  split at e
  ·rename_i d ds' e2 e3
   cases e
   exact⟨v,t,e1,r.dv q e2,SR.dvs r h e3⟩
  ·cases e
def mW(xs:List RV)(s:State):Res (List Val):=
 match dvs s xs with
 | some [.int j]=>pU 0 j s
 | _=>.stuck
def uQ(xs:List RV)(s:State):Res (List Val):=
 match dvs s xs with
 | some [.int i,.int j]=>pU i j s
 | _=>.stuck
theorem xG{p:Pos}{fs:State→Res (List RV)}(ha:PA X [a] (gk C fs))(hg:Gl X "range")(hm:X.mg "range"=none)(hs:notStar a=true):
  PI X tg (.Call (.Name "range" p) [a] [] pos) (mQ C (kX fs mW)):=by
 refine uy (pi_range1 hg hm ha (b5 hs)) fun sv H R h=>(K3 h).imp fun vs H1 ⟨Z,loc,s,xs,r,q,h⟩=>?_
 unfold mW at h
 split at h
 ·rename_i j e
  obtain⟨v,t,rfl,hv,ht⟩:=r.dvs q e
  cases ht;cases hv
  unfold pU at h
  split at h
  ·rename_i b
   obtain⟨G,Y,wk⟩:=G4 (C:=C) (Z:=Z) (loc:=loc) (lo:=0) (n:=j.toNat)
   exact⟨j,rfl,b.2.2.1,b.2.2.2,h Z loc H1 C _ _ _ (CLe.refl C) (Ext.refl _ _) r (by simpa using wk)⟩
  ·exact h.elim
 ·exact h.elim
theorem EC{p:Pos}{fs:State→Res (List RV)}(ha:PA X [a,b] (gk C fs))(hg:Gl X "range")(hm:X.mg "range"=none)(hs:notStar a=true)(hs2:notStar b=true):
  PI X tg (.Call (.Name "range" p) [a,b] [] pos) (mQ C (kX fs uQ)):=by
 refine uy (pi_range2 hg hm ha (by rw[b5 hs,b5 hs2];rfl) (by rw[b5 hs2];rfl)) fun sv H R h=>(K3 h).imp fun vs H1 ⟨Z,loc,s,xs,r,q,h⟩=>?_
 unfold uQ at h
 split at h
 ·rename_i i j e
  obtain⟨v,t,rfl,hv,w,t',rfl,hw,ht⟩:=r.dvs q e
  cases ht;cases hv;cases hw
  unfold pU at h
  split at h
  ·rename_i b
   obtain⟨G,Y,wk⟩:=G4 (C:=C) (Z:=Z) (loc:=loc) (lo:=i) (n:=(j-i).toNat)
   exact⟨i,j,rfl,b,h Z loc H1 C _ _ _ (CLe.refl C) (Ext.refl _ _) r wk⟩
  ·exact h.elim
 ·exact h.elim
end
end Vw
namespace Vw
open PySem L2 PyProof.Rows
def o3(s:State):RV→Option RV
 | .own i=>match s.sg[i]? with
  | some (some (.own o))=>some (.new o)
  | some (some (.v x))=>some (.val x)
  | _=>none
 | r=>some r
abbrev Fn:=List Val→List Ob→Res RV
def gm(n:Nat)(b:State→Res Fl):Fn:=fun args st=>
 match b ⟨args.map (fun x=>some (.v x))++List.replicate (n-args.length) none,st⟩with
 | .ok .nx s=>.ok (.val (.d .non)) ⟨[],s.st⟩
 | .ok (.ret r) s=>match o3 s r with
  | some r'=>.ok r' ⟨[],s.st⟩
  | none=>.stuck
 | .ok _ _=>.stuck
 | .exc x s=>.exc x ⟨[],s.st⟩
 | .stuck=>.stuck
section
variable{C:Cst}{Z Z':Hp}{loc loc':List Addr}{s s':State}{sv sv':L2.St}{H H':Hp}
theorem SR.leave(r:SR C Z loc s sv H):SR C Z loc ⟨[],s.st⟩ [] H:=
 ⟨r.fr,r.zh,r.zf,r.lk,r.ln,r.nd,r.lh,r.cl,fun i x h=>by simp at h,fun i o h=>by simp at h,fun i j o o' a h=>by simp at h,rfl⟩
theorem SR.o3(r:SR C Z loc s sv H){rv rv':RV}{v:V}(h:cw C Z loc s sv H rv v)(e:o3 s rv=some rv'):cw C Z loc ⟨[],s.st⟩ [] H rv' v:=by
 cases rv with
 | val x=>cases e;exact h
 | new o=>
  cases e
  obtain⟨a,h1,h2,h3,h4⟩:=h
  exact⟨a,h1,h2,h3,h4.z,h4.f,h4.l,fun i o h=>by simp at h⟩
 | own i=>
  dsimp only[Vw.o3]at e
  split at e
  ·rename_i o h1
   cases e
   obtain⟨a,q1,q2,q3,q4,q5,q6⟩:=r.ow i o h1
   have h:sv[i]? =some (some v):=h
   rw[q1]at h
   cases h
   exact⟨a,rfl,q2,q3,q4,q5,q6,fun i o h=>by simp at h⟩
  ·rename_i x h1
   cases e
   obtain⟨w,q1,q2⟩:=r.vl i x h1
   have h:sv[i]? =some (some v):=h
   rw[q1]at h
   cases h
   exact q2
  ·cases e
def Hg(C:Cst)(Z:Hp)(loc:List Addr)(r:Res RV)(Q:VK):Prop:=
 match r with
 | .ok rv s'=>∀ Z' loc' H' v,Ext Z loc Z' loc'→SR C Z' loc' ⟨[],s'.st⟩ [] H'→cw C Z' loc' ⟨[],s'.st⟩ [] H' rv v→Q v H'
 | .exc x s'=>∀ Z' loc' H' c d,Ext Z loc Z' loc'→SR C Z' loc' ⟨[],s'.st⟩ [] H'→lW C Z' H' x c d→C.W c d [] H'
 | .stuck=>False
def iE(cA:String→Addr)(Fr H0:Hp)(E:XK):Cst:=⟨cA,Fr,H0,fun c d _ H=>E c d H⟩
def dV(cA:String→Addr)(n:Nat)(g:Fn):Sp:=fun vs H Q E=>∃ Fr H0 Z loc args st,SR (iE cA Fr H0 E) Z loc ⟨[],st⟩ [] H∧bC cA Z loc args vs∧args.length=n∧Hg (iE cA Fr H0 E) Z loc (g args st) Q
theorem Ga{cA:String→Addr}{l:List Val}{vs:List V}(h:bC cA Z loc l vs):l.length=vs.length:=cP (C:=iE cA (fun _=>none) (fun _=>none) fun _ _ _=>True) h
theorem y8{cA:String→Addr}{n:Nat}{g:Fn}(vs:List V)(H:Hp)(Q:VK)(E:XK)(h:dV cA n g vs H Q E):vs.length=n:=by
 obtain⟨Fr,H0,Z,loc,args,st,r,q,e,_⟩:=h
 rw[←e,Ga q]
theorem SR.enter{cA:String→Addr}{Fr H0:Hp}{E:XK}{st:List Ob}{args:List Val}{vs:List V}(r:SR (iE cA Fr H0 E) Z loc ⟨[],st⟩ [] H)(q:bC cA Z loc args vs)(m:Nat):
  SR (iE cA Fr H0 E) Z loc ⟨args.map (fun x=>some (.v x))++List.replicate m none,st⟩ (vs.map some++List.replicate m none) H:=by
 have hl:=Ga q
 have noOwn:∀ (i:Nat) (o:Ob),(args.map (fun x=>some (Sl.v x))++List.replicate m none)[i]? ≠some (some (.own o)):=fun i o h=>by
  by_cases hi:i<args.length
  ·rw[List.getElem?_append_left (by simpa using hi)]at h
   simp[hi]at h
  ·rw[List.getElem?_append_right (by simpa using hi)]at h
   have:=List.getElem?_eq_some_iff.mp h
   simp at this
 refine⟨r.fr,r.zh,r.zf,r.lk,r.ln,r.nd,r.lh,r.cl,fun i x h=>?_,fun i o h=>absurd h (noOwn i o),fun i j o o' a h=>absurd h (noOwn i o),by simp[hl]⟩
 by_cases hi:i<args.length
 ·have h:(args.map (fun x=>some (Sl.v x))++List.replicate m none)[i]? =some (some (.v x)):=h
  rw[List.getElem?_append_left (by simpa using hi)]at h
  simp[hi]at h
  subst h
  obtain⟨v,q1,q2⟩:=jY (C:=iE cA Fr H0 E) q (i:=i) (x:=args[i]) (by simp[hi])
  refine⟨v,?_,q2⟩
  rw[List.getElem?_append_left (by simp;omega)]
  simp[q1]
 ·have h:(args.map (fun x=>some (Sl.v x))++List.replicate m none)[i]? =some (some (.v x)):=h
  rw[List.getElem?_append_right (by simpa using hi)]at h
  have:=List.getElem?_eq_some_iff.mp h
  simp at this
end
section
variable{P:Program}{w:World}{K:PySem.W.Frag}{mg:Str→Option Value}{base:Heap}{x qual:Str}{params:Arguments}{body:List Stmt}{scope:Scope}{f:Addr}{fd:FuncData}{N ps:List Str}{cA:String→Addr}{b:State→Res Fl}
theorem zt{Fr H0 Z:Hp}{loc:List Addr}{args:List Val}{st:List Ob}{vs:List V}{H:Hp}{Q:VK}{E:XK}(r:SR (iE cA Fr H0 E) Z loc ⟨[],st⟩ [] H)(q:bC cA Z loc args vs)(hl:args.length=ps.length)
  (h:Hg (iE cA Fr H0 E) Z loc (gm N.length b args st) Q) (hW:∀ c d H',E c d H'→(iE cA Fr H0 E).W c d [] H'):fY (iE cA Fr H0 E) b { nx:=fun _ H'=>Q .non H',rt:=Q } (L2.start N vs) H:=by
 have hv:=Ga q
 have es:L2.start N vs=vs.map some++List.replicate (N.length-args.length) none:=by unfold L2.start;rw[hv]
 rw[es]
 refine⟨Z,loc,_,SR.enter r q (N.length-args.length),?_⟩
 unfold gm at h
 cases e:b ⟨args.map (fun x=>some (.v x))++List.replicate (N.length-args.length) none,st⟩with
 | stuck=>rw[e]at h;exact h
 | exc y s1=>rw[e]at h;exact fun Z' l' sv' H' c d g r' x'=>h Z' l' H' c d g r'.leave x'
 | ok k s1=>
  rw[e]at h
  cases k with
  | nx=>exact fun Z' l' sv' H' g r'=>h Z' l' H' .non g r'.leave rfl
  | brk=>exact False.elim h
  | cnt=>exact False.elim h
  | ret rv=>
   dsimp only at h
   split at h
   ·rename_i rv' e2
    exact fun Z' l' sv' H' v g r' q'=>h Z' l' H' v g r'.leave (r'.o3 q' e2)
   ·exact h.elim
theorem fn_ok{k:Nat}(F:FunD K x qual params body scope [] [] f fd)(S:FnScope N ps scope)
  (hb:∀ (cdv:Value) (A:Around) (outer:List Env) (s:Shared) (H:Hp) (E:XK) (C:Cst),Room k (A.deeper (envOfC qual scope s.heap.objs.size f cdv))→C.cA=cA→PSs (cxOf CX0 P w K mg base N qual scope f cdv A outer s H E).nox body (fY C b)):
  FnOk P w K mg base CX0 (k+1) f fd ps (dV cA ps.length (gm N.length b)):=by
 refine F.ok S y8 fun cdv A outer s H vs Q E hr h=>?_
 obtain⟨Fr,H0,Z,loc,args,st,r,q,hl,h⟩:=h
 exact⟨_,PSs.nox (hb cdv A outer s H E (iE cA Fr H0 E) hr rfl),zt (ps:=ps) r q hl h fun _ _ _ z=>z⟩
end
open Classical in
noncomputable def i6(H Z:Hp)(loc:List Addr):Hp:=fun a=>if Z a=none∧a∉loc then H a else none
theorem qq{H Z:Hp}{loc:List Addr}{a:Addr}(h:Z a=none)(h':a∉loc):i6 H Z loc a=H a:=by unfold i6;rw[if_pos ⟨h,h'⟩]
theorem nt{H Z:Hp}{loc:List Addr}{a:Addr}{o:HO}(h:i6 H Z loc a=some o):H a=some o∧Z a=none∧a∉loc:=by
 unfold i6 at h
 split at h
 ·rename_i q;exact⟨h,q.1,q.2⟩
 ·cases h
section
variable{C:Cst}{Z Z':Hp}{loc loc':List Addr}{s s':State}{sv sv':L2.St}{H H':Hp}
variable{X:Cx}{e a b c o:Expr}{es:List Expr}{p pos apos:Pos}{f fa fb fc fo fi fv:State→Res RV}
theorem SR.entry(r:SR C Z loc s sv H)(E:XK):SR (iE C.cA (i6 H Z loc) C.H0 E) Z loc ⟨[],s.st⟩ [] H:=by
 refine⟨fun a o h=>(nt h).1,r.zh,fun a o h=>?_,r.lk,r.ln,r.nd,fun a h=>⟨(r.lh a h).1,?_⟩,r.cl,fun i x h=>by simp at h,fun i o h=>by simp at h,fun i j o o' a h=>by simp at h,rfl⟩
 ·cases e:i6 H Z loc a with
  | none=>exact e
  | some u=>rw[(nt e).2.1]at h;cases h
 ·cases e:i6 H Z loc a with
  | none=>exact e
  | some u=>exact absurd h (nt e).2.2
theorem SR.oD(r:SR C Z loc s sv H){a:Addr}{o:HO}(h:C.Fr a=some o):Z a=none∧a∉loc:=by
 refine⟨?_,fun z=>?_⟩
 ·cases e:Z a with
  | none=>rfl
  | some u=>rw[r.zf a u e]at h;cases h
 ·rw[(r.lh a z).2]at h;cases h
theorem SR.back(r:SR C Z loc s sv H){E:XK}{st:List Ob}(g:Ext Z loc Z' loc')(r':SR (iE C.cA (i6 H Z loc) C.H0 E) Z' loc' ⟨[],st⟩ [] H'):SR C Z' loc' ⟨s.sg,st⟩ sv H':=by
 have z0:∀ {a:Addr},Z a=none→a∉loc→H a≠none→Z' a=none∧a∉loc'∧H' a=H a:=fun {a} h1 h2 h3=>by
  cases e:H a with
  | none=>exact absurd e h3
  | some u=>
   have f:=(qq (H:=H) h1 h2).trans e
   obtain⟨q1,q2⟩:=r'.oD (a:=a) f
   exact⟨q1,q2,r'.fr a u f⟩
 have fz:∀ {a:Addr} {o:HO},C.Fr a=some o→Z' a=none∧a∉loc'∧H' a=some o:=fun {a o} h=>by
  obtain⟨q1,q2⟩:=r.oD h
  have e:=r.fr a o h
  obtain⟨q3,q4,q5⟩:=z0 q1 q2 (by rw[e];simp)
  exact⟨q3,q4,q5.trans e⟩
 refine⟨fun a o h=>(fz h).2.2,r'.zh,fun a o h=>?_,r'.lk,r'.ln,r'.nd,fun a h=>⟨(r'.lh a h).1,?_⟩,r'.cl,fun i x h=>?_,fun i o h=>?_,r.oi,r.ls⟩
 ·cases e:C.Fr a with
  | none=>rfl
  | some u=>rw[(fz e).1]at h;cases h
 ·cases e:C.Fr a with
  | none=>rfl
  | some u=>exact absurd h (fz e).2.1
 ·obtain⟨v,q1,q2⟩:=r.vl i x h
  exact⟨v,q1,cy.mono g x q2⟩
 ·obtain⟨a,q1,q2,q3,q4,q5,q6⟩:=r.ow i o h
  obtain⟨w1,w2,w3⟩:=z0 q4 q6 (mI q2 q3)
  exact⟨a,q1,q2,(q3.at w3).mono g (Same.refl _),w1,q5,w2⟩
theorem cw.back(r:SR C Z loc s sv H){E:XK}{st:List Ob}{rv:RV}{v:V}(r':SR (iE C.cA (i6 H Z loc) C.H0 E) Z' loc' ⟨[],st⟩ [] H')(q:cw (iE C.cA (i6 H Z loc) C.H0 E) Z' loc' ⟨[],st⟩ [] H' rv v):cw C Z' loc' ⟨s.sg,st⟩ sv H' rv v:=by
 cases rv with
 | val x=>exact q
 | own i=>exact absurd (show([]:L2.St)[i]? =some (some v)from q) (by simp)
 | new o=>
  obtain⟨a,h1,h2,h3,h4⟩:=q
  refine⟨a,h1,h2,h3,h4.z,?_,h4.l,fun i o h e=>?_⟩
  ·cases e:C.Fr a with
   | none=>rfl
   | some u=>
    obtain⟨q1,q2⟩:=r.oD e
    have:=(qq (H:=H) q1 q2).trans (r.fr a u e)
    have f:=h4.f
    rw[show(iE C.cA (i6 H Z loc) C.H0 E).Fr a=_ from this]at f
    cases f
  ·obtain⟨b,q1,q2,q3,q4,q5,q6⟩:=r.ow i o h
   rw[e]at q1
   cases q1
   have f:=h4.f
   rw[show(iE C.cA (i6 H Z loc) C.H0 E).Fr a=_ from qq q4 q6]at f
   exact mI q2 q3 f
def ey(g:Fn)(args:List Val)(s:State):Res RV:=
 match g args s.st with
 | .ok r s2=>.ok r ⟨s.sg,s2.st⟩
 | _=>.stuck
def bF(n:Nat)(fs:State→Res (List RV))(g:Fn)(s:State):Res RV:=(fs s).bind fun rs s=>(bE rs s).bind fun args s=>if args.length=n then ey g args s else .stuck
theorem gk.at{fs:State→Res (List RV)}{k:List RV→State→Res RV}{Q:VK}(h:aB C (fun s=>(fs s).bind k) sv H Q):
  gk C fs sv H fun vs H1=>∃ Z loc s xs,SR C Z loc s sv H1∧ll C Z loc s sv H1 xs vs∧EPost C Z loc sv (k xs s) Q:=by
 obtain⟨Z,loc,s,r,q⟩:=h
 refine⟨Z,loc,s,r,?_⟩
 cases e:fs s with
 | stuck=>simp only[e,Res.bind]at q;exact q
 | exc x s1=>simp only[e,Res.bind]at q;exact q
 | ok xs s1=>
  simp only[e,Res.bind]at q
  exact fun Z' l' H' vs g r' q'=>⟨Z',l',s1,xs,r',q',EPost.ext q g⟩
theorem GH{g:Fn}{n:Nat}{args:List Val}{vs:List V}{Q:VK}(r:SR C Z loc s sv H)(q:bC C.cA Z loc args vs)(hn:args.length=n)(h:EPost C Z loc sv (ey g args s) Q):dV C.cA n g vs H Q E0:=by
 refine⟨i6 H Z loc,C.H0,Z,loc,args,s.st,r.entry _,q,hn,?_⟩
 unfold ey at h
 cases e:g args s.st with
 | stuck=>rw[e]at h;exact h
 | exc x s1=>rw[e]at h;exact h.elim
 | ok rv s1=>
  rw[e]at h
  exact fun Z' l' H' v g r' q'=>h Z' l' H' v g (r.back g r') (cw.back r r' q')
theorem Lh{CX:CXT}{k:Nat}{fA:Addr}{fd:FuncData}{ps:List Str}{x:Str}{g:Fn}{fs:State→Res (List RV)}(F:FnOk X.prog X.w X.K X.mg X.base CX k fA fd ps (dV C.cA ps.length g))(hr:Room k X.A)(hg:Gl X x)(hm:X.mg x=some (.ref fA))(hk:PySem.W.keepIn X.K (.ref fA)=true)
  (hb:Binds X.K fd ps []) (hx:Passes CX X E0) (ha:PA X (e::es) (gk C fs)) (hdb:(x==("__debug__":Str))=false) (hs:(e::es).all notStar=true):
  PE X (.Call (.Name x p) (e::es) [] pos) (aB C (bF ps.length fs g)):=by
 have hs':=hs
 simp only[List.all_cons,Bool.and_eq_true]at hs
 refine cf (pe_call F hr hg hm hk hb .nil hx ha hdb (b5 hs.1) (i5 hs.2)) fun sv H Q h=>(gk.at h).imp fun vs H1 ⟨Z,loc,s,xs,r,q,h⟩=>?_
 rw[List.append_nil]
 cases e1:bE xs s with
 | stuck=>rw[e1]at h;exact h.elim
 | exc x s1=>exact absurd e1 j9
 | ok args s1=>
  rw[e1]at h
  simp only[Res.bind]at h
  obtain⟨Z1,g1,r1,q1⟩:=r.bE q e1
  split at h
  ·rename_i hn
   exact GH r1 q1 hn (EPost.ext h g1)
  ·exact h.elim
end
end Vw
namespace Vw
open PySem L2 PyProof.Rows
section
variable{C:Cst}{Z Z' Zc:Hp}{loc loc':List Addr}{s s':State}{sv sv':L2.St}{H H':Hp}
variable{X:Cx}{e a b c o:Expr}{es:List Expr}{p pos apos:Pos}{f fa fb fc fo fi fv:State→Res RV}
structure GoodZ (Z H Zc:Hp):Prop where
 up:Same Z Zc
 at_:∀ (a:Addr) (o:HO),Zc a=some o→Z a=some o∨(H a=some o∧sl o=false)
theorem GoodZ.refl:GoodZ Z H Z:=⟨Same.refl _,fun a o h=>.inl h⟩
theorem GoodZ.rz(g:GoodZ Z H Zc)(r:SR C Z loc s sv H){a:Addr}{o:HO}(h:Zc a=some o):Rz H a o:=(g.at_ a o h).elim (r.zh a o) fun q=>.inl q.1
theorem SR.look(r:SR C Z loc s sv H)(g:GoodZ Z H Zc)(E:XK):SR (iE C.cA (i6 H Zc []) C.H0 E) Zc [] ⟨[],[]⟩ [] H:=by
 refine⟨fun a o h=>(nt h).1,fun a o h=>g.rz r h,fun a o h=>?_,r.lk,rfl,List.nodup_nil,fun a h=>by simp at h,fun n a o h=>by simp at h,fun i x h=>by simp at h,fun i o h=>by simp at h,fun i j o o' a h=>by simp at h,rfl⟩
 cases e:i6 H Zc [] a with
 | none=>exact e
 | some u=>rw[(nt e).2.1]at h;cases h
end
end Vw
namespace Vw
open PySem L2 PyProof.Rows
def jB(g:Slots):List Nat→Slots
 | []=>g
 | v::vs=>(jB g vs).set v none
def fE(vs:List Nat)(s:State):State:={ s with sg:=jB s.sg vs }
def sL(vs:List Nat)(t:Tg)(ft:State→Res Bool)(fe:State→Res RV):List Val→List Val→State→Res (List Val)
 | [],acc,s=>.ok acc s
 | x::l,acc,s=>match ji t x (fE vs s)with
  | none=>.stuck
  | some s=>match ft s with
   | .ok true s=>match fe s with
    | .ok rv s=>match d8 rv s with
     | .ok y s=>if acc.length<sizeLine then sL vs t ft fe l (acc++[y]) (fE vs s)else .stuck
     | _=>.stuck
    | _=>.stuck
   | .ok false s=>sL vs t ft fe l acc (fE vs s)
   | _=>.stuck
def DV(acc:List Val)(s:State):Res RV:=.ok (.new (.lst acc)) s
def lS(vs:List Nat)(t:Tg)(src:State→Res (List Val))(ft:State→Res Bool)(fe:State→Res RV)(s:State):Res RV:=(src s).bind fun l s=>(sL vs t ft fe l [] (fE vs s)).bind DV
section
variable{C:Cst}{Z Z' Zc:Hp}{loc loc':List Addr}{s s':State}{sv sv':L2.St}{H H':Hp}
variable{X:Cx}{elt tg iter:Expr}{ifs:List Expr}{scope:Scope}{own:List (Str×Nat)}{p pos:Pos}{f fa fb fc fo fi fv fe:State→Res RV}{ft:State→Res Bool}
theorem SR.wipe(r:SR C Z loc s sv H):∀ vs:List Nat,SR C Z loc (fE vs s) (L2.wipe sv vs) H
 | []=>r
 | v::vs=>(SR.wipe r vs).unset v none
theorem xK{g:Slots}{i:Nat}{x:Sl}:∀ {vs:List Nat},(jB g vs)[i]? =some (some x)→g[i]? =some (some x)
 | [],h=>h
 | v::vs,h=>by
  unfold jB at h
  rcases dI h with⟨_,q⟩ | ⟨_,q⟩
  ·cases q
  ·exact xK q
theorem SR.Jt{vs:List Nat}(r:SR C Z loc s (L2.wipe sv vs) H):SR C Z loc s sv H:=by
 refine⟨r.fr,r.zh,r.zf,r.lk,r.ln,r.nd,r.lh,r.cl,fun i x h=>?_,fun i o h=>?_,fun i j o o' a h h' h1 h2=>?_,by rw[r.ls,wipe_length]⟩
 ·obtain⟨v,q1,q2⟩:=r.vl i x h
  exact⟨v,(wipe_some q1).1,q2⟩
 ·obtain⟨a,q1,q2⟩:=r.ow i o h
  exact⟨a,(wipe_some q1).1,q2⟩
 ·obtain⟨b,q1,_⟩:=r.ow i o h
  obtain⟨c,q2,_⟩:=r.ow j o' h'
  have e1:=(wipe_some q1).1
  have e2:=(wipe_some q2).1
  rw[h1]at e1
  rw[h2]at e2
  cases e1;cases e2
  exact r.oi i j o o' _ h h' q1 q2
theorem Free.wipe{D:Addr}(f:Free C Z loc s sv D)(vs:List Nat):Free C Z loc (fE vs s) (L2.wipe sv vs) D:=
 ⟨f.z,f.f,f.l,fun i o h e=>f.o i o (xK h) (wipe_some e).1⟩
theorem yq{i:Nat}:∀ {vs:List Nat},i∈vs→i<sv.length→(L2.wipe sv vs)[i]? =some none
 | [],h,_=>by simp at h
 | v::vs,h,hl=>by
  unfold L2.wipe
  by_cases hv:v=i
  ·subst hv
   exact List.getElem?_set_self (by rw[wipe_length];exact hl)
  ·rw[List.getElem?_set_ne hv]
   exact yq (by simpa [Ne.symm hv]using h) hl
theorem BE{vs l:List Nat}(h:Off l (L2.wipe sv vs) sv')(hl:∀ i∈l,i∈vs):L2.wipe sv' vs=L2.wipe sv vs:=by
 have len:sv'.length=sv.length:=by rw[h.1,wipe_length]
 refine List.ext_getElem? fun i=>?_
 by_cases hi:i<sv.length
 ·by_cases hv:i∈vs
  ·rw[yq hv hi,yq hv (by rw[len];exact hi)]
  ·rw[wipe_out hv,h.2 i fun z=>hv (hl i z)]
 ·rw[List.getElem?_eq_none (by rw[wipe_length,len];omega),List.getElem?_eq_none (by rw[wipe_length];omega)]
theorem zq(vs:List Nat):L2.wipe (L2.wipe sv vs) vs=L2.wipe sv vs:=BE (l:=vs) ⟨rfl,fun _ _=>rfl⟩ fun _ h=>h
def pT(C:Cst)(D:Addr)(o:HO):Cst:=⟨C.cA,upd C.Fr D o,C.H0,fun _ _ _ _=>False⟩
theorem SR.hold(r:SR C Z loc s sv H){D:Addr}{o:HO}(h:H D=some o)(f:Free C Z loc s sv D):SR (pT C D o) Z loc s sv H:=by
 have ne:∀ {a:Addr},a≠D→(pT C D o).Fr a=C.Fr a:=fun {a} h=>upd_ne h
 refine⟨fun a u q=>?_,r.zh,fun a u q=>?_,r.lk,r.ln,r.nd,fun a q=>⟨(r.lh a q).1,?_⟩,r.cl,r.vl,fun i ob q=>?_,r.oi,r.ls⟩
 ·by_cases ha:a=D
  ·subst ha
   have q:upd C.Fr a o a=some u:=q
   rw[upd_same]at q
   cases q
   exact h
  ·rw[ne ha]at q;exact r.fr a u q
 ·have ha:a≠D:=fun z=>by rw[z,f.z]at q;cases q
  rw[ne ha];exact r.zf a u q
 ·have ha:a≠D:=fun z=>f.l (z▸q)
  rw[ne ha];exact(r.lh a q).2
 ·obtain⟨a,q1,q2,q3,q4,q5,q6⟩:=r.ow i ob q
  have ha:a≠D:=fun z=>f.o i ob q (z▸q1)
  exact⟨a,q1,q2,q3,q4,(ne ha).trans q5,q6⟩
theorem SR.held{D:Addr}{o:HO}(f:C.Fr D=none)(r:SR (pT C D o) Z loc s sv H):SR C Z loc s sv H∧H D=some o∧Free C Z loc s sv D:=by
 have ne:∀ {a:Addr},(pT C D o).Fr a=none→a≠D∧C.Fr a=none:=fun {a} h=>by
  have ha:a≠D:=fun z=>by
   subst z
   have h:upd C.Fr a o a=none:=h
   rw[upd_same]at h
   cases h
  exact⟨ha,(upd_ne ha).symm.trans h⟩
 have hD:(pT C D o).Fr D=some o:=upd_same
 refine⟨⟨fun a u q=>?_,r.zh,fun a u q=>(ne (r.zf a u q)).2,r.lk,r.ln,r.nd,fun a q=>⟨(r.lh a q).1,(ne (r.lh a q).2).2⟩,r.cl,r.vl,fun i ob q=>?_,r.oi,r.ls⟩,r.fr D o hD,⟨?_,f,fun z=>?_,fun i ob q e=>?_⟩⟩
 ·have ha:a≠D:=fun z=>by rw[z,f]at q;cases q
  exact r.fr a u ((upd_ne ha).trans q)
 ·obtain⟨a,q1,q2,q3,q4,q5,q6⟩:=r.ow i ob q
  exact⟨a,q1,q2,q3,q4,(ne q5).2,q6⟩
 ·cases e:Z D with
  | none=>rfl
  | some u=>rw[r.zf D u e]at hD;cases hD
 ·rw[(r.lh D z).2]at hD;cases hD
 ·obtain⟨a,q1,q2,q3,q4,q5,q6⟩:=r.ow i ob q
  rw[e]at q1
  cases q1
  exact(ne q5).1 rfl
theorem SR.Ly(r:SR C Z loc s sv H){D:Addr}{o u:HO}(h:H D=some o)(nf:∀ x w,o≠ .frz x w)(f:Free C Z loc s sv D):SR C Z loc s sv (upd H D u):=by
 refine⟨fun a w q=>?_,fun a w q=>?_,r.zf,fun a w v q=>?_,r.ln,r.nd,fun a q=>⟨?_,(r.lh a q).2⟩,fun n a ob h1 h2 h3=>?_,r.vl,fun i ob q=>?_,r.oi,r.ls⟩
 ·have ha:a≠D:=fun z=>by rw[z,f.f]at q;cases q
  rw[upd_ne ha];exact r.fr a w q
 ·have ha:a≠D:=fun z=>by rw[z,f.z]at q;cases q
  unfold Rz
  rw[upd_ne ha];exact r.zh a w q
 ·have q':=r.lk a w v q
  have ha:a≠D:=fun z=>by
   rw[z,h]at q'
   cases q'
   exact nf _ _ rfl
  rw[upd_ne ha];exact q'
 ·have ha:a≠D:=fun z=>f.l (z▸q)
  rw[upd_ne ha];exact(r.lh a q).1
 ·have ha:a≠D:=fun z=>f.l (z▸List.mem_of_getElem? h1)
  obtain⟨q1,q2⟩:=r.cl n a ob h1 h2 h3
  exact⟨q1.at (upd_ne ha),q2⟩
 ·obtain⟨a,q1,q2,q3,q4,q5,q6⟩:=r.ow i ob q
  have ha:a≠D:=fun z=>f.o i ob q (z▸q1)
  exact⟨a,q1,q2,q3.at (upd_ne ha),q4,q5,q6⟩
theorem Free.Nt{D:Addr}{o:HO}(f:Free C Z loc s sv D)(h:H D=some o)(g:qc H Z H' Z'):Free C Z' loc s sv D:=⟨(g.2 D (by rw[h];simp)).trans f.z,f.f,f.l,f.o⟩
def kS(s:State):Res Bool:=.ok true s
theorem nh:PTs X [] (gD C kS):=⟨fun pins s sv H Q I ⟨Z,loc,s0,r,q⟩=>pts_nil.run pins s sv H Q I (q Z loc H (Ext.refl _ _) r)⟩
abbrev GR(C:Cst)(t:Tg):TG:=fun v sv H Q=>∃ C',C'.cA=C.cA∧qN C' t v sv H Q
abbrev Hb(C:Cst)(ft:State→Res Bool):TT:=fun sv H Q=>∃ C',C'.cA=C.cA∧gD C' ft sv H Q
abbrev Hl(C:Cst)(fe:State→Res RV):TE:=fun sv H Q=>∃ C',C'.cA=C.cA∧aB C' fe sv H Q
theorem EF{t:Tg}{src:State→Res (List Val)}{vs:List Nat}{Q:VK}(hv:∀ i∈zF t,i∈vs)(h:aB C (lS vs t src ft fe) sv H Q):tLc (mQ C src) (GR C t) (Hb C ft) (Hl C fe) vs sv H Q:=by
 obtain⟨Z,loc,s,r,q⟩:=h
 refine⟨Z,loc,s,r,?_⟩
 unfold lS at q
 cases e:src s with
 | stuck=>rw[e]at q;exact q
 | exc x s1=>rw[e]at q;exact q
 | ok l s1=>
  rw[e]at q
  simp only[Res.aa]at q
  intro Z1 l1 H1 C' J G Y cle g1 r1 wk D hD
  have hf:=((r1.wipe vs).free hD)
  have cF:C'.Fr D=none:=hf.f
  refine lc_it (g:=GR C t) (tt:=Hb C ft) (te:=Hl C fe) (vs:=vs) (σ:=sv) wk.w (fun i H=>∃ Z2 l2 s2 acc xs,Ext Z1 l1 Z2 l2∧SR C' Z2 l2 s2 (L2.wipe sv vs) H∧H D=some (.lst xs)∧Free C' Z2 l2 s2 (L2.wipe sv vs) D∧bC C'.cA Z2 l2 acc xs∧EPost C Z2 l2 sv ((sL vs t ft fe (l.drop i) acc s2).bind DV) Q)
   ⟨Z1,l1,fE vs s1,[],[],Ext.refl _ _,(r1.wipe vs).grow (cQ hD),upd_same,hf,rfl,EPost.ext q g1⟩ (fun i H _ ⟨Z2,l2,s2,acc,xs,g2,r2,_⟩=>wk.g Z2 l2 s2 _ H g2 r2) ?_ ?_
  ·rintro i v H2 H3 hi ⟨Z2,l2,s2,acc,xs,g2,r2,hx,f2,ra,q2⟩ hy
   rw[List.drop_eq_getElem_cons hi]at q2
   obtain⟨Z3,g3,gr,r3,q3⟩:=wk.y Z2 l2 s2 _ H2 i l[i] v H3 g2 r2 (by simp[hi]) hy
   have f3:=(f2.Nt hx gr).wipe vs
   rw[zq]at f3
   have r3':=r3.wipe vs
   rw[zq]at r3'
   have hx3:=gr.1 D _ hx
   refine⟨pT C' D (.lst xs),cle.ca,Z3,l2,fE vs s2,l[i],r3'.hold hx3 f3,q3,?_⟩
   unfold sL at q2
   cases e1:ji t l[i] (fE vs s2)with
   | none=>rw[e1]at q2;exact q2
   | some s3=>
    rw[e1]at q2
    intro sv4 off r4
    have we:=BE off hv
    refine⟨we,pT C' D (.lst xs),cle.ca,Z3,l2,s3,r4,?_⟩
    dsimp only at q2
    have q2':=EPost.ext q2 g3
    cases e2:ft s3 with
    | stuck=>rw[e2]at q2';exact q2'
    | exc x s4=>rw[e2]at q2';exact False.elim q2'
    | ok b s4=>
     rw[e2]at q2'
     intro Z5 l5 H5 g5 r5
     cases b with
     | false=>
      obtain⟨r5',hx5,f5⟩:=r5.held cF
      have r6:=r5'.wipe vs
      have f6:=f5.wipe vs
      rw[we]at r6 f6
      exact⟨Z5,l5,fE vs s4,acc,xs,g2.trans (g3.trans g5),r6,hx5,f6,bC.mono (g3.trans g5) _ ra,EPost.ext q2' g5⟩
     | true=>
      refine⟨pT C' D (.lst xs),cle.ca,Z5,l5,s4,r5,?_⟩
      dsimp only at q2'
      cases e3:fe s4 with
      | stuck=>rw[e3]at q2';exact q2'
      | exc x s5=>rw[e3]at q2';exact False.elim q2'
      | ok rv s5=>
       rw[e3]at q2'
       dsimp only at q2'
       intro Z6 l6 H6 v6 g6 r6 q6
       cases e4:d8 rv s5 with
       | stuck=>rw[e4]at q2';exact False.elim q2'
       | exc x s6=>rw[e4]at q2';exact False.elim q2'
       | ok y s6=>
        rw[e4]at q2'
        dsimp only at q2'
        obtain⟨Z7,g7,r7,q7⟩:=r6.d8 q6 e4
        obtain⟨r8,hx8,f8⟩:=r7.held cF
        have gg:=g3.trans (g5.trans (g6.trans g7))
        have ra':=bC.mono gg _ ra
        split at q2'
        ·rename_i hlt
         refine⟨xs,hx8,by rw[←cP ra];exact hlt,?_⟩
         have r9:=(r8.Ly (u:=.lst (xs++[v6])) hx8 (fun _ _ z=>nomatch z) f8).wipe vs
         have f9:=f8.wipe vs
         rw[we]at r9 f9
         exact⟨Z7,l6,fE vs s6,acc++[y],xs++[v6],g2.trans gg,r9,upd_same,f9,pW ra' ⟨v6,[],rfl,q7,rfl⟩,EPost.ext q2' (g5.trans (g6.trans g7))⟩
        ·exact False.elim q2'
  ·rintro H2 ⟨Z2,l2,s2,acc,xs,g2,r2,hx,f2,ra,q2⟩
   rw[List.drop_length]at q2
   refine q2 Z2 l2 H2 (.ref D) (Ext.refl _ _) (SR.le cle r2).Jt ⟨D,rfl,by simp,⟨xs,hx,by rw[←cle.ca];exact ra⟩,f2.z,by rw[←cle.fr];exact f2.f,f2.l,fun i o h e=>?_⟩
   obtain⟨b,q1,_⟩:=r2.ow i o h
   have e1:=(wipe_some q1).1
   rw[e]at e1
   cases e1
   exact f2.o i o h q1
theorem Fz{i:Nat}{D:Ends}(hi:i<sv.length)(h:fY C (aR i f) D sv H):aB C f sv H fun v H1=>D.nx (sv.set i (some v)) H1:=by
 obtain⟨Z,loc,s,r,q⟩:=h
 refine(aB.rN r q).imp fun v H1 ⟨Z1,l1,s1,y,g1,r1,q1,h1⟩=>?_
 unfold ua at h1
 split at h1
 ·rename_i s2 e2
  obtain⟨Z2,g2,r2⟩:=r1.qa hi q1 e2
  exact(h1.ext g2).nx r2
 ·exact h1.elim
structure Blk (X:Cx) (C:Cst) (scope:Scope) (tg elt:Expr) (ifs:List Expr) (t:Tg) (ft:State→Res Bool) (fe:State→Res RV):Prop where
 go:∀ (s:Shared) (H:Hp) (D:Addr) (cl:List (Str×Addr)) (fp:List Addr) (C':Cst),C'.cA=C.cA→
  PG (X.blk s H scope (compEnvC scope cl D X.env) fp) tg (qN C' t)∧PTs (X.blk s H scope (compEnvC scope cl D X.env) fp) ifs (gD C' ft)∧PE (X.blk s H scope (compEnvC scope cl D X.env) fp) elt (aB C' fe)
theorem Oe{t:Tg}{src:State→Res (List Val)}(hc:X.calm=true)(hN:X.N.Nodup)(hi:PI X tg iter (mQ C src))(ok:BlkOk X.N X.env.scope scope own)(hb:Blk X C scope tg elt ifs t ft fe)(hs:de iter=true)(hv:∀ i∈zF t,i∈own.map (·.2)):
  PE X (.ListComp elt [⟨tg,iter,ifs,0⟩] scope pos) (aB C (lS (own.map (·.2)) t src ft fe)):=
 cf (pe_lc (g:=GR C t) (tt:=Hb C ft) (te:=Hl C fe) hc hN hi ok
  (fun s H D cl fp=>⟨fun pins s0 sv H0 v u Q I r ⟨C',c,q⟩=>(hb.go s H D cl fp C' c).1.run pins s0 sv H0 v u Q I r q⟩)
  (fun s H D cl fp=>⟨fun pins s0 sv H0 Q I ⟨C',c,q⟩=>(hb.go s H D cl fp C' c).2.1.run pins s0 sv H0 Q I q⟩)
  (fun s H D cl fp=>⟨fun pins s0 sv H0 Q I ⟨C',c,q⟩=>(hb.go s H D cl fp C' c).2.2.run pins s0 sv H0 Q I q⟩) (fold_ok hs)) fun sv H Q h=>EF hv h
theorem IB{t:Tg}{src:State→Res (List Val)}{i:Nat}{y:Str}{py spos:Pos}(hc:X.calm=true)(hN:X.N.Nodup)(hy:X.N[i]? =some y)(hyl:X.env.scope.names.lookup y=some .local)(hk:X.env.scope.kind=.function)
  (hl:(py.line==pos.line)=true) (ha:(scope.names.any fun(n,k)=>n==y&&(k== .local||k== .cell))=false)
  (hi:PI X tg iter (mQ C src)) (ok:BlkOk X.N X.env.scope scope own) (hb:Blk X C scope tg elt ifs t ft fe) (hs:de iter=true) (hv:∀ i∈zF t,i∈own.map (·.2)):
  PS X (.Assign [.Name y py] (.ListComp elt [⟨tg,iter,ifs,0⟩] scope pos) spos) (fY C (aR i (lS (own.map (·.2)) t src ft fe))):=by
 refine wm (ps_setLc (i:=i) (g:=GR C t) (tt:=Hb C ft) (te:=Hl C fe) hc hN hy hyl (sw_true hk hyl hl ha) hi ok
  (fun s H D cl fp=>⟨fun pins s0 sv H0 v u Q I r ⟨C',c,q⟩=>(hb.go s H D cl fp C' c).1.run pins s0 sv H0 v u Q I r q⟩)
  (fun s H D cl fp=>⟨fun pins s0 sv H0 Q I ⟨C',c,q⟩=>(hb.go s H D cl fp C' c).2.1.run pins s0 sv H0 Q I q⟩)
  (fun s H D cl fp=>⟨fun pins s0 sv H0 Q I ⟨C',c,q⟩=>(hb.go s H D cl fp C' c).2.2.run pins s0 sv H0 Q I q⟩) (fold_ok hs)) fun D sv H hl h=>?_
 exact EF hv (Fz (by rw[hl];exact(List.getElem?_eq_some_iff.mp hy).1) h)
end
end Vw
namespace Vw
open PySem L2 PyProof.Rows
def dW(fs:State→Res (List RV))(b:List RV→State→Res RV)(s:State):Res RV:=(fs s).bind b
def nU(T:String)(fo:State→Res RV)(fs:State→Res (List RV))(b:RV→List RV→State→Res RV)(ty:State→RV→Bool)(s:State):Res RV:=
 (ev fo s).bind fun o s=>if ty s o then(fs s).bind fun rs s=>b o rs s else .stuck
def Me(s:State)(r:RV):Bool:=match dv s r with
 | some (.str _)=>true
 | _=>false
def jf(s:State)(r:RV):Bool:=(lv s r).isSome
def intsOf:List Val→Option (List Int)
 | []=>some []
 | .d (.int i)::r=>(intsOf r).map (i:: ·)
 | _=>none
def strsOf:List Val→Option (List (List Nat))
 | []=>some []
 | .d (.str i)::r=>(strsOf r).map (i:: ·)
 | _=>none
def sq(s:State)(r:RV):Option (List Val):=
 match lv s r with
 | some l=>some l
 | none=>tv s r
def gF(rs:List RV)(s:State):Res RV:=
 match rs with
 | [x]=>match dv s x with
  | some (.str t)=>if t.length≤sizeLine then bp (.int t.length) s else .stuck
  | _=>match sq s x with
   | some l=>bp (.int l.length) s
   | none=>.stuck
 | _=>.stuck
def MH(rs:List RV)(s:State):Res RV:=
 match rs with
 | [x]=>match sq s x with
  | some l=>.ok (.new (.lst l)) s
  | none=>.stuck
 | _=>.stuck
def NQ(rs:List RV)(s:State):Res RV:=
 match rs with
 | [x]=>match dv s x with
  | some (.int i)=>bp (.int (if i<0 then-i else i)) s
  | _=>.stuck
 | _=>.stuck
def LY(rs:List RV)(s:State):Res RV:=
 match rs with
 | [x,y]=>match dv s x,dv s y with
  | some (.int i),some (.int j)=>bp (.int (if j > i then j else i)) s
  | _,_=>.stuck
 | _=>.stuck
def rW:List Int→Int
 | []=>0
 | x::r=>r.foldl max x
def L1(rs:List RV)(s:State):Res RV:=
 match rs with
 | [x]=>match (lv s x).bind intsOf with
  | some (n::ns)=>bp (.int (rW (n::ns))) s
  | _=>.stuck
 | _=>.stuck
def DI(rs:List RV)(s:State):Res RV:=
 match rs with
 | [x]=>match (lv s x).bind intsOf with
  | some ns=>bp (.int ns.sum) s
  | _=>.stuck
 | _=>.stuck
def gN(i:Int):List Nat:=(Str.ofString (toString i)).cps.toList
def uz(rs:List RV)(s:State):Res RV:=
 match rs with
 | [x]=>match dv s x with
  | some (.int i)=>if i.natAbs.log2<1920 then bp (.str (gN i)) s else .stuck
  | _=>.stuck
 | _=>.stuck
def bAppend(o:RV)(rs:List RV)(s:State):Res RV:=
 match rs with
 | [x]=>(d8 x s).bind fun y s=>match ob s o with
  | some (.lst l)=>if l.length<sizeLine then .ok (.val (.d .non)) (wr o (.lst (l++[y])) s)else .stuck
  | _=>.stuck
 | _=>.stuck
def yH(o:RV)(rs:List RV)(s:State):Res RV:=
 match rs with
 | []=>match ob s o with
  | some (.lst l)=>match l[l.length- 1]? with
   | some y=>.ok (.val y) (wr o (.lst l.dropLast) s)
   | none=>.stuck
  | _=>.stuck
 | _=>.stuck
section
variable{C:Cst}{Z Z' Zc:Hp}{loc loc':List Addr}{s s':State}{sv sv':L2.St}{H H':Hp}
variable{X:Cx}{e a b c o:Expr}{es:List Expr}{p pos apos:Pos}{f fa fb fc fo fi fv:State→Res RV}{fs:State→Res (List RV)}
def vZ(C:Cst)(b:List RV→State→Res RV)(r:List V→Hp→VK→Prop):Prop:=∀ (Z:Hp) (loc:List Addr) (s:State) (sv:L2.St) (H:Hp) (rs:List RV) (vs:List V) (Q:VK),SR C Z loc s sv H→ll C Z loc s sv H rs vs→EPost C Z loc sv (b rs s) Q→r vs H Q
def D5(C:Cst)(b:RV→List RV→State→Res RV)(r:V→List V→Hp→VK→Prop):Prop:=∀ (Z:Hp) (loc:List Addr) (s:State) (sv:L2.St) (H:Hp) (o:RV) (v:V) (rs:List RV) (vs:List V) (Q:VK),SR C Z loc s sv H→cw C Z loc s sv H o v→ll C Z loc s sv H rs vs→EPost C Z loc sv (b o rs s) Q→r v vs H Q
def GS(C:Cst)(T:String)(ty:State→RV→Bool):Prop:=∀ (K:PySem.W.Frag) (Z:Hp) (loc:List Addr) (s:State) (sv:L2.St) (H:Hp) (o:RV) (v:V),SR C Z loc s sv H→cw C Z loc s sv H o v→ty s o=true→tyV K T v H
theorem ip{id:String}{x:Str}{r:List V→Hp→VK→Prop}{bf:List RV→State→Res RV}(hc:CallR X (.builtin id) r)(hS:vZ C bf r)(hg:Gl X x)(hm:X.mg x=none)(hv:bootBuiltins x=some (.builtin id))(ha:PA X (e::es) (gk C fs))(hs:(e::es).all notStar=true)(hn:x≠"__name__")(hdb:(x==("__debug__":Str))=false):
  PE X (.Call (.Name x p) (e::es) [] pos) (aB C (dW fs bf)):=by
 have hs':=hs
 simp only[List.all_cons,Bool.and_eq_true]at hs
 exact cf (pe_callB hc hg hm hv ha hn hdb (b5 hs.1) (i5 hs.2)) fun sv H Q h=>(gk.at h).imp fun vs H1 ⟨Z,loc,s,xs,r,q,h⟩=>hS Z loc s sv H1 xs vs Q r q h
theorem kb{T:String}{x:Str}{r:List V→Hp→VK→Prop}{bf:List RV→State→Res RV}(hc:CallR X (.type T) r)(hS:vZ C bf r)(hg:Gl X x)(hm:X.mg x=none)(hv:bootBuiltins x=some (.type T))(ha:PA X (e::es) (gk C fs))(hs:(e::es).all notStar=true)(hn:x≠"__name__")(hdb:(x==("__debug__":Str))=false):
  PE X (.Call (.Name x p) (e::es) [] pos) (aB C (dW fs bf)):=by
 have hs':=hs
 simp only[List.all_cons,Bool.and_eq_true]at hs
 exact cf (pe_callTy hc hg hm hv ha hn hdb (b5 hs.1) (i5 hs.2)) fun sv H Q h=>(gk.at h).imp fun vs H1 ⟨Z,loc,s,xs,r,q,h⟩=>hS Z loc s sv H1 xs vs Q r q h
theorem Gx{T:String}{r:V→List V→Hp→VK→Prop}{bf:RV→List RV→State→Res RV}{ty:State→RV→Bool}{Q:VK}(K:PySem.W.Frag)(hS:D5 C bf r)(hT:GS C T ty)(h:aB C (nU T fo fs bf ty) sv H Q):
  aB C fo sv H fun x H1=>tyV K T x H1∧gk C fs sv H1 fun xs H2=>r x xs H2 Q:=by
 obtain⟨Z,loc,s,r,q⟩:=h
 refine(aB.nT r q).imp fun v H1 ⟨Z1,l1,s1,y,g1,r1,st1,q1,h1⟩=>?_
 split at h1
 ·rename_i ht
  refine⟨hT K Z1 l1 s1 sv H1 y v r1 q1 ht,?_⟩
  refine⟨Z1,l1,s1,r1,?_⟩
  cases e:fs s1 with
  | stuck=>simp only[e,Res.bind]at h1;exact h1
  | exc x s2=>simp only[e,Res.bind]at h1;exact h1
  | ok xs s2=>
   simp only[e,Res.bind]at h1
   exact fun Z' l' H' vs g r' q'=>hS Z' l' s2 sv H' y v xs vs Q r' (cw.mono g st1 q1) q' (EPost.ext h1 g)
 ·exact h1.elim
theorem y9{T id:String}{name:Str}{r:V→List V→Hp→VK→Prop}{bf:RV→List RV→State→Res RV}{ty:State→RV→Bool}(pa:PlainAttrs T)(slot:Slot T name id)(hty:typeOf (.builtin id)=pure (.type "method_descriptor"))(hm:MtR X id r)(hS:D5 C bf r)(hT:GS C T ty)
  (ho:PE X o (aB C fo)) (ha:PA X (e::es) (gk C fs)) (hb:Dh o=true) (hs:(e::es).all notStar=true) (hl:(e::es).length<20) (hline:(apos.endLine==pos.line)=true):
  PE X (.Call (.Attribute o name apos) (e::es) [] pos) (aB C (nU T fo fs bf ty)):=by
 have hs':=hs
 simp only[List.all_cons,Bool.and_eq_true]at hs'
 exact cf (pe_bm pa slot hty hm ho ha (GZ hb) (Ji hs hl) hline (b5 hs'.1) (i5 hs'.2)) fun sv H Q h=>Gx X.K hS hT h
theorem Mx{T id:String}{name:Str}{r:V→List V→Hp→VK→Prop}{bf:RV→List RV→State→Res RV}{ty:State→RV→Bool}(pa:PlainAttrs T)(slot:Slot T name id)(hty:typeOf (.builtin id)=pure (.type "method_descriptor"))(hm:MtR X id r)(hS:D5 C bf r)(hT:GS C T ty)
  (ho:PE X o (aB C fo)) (hb:Dh o=true) (hline:(apos.endLine==pos.line)=true):
  PE X (.Call (.Attribute o name apos) [] [] pos) (aB C (nU T fo (aE []) bf ty)):=by
 refine cf (pe_bm0 pa slot hty hm ho (GZ hb) hline) fun sv H Q h=>(Gx X.K hS hT h).imp fun v H1 ⟨h1,Z,loc,s,r,q⟩=>⟨h1,q Z loc H1 [] (Ext.refl _ _) r rfl⟩
theorem SR.sq(r:SR C Z loc s sv H){K:PySem.W.Frag}{rv:RV}{v:V}{l:List Val}(h:cw C Z loc s sv H rv v)(e:Vw.sq s rv=some l):∃ a xs,v=.ref a∧(SqL K H a xs∨SqT K H a xs)∧bC C.cA Z loc l xs:=by
 unfold Vw.sq at e
 split at e
 ·rename_i l' e1
  cases e
  obtain⟨a,xs,h1,h2,h3⟩:=r.lv h e1
  exact⟨a,xs,h1,.inl (.inl h2),h3⟩
 ·obtain⟨a,xs,h1,h2,h3⟩:=r.tv h e
  exact⟨a,xs,h1,.inr (.inl (.inl h2)),h3⟩
theorem xw:∀ {l:List Val} {ns:List Int} {xs:List V},intsOf l=some ns→bC C.cA Z loc l xs→xs=ns.map V.int
 | [],ns,xs,e,h=>by cases e;exact h
 | .d (.int i)::r,ns,xs,e,⟨v,t,e1,q,h⟩=>by
  unfold intsOf at e
  obtain⟨m,e2,rfl⟩:=Option.map_eq_some_iff.mp e
  rw[e1,xw e2 h,show v=_ from q]
  rfl
 | .d .non::r,ns,xs,e,h=>by cases e
 | .d (.bl _)::r,ns,xs,e,h=>by cases e
 | .d (.str _)::r,ns,xs,e,h=>by cases e
 | .d (.tup _)::r,ns,xs,e,h=>by cases e
 | .d (.lst _)::r,ns,xs,e,h=>by cases e
 | .d (.dic _)::r,ns,xs,e,h=>by cases e
 | .d (.dit _)::r,ns,xs,e,h=>by cases e
 | .d (.ins _ _)::r,ns,xs,e,h=>by cases e
 | .r _::r,ns,xs,e,h=>by cases e
 | .tp _::r,ns,xs,e,h=>by cases e
theorem SR.ints(r:SR C Z loc s sv H)(K:PySem.W.Frag){rv:RV}{v:V}{ns:List Int}(h:cw C Z loc s sv H rv v)(e:(Vw.lv s rv).bind intsOf=some ns):∃ a,v=.ref a∧SqL K H a (ns.map V.int):=by
 obtain⟨l,e1,e2⟩:=Option.bind_eq_some_iff.mp e
 obtain⟨a,xs,h1,h2,h3⟩:=r.lv h e1
 rw[xw e2 h3]at h2
 exact⟨a,h1,.inl h2⟩
theorem fH(K:PySem.W.Frag):vZ C gF (fun xs H Q=>∃ x n,xs=[x]∧LenV K x H n∧Q (.int n) H):=by
 intro Z loc s sv H rs vs Q r q h
 unfold gF at h
 split at h
 ·rename_i x
  obtain⟨v,t,rfl,st,q1,q2⟩:=q
  cases q2
  split at h
  ·rename_i t e
   have q3:v=.str ⟨t.toArray⟩:=r.dv q1 e
   subst q3
   split at h
   ·rename_i hl
    exact⟨_,t.length,rfl,⟨by simpa [Str.length]using hl,by simp[Str.length]⟩,h.bp r rfl⟩
   ·exact h.elim
  ·split at h
   ·rename_i l e
    obtain⟨a,xs,rfl,h1,h2⟩:=r.sq (K:=K) q1 e
    refine⟨_,l.length,rfl,?_,h.bp r rfl⟩
    have el:=cP h2
    exact h1.elim (fun z=>.inl ⟨xs,z,el⟩) fun z=>.inr ⟨xs,z,el⟩
   ·exact h.elim
 ·exact h.elim
theorem GI(r:SR C Z loc s sv H){x:RV}{vs:List V}{d:D}(q:ll C Z loc s sv H [x] vs)(e:dv s x=some d):∃ v,vs=[v]∧ej C.cA Z d v:=by
 obtain⟨v,t,rfl,st,q1,q2⟩:=q
 cases q2
 exact⟨v,rfl,r.dv q1 e⟩
theorem foldl_max:∀ (l:List Int) (x:Int),(∀ y∈x::l,y≤l.foldl max x)∧l.foldl max x∈x::l
 | [],x=>by simp
 | y::l,x=>by
  have ⟨h1,h2⟩:=foldl_max l (max x y)
  simp only[List.foldl_cons]
  refine⟨fun z hz=>?_,?_⟩
  ·have hm:=h1 (max x y) (by simp)
   simp only[List.mem_cons]at hz
   rcases hz with rfl | rfl | hz
   ·omega
   ·omega
   ·exact h1 z (by simp[hz])
  ·simp only[List.mem_cons]at h2 ⊢
   rcases h2 with h2 | h2
   ·rw[h2]
    rcases Int.le_total x y with q | q
    ·exact .inr (.inl (by omega))
    ·exact .inl (by omega)
   ·exact .inr (.inr h2)
theorem H8{n m:Int}{ns:List Int}(h:m∈n::ns)(h':∀ y,y∈n::ns→y≤m):m=rW (n::ns):=by
 obtain⟨h1,h2⟩:=foldl_max ns n
 exact Int.le_antisymm (h1 m h) (h' _ h2)
theorem HS(K:PySem.W.Frag):vZ C DI (rSum K):=by
 intro Z loc s sv H rs vs Q r q h
 unfold DI at h
 split at h
 ·obtain⟨v,t,rfl,st,q1,q2⟩:=q
  cases q2
  split at h
  ·rename_i ns e
   obtain⟨a,rfl,h1⟩:=r.ints K q1 e
   exact⟨a,ns,rfl,h1,h.bp r rfl⟩
  ·exact h.elim
 ·exact h.elim
theorem vT:vZ C uz (fun xs H Q=>∃ i,xs=[.int i]∧i.natAbs.log2<1920∧Q (.str (toString i)) H):=by
 intro Z loc s sv H rs vs Q r q h
 unfold uz at h
 split at h
 ·split at h
  ·rename_i i e
   obtain⟨v,rfl,rfl⟩:=GI r q e
   split at h
   ·rename_i hl
    exact⟨_,rfl,hl,h.bp r (by show _=V.str _;unfold gN;simp)⟩
   ·exact h.elim
  ·exact h.elim
 ·exact h.elim
theorem o5:GS C "list" jf:=by
 intro K Z loc s sv H o v r q h
 unfold jf at h
 obtain⟨l,e⟩:=Option.isSome_iff_exists.mp h
 obtain⟨a,xs,rfl,h1,h2⟩:=r.lv q e
 exact .inl ⟨rfl,xs,.inl h1⟩
theorem SR.I5(r:SR C Z loc s sv H){rv:RV}{v:V}{l l':List Val}(h:cw C Z loc s sv H rv v)(e:Vw.ob s rv=some (.lst l)):∃ a xs,v=.ref a∧H a=some (.lst xs)∧bC C.cA Z loc l xs∧∀ ys,bC C.cA Z loc l' ys→SR C Z loc (wr rv (.lst l') s) sv (upd H a (.lst ys)):=by
 obtain⟨a,h1,_,xs,h3,h4⟩:=r.ob h e
 exact⟨a,xs,h1,h3,h4,fun ys q=>r.write h e h1 (by simp) (fun x w z=>by rw[h3]at z;cases z) ⟨ys,upd_same,q⟩⟩
theorem km:D5 C bAppend rAppend:=by
 intro Z loc s sv H o v rs vs Q r q qs h
 unfold bAppend at h
 split at h
 ·rename_i x
  obtain⟨w,t,rfl,st,q1,q2⟩:=qs
  cases q2
  cases e:d8 x s with
  | stuck=>rw[e]at h;exact h.elim
  | exc x s1=>exact absurd e B1
  | ok y s1=>
   rw[e]at h
   simp only[Res.bind]at h
   obtain⟨Z1,g1,r1,q1'⟩:=r.d8 q1 e
   split at h
   ·rename_i l e2
    split at h
    ·rename_i hl
     have h:=h
     have qo:cw C Z1 loc s1 sv H o v:=by
      cases o with
      | val x=>exact cy.mono g1 x q
      | own i=>exact q
      | new o=>unfold ob at e2;simp[mz]at e2
     obtain⟨a,xs,rfl,h1,h2,h3⟩:=r1.I5 (l':=l++[y]) qo e2
     exact⟨a,xs,w,rfl,rfl,h1,by rw[←cP h2];exact hl,h Z1 loc _ .non g1 (h3 _ (pW h2 ⟨w,[],rfl,q1',rfl⟩)) rfl⟩
    ·exact h.elim
   ·exact h.elim
 ·exact h.elim
theorem qV:∀ {l:List Val} {xs:List V},bC C.cA Z loc l xs→bC C.cA Z loc l.dropLast xs.dropLast
 | [],xs,h=>by rw[show xs=_ from h];rfl
 | [x],xs,⟨v,t,e,q,h⟩=>by rw[e,show t=_ from h];rfl
 | x::y::l,xs,⟨v,t,e,q,h⟩=>by
  have h':=h
  obtain⟨w,t',e',_⟩:=h'
  rw[e,e']
  rw[e']at h
  exact⟨v,_,rfl,q,qV h⟩
theorem IC:D5 C yH rPop:=by
 intro Z loc s sv H o v rs vs Q r q qs h
 unfold yH at h
 split at h
 ·cases qs
  split at h
  ·rename_i l e2
   split at h
   ·rename_i y e3
    obtain⟨a,xs,rfl,h1,h2,h3⟩:=r.I5 (l':=l.dropLast) q e2
    obtain⟨w,h4,h5⟩:=jY h2 e3
    exact⟨a,xs,w,rfl,rfl,h1,by rw[←cP h2];exact h4,h.val (h3 _ (qV h2)) h5⟩
   ·exact h.elim
  ·exact h.elim
 ·exact h.elim
end
end Vw
namespace Vw
open PySem L2 PyProof.Rows
def sS(x:String):List Nat:=(Str.ofString x).cps.toList
def dz(fs:List (State→Res RV))(s:State):Res RV:=(aE fs s).bind Bq
def cN(fs:List (State→Res RV))(s:State):Res RV:=(aE fs s).bind Bc
def AV(f:State→Res RV)(s:State):Res RV:=(ev f s).bind Bl
def dj:Nat:=1000000
section
variable{C:Cst}{X:Cx}{e:Expr}{es:List Expr}{pos:Pos}{f:State→Res RV}
theorem aD{x:String}{j:Nat}:PE X (.Constant (.str (Str.ofString x)) j pos) (aB C (fD (.str (sS x)))):=qQ pe_str fun _=>by
 show V.str _=V.str _
 simp[sS]
theorem b8{k:Nat}{fs:List (State→Res RV)}(h:PA X es (gk C (aE fs))):PE X (.Tuple es k pos) (aB C (dz fs)):=Ml h
theorem bZ{fs:List (State→Res RV)}(h:PA X es (gk C (aE fs))):PE X (.List es pos) (aB C (cN fs)):=Lk h
theorem JT(h:PE X e (aB C f)):PE X (.UnaryOp .USub e pos) (aB C (AV f)):=Mn h
section
variable{C:Cst}{X:Cx}{e a b c:Expr}{es:List Expr}{p pos:Pos}{f fa fb fc:State→Res RV}
theorem aQ(ha:PE X a (aB C fa))(hb:PE X b (aB C fb)):PE X (.BinOp a .Add b pos) (aB C (ah fa fb (binop .add))):=uR .add ha hb
theorem Aj(ha:PE X a (aB C fa))(hb:PE X b (aB C fb)):PE X (.BinOp a .Sub b pos) (aB C (ah fa fb (binop .sub))):=uR .sub ha hb
theorem mf(ha:PE X a (aB C fa))(hb:PE X b (aB C fb)):PE X (.BinOp a .Mult b pos) (aB C (ah fa fb (binop .mul))):=uR .mul ha hb
theorem ie(ha:PE X a (aB C fa))(hb:PE X b (aB C fb)):PE X (.BinOp a .FloorDiv b pos) (aB C (ah fa fb (binop .fdiv))):=uR .fdiv ha hb
theorem dZ(ha:PE X a (aB C fa))(hb:PE X b (aB C fb)):PE X (.BinOp a .Mod b pos) (aB C (ah fa fb (binop .mod))):=uR .mod ha hb
theorem Mi(ha:PE X a (aB C fa))(hb:PE X b (aB C fb)):PE X (.BinOp a .Pow b pos) (aB C (ah fa fb (binop .pow))):=uR .pow ha hb
theorem wJ(hu:X.A.units+64<cLine)(ha:PE X a (aB C fa))(hb:PE X b (aB C fb))(hm:de b=true):PE X (.Compare a [.Eq] [b] pos) (aB C (ah fa fb (aG .eq))):=xV hu .eq ha hb hm
theorem dA(hu:X.A.units+64<cLine)(ha:PE X a (aB C fa))(hb:PE X b (aB C fb))(hm:de b=true):PT X (.Compare a [.Eq] [b] pos) (gD C (aW (ah fa fb (aG .eq)))):=lJ hu .eq ha hb hm
theorem wW(hu:X.A.units+64<cLine)(ha:PE X a (aB C fa))(hb:PE X b (aB C fb))(hm:de b=true):PT X (.Compare a [.NotEq] [b] pos) (gD C (aW (ah fa fb (aG .ne)))):=lJ hu .ne ha hb hm
theorem xy(hu:X.A.units+64<cLine)(ha:PE X a (aB C fa))(hb:PE X b (aB C fb))(hm:de b=true):PT X (.Compare a [.Lt] [b] pos) (gD C (aW (ah fa fb (aG .lt)))):=lJ hu .lt ha hb hm
theorem Nz(hu:X.A.units+64<cLine)(ha:PE X a (aB C fa))(hb:PE X b (aB C fb))(hm:de b=true):PE X (.Compare a [.LtE] [b] pos) (aB C (ah fa fb (aG .le))):=xV hu .le ha hb hm
theorem oo(hu:X.A.units+64<cLine)(ha:PE X a (aB C fa))(hb:PE X b (aB C fb))(hm:de b=true):PT X (.Compare a [.Gt] [b] pos) (gD C (aW (ah fa fb (aG .gt)))):=lJ hu .gt ha hb hm
theorem ME(hu:X.A.units+64<cLine)(ha:PE X a (aB C fa))(hb:PE X b (aB C fb))(hm:de b=true):PT X (.Compare a [.GtE] [b] pos) (gD C (aW (ah fa fb (aG .ge)))):=lJ hu .ge ha hb hm
theorem NP(hu:X.A.units+64<cLine)(ha:PE X a (aB C fa))(hb:PE X b (aB C fb))(hm:de b=true):PE X (.Compare a [.Is] [b] pos) (aB C (ah fa fb (aG .is))):=xV hu .is ha hb hm
theorem uv(hu:X.A.units+64<cLine)(ha:PE X a (aB C fa))(hb:PE X b (aB C fb))(hm:de b=true):PT X (.Compare a [.Is] [b] pos) (gD C (aW (ah fa fb (aG .is)))):=lJ hu .is ha hb hm
theorem D8(hu:X.A.units+64<cLine)(ha:PE X a (aB C fa))(hb:PE X b (aB C fb))(hm:de b=true):PT X (.Compare a [.IsNot] [b] pos) (gD C (aW (ah fa fb (aG .isn)))):=lJ hu .isn ha hb hm
theorem Bp(hu:X.A.units+64<cLine)(ha:PE X a (aB C fa))(hb:PE X b (aB C fb))(hm:de b=true):PE X (.Compare a [.In] [b] pos) (aB C (ah fa fb (aG .isin))):=xV hu .isin ha hb hm
theorem ly(hu:X.A.units+64<cLine)(ha:PE X a (aB C fa))(hb:PE X b (aB C fb))(hm:de b=true):PT X (.Compare a [.In] [b] pos) (gD C (aW (ah fa fb (aG .isin)))):=lJ hu .isin ha hb hm
theorem yZ(hu:X.A.units+64<cLine)(ha:PE X a (aB C fa))(hb:PE X b (aB C fb))(hm:de b=true):PE X (.Compare a [.NotIn] [b] pos) (aB C (ah fa fb (aG .notin))):=xV hu .notin ha hb hm
theorem vU(hu:X.A.units+64<cLine)(ha:PE X a (aB C fa))(hb:PE X b (aB C fb))(hm:de b=true):PT X (.Compare a [.NotIn] [b] pos) (gD C (aW (ah fa fb (aG .notin)))):=lJ hu .notin ha hb hm
theorem Fi(hu:X.A.units+64<cLine)(ha:PE X a (aB C fa))(hb:PE X b (aB C fb))(hc:PE X c (aB C fc))(hm:de c=true):PE X (.Compare a [.Lt,.LtE] [b,c] pos) (aB C (D2 fa fb fc (aG .lt) (aG .le))):=HD hu .lt .le ha hb hc hm
theorem x_call{CX:CXT}{k n:Nat}{fA:Addr}{fd:FuncData}{ps:List Str}{x:Str}{g:Fn}{fs:State→Res (List RV)}{cA:String→Addr}(hC:C.cA=cA)(F:FnOk X.prog X.w X.K X.mg X.base CX k fA fd ps (dV cA n g))(hr:Room k X.A)(hg:Gl X x)(hm:X.mg x=some (.ref fA))(hk:PySem.W.keepIn X.K (.ref fA)=true)
  (hb:Binds X.K fd ps []) (hx:Passes CX X E0) (hn:ps.length=n) (ha:PA X (e::es) (gk C fs)) (hdb:(x==("__debug__":Str))=false) (hs:(e::es).all notStar=true):
  PE X (.Call (.Name x p) (e::es) [] pos) (aB C (bF n fs g)):=by
 subst hn hC
 exact Lh F hr hg hm hk hb hx ha hdb hs
section
variable{elt tg iter:Expr}{ifs:List Expr}{scope:Scope}{cA:String→Addr}{fe:State→Res RV}{ft:State→Res Bool}
theorem De{t:Tg}{src:State→Res (List Val)}(hC:C.cA=cA)(own:List (Str×Nat)){vs:List Nat}(hvs:own.map (·.2)=vs)(hc:X.calm=true)(hN:X.N.Nodup)(hi:PI X tg iter (mQ C src))(ok:blkC X.N X.env.scope scope own=true)
  (hb:∀ (s:Shared) (H:Hp) (D:Addr) (cl:List (Str×Addr)) (fp:List Addr) (C':Cst),C'.cA=cA→PG (X.blk s H scope (compEnvC scope cl D X.env) fp) tg (qN C' t)∧PTs (X.blk s H scope (compEnvC scope cl D X.env) fp) ifs (gD C' ft)∧PE (X.blk s H scope (compEnvC scope cl D X.env) fp) elt (aB C' fe))
  (hs:de iter=true) (hv:∀ i∈zF t,i∈vs):PE X (.ListComp elt [⟨tg,iter,ifs,0⟩] scope pos) (aB C (lS vs t src ft fe)):=by
 subst hvs
 exact Oe hc hN hi (blkOk_by ok) ⟨fun s H D cl fp C' h=>hb s H D cl fp C' (h.trans hC)⟩ hs hv
theorem uG{t:Tg}{src:State→Res (List Val)}{i:Nat}{y:Str}{py spos:Pos}(hC:C.cA=cA)(own:List (Str×Nat)){vs:List Nat}(hvs:own.map (·.2)=vs)(hc:X.calm=true)(hN:X.N.Nodup)(hy:X.N[i]? =some y)(hyl:X.env.scope.names.lookup y=some .local)(hk:X.env.scope.kind=.function)
  (hl:(py.line==pos.line)=true) (ha:(scope.names.any fun(n,k)=>n==y&&(k== .local||k== .cell))=false) (hi:PI X tg iter (mQ C src)) (ok:blkC X.N X.env.scope scope own=true)
  (hb:∀ (s:Shared) (H:Hp) (D:Addr) (cl:List (Str×Addr)) (fp:List Addr) (C':Cst),C'.cA=cA→PG (X.blk s H scope (compEnvC scope cl D X.env) fp) tg (qN C' t)∧PTs (X.blk s H scope (compEnvC scope cl D X.env) fp) ifs (gD C' ft)∧PE (X.blk s H scope (compEnvC scope cl D X.env) fp) elt (aB C' fe))
  (hs:de iter=true) (hv:∀ i∈zF t,i∈vs):PS X (.Assign [.Name y py] (.ListComp elt [⟨tg,iter,ifs,0⟩] scope pos) spos) (fY C (aR i (lS vs t src ft fe))):=by
 subst hvs
 exact IB hc hN hy hyl hk hl ha hi (blkOk_by ok) ⟨fun s H D cl fp C' h=>hb s H D cl fp C' (h.trans hC)⟩ hs hv
end
theorem jW{P:Program}{w:World}{K:PySem.W.Frag}{mg:Str→Option Value}{base:Heap}{x qual:Str}{params:Arguments}{body:List Stmt}{scope:Scope}{f:Addr}{fd:FuncData}{N ps:List Str}{cA:String→Addr}{b:State→Res Fl}{k n m:Nat}
  (F:FunD K x qual params body scope [] [] f fd) (S:FnScope N ps scope) (hn:ps.length=n) (hm:N.length=m)
  (hb:∀ (cdv:Value) (A:Around) (outer:List Env) (s:Shared) (H:Hp) (E:XK) (C:Cst),Room k (A.deeper (envOfC qual scope s.heap.objs.size f cdv))→C.cA=cA→PSs (cxOf CX0 P w K mg base N qual scope f cdv A outer s H E).nox body (fY C b)):
  FnOk P w K mg base CX0 (k+1) f fd ps (dV cA n (gm m b)):=by
 subst hn hm
 exact fn_ok F S hb
end
end
theorem gH:bootBuiltins "len"=some (.builtin "len"):=by decide+kernel
theorem JC:bootBuiltins "max"=some (.builtin "max"):=by decide+kernel
theorem Ka:bootBuiltins "sum"=some (.builtin "sum"):=by decide+kernel
theorem Bj:bootBuiltins "str"=some (.type "str"):=by decide+kernel
theorem nq:bootBuiltins "int"=some (.type "int"):=by decide+kernel
theorem FY:bootBuiltins "tuple"=some (.type "tuple"):=by decide+kernel
theorem su:bootBuiltins "isinstance"=some (.builtin "isinstance"):=by decide+kernel
end Vw
namespace Vw
open PySem L2 PyProof.Rows
def uY(K:PySem.W.Frag):Bool:=K.all fun p=>match p.2.cls with
 | .type c=> !(decide (c="list"))
 | _=>true
theorem FX{K:PySem.W.Frag}(h:uY K=true){a:Addr}{o:Obj}(e:K.lookup a=some o):o.cls≠ .type "list":=fun z=>by
 have hm:∃ p∈K,p.2=o:=by
  clear h
  induction K with
  | nil=>cases e
  | cons p r ih=>
   obtain⟨b,x⟩:=p
   rw[List.lookup_cons]at e
   split at e
   ·cases e
    exact⟨_,List.mem_cons_self,rfl⟩
   ·obtain⟨p,hp,q⟩:=ih e
    exact⟨p,List.mem_cons_of_mem _ hp,q⟩
 obtain⟨p,hp,rfl⟩:=hm
 have:=List.all_eq_true.mp h p hp
 rw[z]at this
 simp at this
def FR(ns:List Int):Val:=.d (.lst (ns.map .int))
theorem DZ{cA:String→Addr}{K:PySem.W.Frag}{g:Fn}{H:Hp}{a:Addr}{ns:List Int}(nl:uY K=true)(hS:SqL K H a (ns.map V.int))(hg:∃ s,g [FR ns] []=.ok (.val (.d (.bl true))) s):
  dV cA 1 g [.ref a] H (fun v _=>v=.bl true) E0:=by
 obtain⟨s',hg⟩:=hg
 have hr:∃ u,H a=some u∧(u=.lst (ns.map V.int)∨∃ o,u=.frz o (.lst (ns.map V.int))):=by
  rcases hS with h | ⟨o,its,n,h1,h2,_⟩
  ·rcases h with h | ⟨o,h⟩
   ·exact⟨_,h,.inl rfl⟩
   ·exact⟨_,h,.inr ⟨o,rfl⟩⟩
  ·exact absurd h2 (FX nl h1)
 obtain⟨u,hu,hu2⟩:=hr
 have rep:∀ (ns:List Int) (Z:Hp),gV cA Z (ns.map .int) (ns.map V.int):=fun ns Z=>by
  induction ns with
  | nil=>rfl
  | cons n r ih=>exact⟨_,_,rfl,rfl,ih⟩
 refine⟨fun _=>none,fun _=>none,upd (fun _=>none) a u,[],[FR ns],[],⟨fun b o h=>(by cases h),fun b o h=>?_,fun b o h=>rfl,fun b o w h=>(by cases h),rfl,List.nodup_nil,fun b h=>by simp at h,fun n b o h=>by simp at h,fun i x h=>by simp at h,fun i o h=>by simp at h,fun i j o o' b h=>by simp at h,rfl⟩,⟨.ref a,[],rfl,⟨a,ns.map V.int,rfl,?_,rep ns _⟩,rfl⟩,rfl,?_⟩
 ·by_cases hb:b=a
  ·subst hb
   rw[upd_same]at h
   cases h
   exact .inl hu
  ·rw[upd_ne hb]at h
   cases h
 ·rcases hu2 with e | ⟨o,e⟩
  ·exact .inl (by rw[upd_same,e])
  ·exact .inr ⟨o,by rw[upd_same,e]⟩
 ·rw[hg]
  exact fun Z' l' H' v _ _ q=>q
end Vw
namespace Vw
open PySem L2 PyProof.Rows
def Hn(sg:Slots)(r:Res RV):Res RV:=
 match r with
 | .ok r s2=>.ok r ⟨sg,s2.st⟩
 | _=>.stuck
def pb(r:Res Fl)(k:State→Res Fl):Res Fl:=
 match r with
 | .ok .nx s=>k s
 | t=>t
def wu(r:Res Fl)(k:State→Res Fl):Res Fl:=
 match r with
 | .ok .nx s=>k s
 | .ok .cnt s=>k s
 | .ok .brk s=>.ok .nx s
 | r=>r
@[simp] theorem Bb(sg:Slots)(r:RV)(s:State):Hn sg (.ok r s)=.ok r ⟨sg,s.st⟩:=id rfl
@[simp] theorem uX(s:State)(k:State→Res Fl):pb (.ok .nx s) k=k s:=id rfl
@[simp] theorem BB(r:RV)(s:State)(k:State→Res Fl):pb (.ok (.ret r) s) k=.ok (.ret r) s:=id rfl
@[simp] theorem N0(s:State)(k:State→Res Fl):pb (.ok .brk s) k=.ok .brk s:=id rfl
@[simp] theorem Nn(s:State)(k:State→Res Fl):pb (.ok .cnt s) k=.ok .cnt s:=id rfl
@[simp] theorem BJ(x:Exn)(s:State)(k:State→Res Fl):pb (.exc x s) k=.exc x s:=id rfl
@[simp] theorem OA(k:State→Res Fl):pb .stuck k=.stuck:=id rfl
@[simp] theorem HA(s:State)(k:State→Res Fl):wu (.ok .nx s) k=k s:=id rfl
@[simp] theorem F1(s:State)(k:State→Res Fl):wu (.ok .cnt s) k=k s:=id rfl
@[simp] theorem Nr(s:State)(k:State→Res Fl):wu (.ok .brk s) k=.ok .nx s:=id rfl
@[simp] theorem Oj(r:RV)(s:State)(k:State→Res Fl):wu (.ok (.ret r) s) k=.ok (.ret r) s:=id rfl
@[simp] theorem Oq(x:Exn)(s:State)(k:State→Res Fl):wu (.exc x s) k=.exc x s:=id rfl
@[simp] theorem OL(k:State→Res Fl):wu .stuck k=.stuck:=id rfl
def E3(i j:Int):Bool:=decide (i.natAbs.log2+j.natAbs.log2<1000000)
def Ff(j:Int):Bool:=decide (0<j∧j.natAbs.log2<9000)
section
variable(sg:Slots)(st:List Ob)(s s':State)(i n:Nat)(d d':D)(x y:Val)(o:Ob)(f g h fa fb fc:State→Res RV)(fs:List (State→Res RV))(ft:State→Res Bool)(sa sb:State→Res Fl)(ss:List (State→Res Fl))(r r':RV)(rs:List RV)
@[simp] theorem Pu:mz s (.val x)=.val x:=id rfl
@[simp] theorem Pj:mz s (.new o)=.new o:=id rfl
@[simp] theorem EH:mz ⟨sg,st⟩ (.own i)=(match sg[i]? with | some (some (.v x))=>.val x | _=>.own i):=id rfl
@[simp] theorem vS:dv s (.val (.d d))=some d:=id rfl
@[simp] theorem LX:dv s (.val (.r n))=none:=id rfl
@[simp] theorem DS:dv ⟨sg,st⟩ (.own i)=(match sg[i]? with | some (some (.v (.d x)))=>some x | _=>none):=by
 unfold dv
 rw[EH]
 cases e:sg[i]? with
 | none=>rfl
 | some a=>cases a with
  | none=>rfl
  | some b=>cases b<;> first | rfl | (rename_i v;cases v<;> rfl)
@[simp] theorem Dt:ob ⟨sg,st⟩ (.own i)=(match sg[i]? with | some (some (.own o))=>some o | some (some (.v (.r n)))=>(match st[n]? with | some .gone=>none | some o=>some o | none=>none) | _=>none):=by
 unfold ob
 rw[EH]
 cases e:sg[i]? with
 | none=>simp[e]
 | some a=>cases a with
  | none=>simp[e]
  | some b=>cases b with
   | own o=>simp[e]
   | v v=>cases v<;> simp[e]<;> rfl
@[simp] theorem QI:ob s (.val (.d d))=none:=id rfl
@[simp] theorem CY:ob s (.val (.r n))=(match s.st[n]? with | some .gone=>none | some o=>some o | none=>none):=id rfl
@[simp] theorem QJ:lv s (.val (.d d))=(match d with | .lst l=>some (l.map .d) | _=>none):=by cases d<;> rfl
@[simp] theorem L5:tv s (.val (.d d))=(match d with | .tup l=>some (l.map .d) | _=>none):=by cases d<;> rfl
theorem A8:lv s r=(match dv s r with | some (.lst l)=>some (l.map .d) | some _=>none | none=>match ob s r with | some (.lst l)=>some l | _=>none):=rfl
@[simp] theorem Qv:lv ⟨sg,st⟩ (.own i)=(match dv ⟨sg,st⟩ (.own i)with | some (.lst l)=>some (l.map .d) | some _=>none | none=>match ob ⟨sg,st⟩ (.own i)with | some (.lst l)=>some l | _=>none):=id rfl
@[simp] theorem Qu:lv s (.val (.r n))=(match ob s (.val (.r n))with | some (.lst l)=>some l | _=>none):=id rfl
@[simp] theorem pM:ab i ⟨sg,st⟩=(match sg[i]? with | some (some (.v x))=>.ok (.val x) ⟨sg,st⟩ | some (some (.own _))=>.ok (.own i) ⟨sg,st⟩ | _=>.stuck):=id rfl
@[simp] theorem QQ:fD d s=.ok (.val (.d d)) s:=id rfl
@[simp] theorem Qx:bp d s=.ok (.val (.d d)) s:=id rfl
@[simp] theorem pk:ev f s=(f s).bind settle:=id rfl
@[simp] theorem Kg:settle (.val x) s=.ok (.val x) s:=id rfl
@[simp] theorem NN:settle (.own i) s=.ok (.own i) s:=id rfl
@[simp] theorem Nw:settle (.new o) s=(match o.toD with | some d=>.ok (.val (.d d)) s | none=>.stuck):=id rfl
@[simp] theorem Qz(k:RV→RV→State→Res RV):ah fa fb k s=(ev fa s).bind fun x s=>(ev fb s).bind fun y s=>k x y s:=id rfl
@[simp] theorem C7:aW f s=(ev f s).bind zC:=id rfl
@[simp] theorem L7:zC r s=(match dv s r with | some (.bl b)=>.ok b s | _=>.stuck):=id rfl
@[simp] theorem OW:aE [] s=.ok [] s:=id rfl
@[simp] theorem QB:aE (f::fs) s=(ev f s).bind fun x s=>(aE fs s).bind fun xs s=>.ok (x::xs) s:=id rfl
@[simp] theorem wc:d8 (.val x) s=.ok x s:=id rfl
@[simp] theorem QU:d8 (.new o) s=(match o.toD with | some d=>.ok (.d d) s | none=>.stuck):=id rfl
@[simp] theorem K7:d8 (.own i) ⟨sg,st⟩=(match sg[i]? with | some (some (.own o))=>(match o.toD with | some d=>.ok (.d d) ⟨sg.set i (some (.v (.d d))),st⟩ | none=>.stuck) | some (some (.v x))=>.ok x ⟨sg,st⟩ | _=>.stuck):=id rfl
@[simp] theorem Qm:bE [] s=.ok [] s:=id rfl
@[simp] theorem Fh:bE (r::rs) s=(d8 r s).bind fun x s=>(bE rs s).bind fun xs s=>.ok (x::xs) s:=id rfl
@[simp] theorem OD:toDs []=some []:=id rfl
@[simp] theorem OV(v:List Val):toDs (.d d::v)=(toDs v).map (d:: ·):=id rfl
@[simp] theorem Qk(l:List Val):Ob.toD (.lst l)=(toDs l).map .lst:=id rfl
@[simp] theorem G0:dz fs s=(aE fs s).bind Bq:=id rfl
@[simp] theorem Gv:cN fs s=(aE fs s).bind Bc:=id rfl
@[simp] theorem QE:AV f s=(ev f s).bind Bl:=id rfl
@[simp] theorem Pr:Bl r s=(match dv s r with | some (.int i)=>.ok (.val (.d (.int (-i)))) s | _=>.stuck):=id rfl
@[simp] theorem JU:Bq rs s=(bE rs s).bind fun l s=>if l.length≤sizeLine then .ok (.val (pL l)) s else .stuck:=id rfl
@[simp] theorem JK:Bc rs s=(bE rs s).bind fun l s=>if l.length≤sizeLine then .ok (.new (.lst l)) s else .stuck:=id rfl
@[simp] theorem Ic(l:List Val):pL l=(match toDs l with | some ds=>.d (.tup ds) | none=>.tp l):=id rfl
@[simp] theorem Qo(k:State→Res (List RV))(b:List RV→State→Res RV):dW k b s=(k s).bind b:=id rfl
@[simp] theorem Ph(k:State→Res (List RV))(gg:Fn):bF n k gg s=(k s).bind fun rs s=>(bE rs s).bind fun args s=>if args.length=n then ey gg args s else .stuck:=id rfl
@[simp] theorem Cr(gg:Fn)(args:List Val):ey gg args ⟨sg,st⟩=Hn sg (gg args st):=id rfl
@[simp] theorem IU(T:String)(k:State→Res (List RV))(b:RV→List RV→State→Res RV)(ty:State→RV→Bool):nU T f k b ty s=(ev f s).bind fun o s=>if ty s o then(k s).bind fun rs s=>b o rs s else .stuck:=id rfl
@[simp] theorem Pl:ao [] s=.ok .nx s:=id rfl
@[simp] theorem lR:ao (sa::ss) s=pb (sa s) (ao ss):=id rfl
@[simp] theorem BR:cc ft sa sb s=(ft s).bind fun k s=>if k=true then sa s else sb s:=id rfl
@[simp] theorem QK:Pn ft fa fb s=(ft s).bind fun k s=>if k=true then fa s else fb s:=id rfl
@[simp] theorem n4:bq f s=(f s).bind fun r s=>.ok (.ret r) s:=id rfl
@[simp] theorem D4:cV f s=(f s).bind fun _ s=>.ok .nx s:=id rfl
@[simp] theorem xM:aR i f s=(f s).bind fun r s=>ua (qa i r s):=id rfl
@[simp] theorem P2:ua (some s)=.ok .nx s:=id rfl
@[simp] theorem PZ:qa i (.val x) ⟨sg,st⟩=some ⟨sg.set i (some (.v x)),st⟩:=id rfl
@[simp] theorem O9:qa i (.new o) ⟨sg,st⟩=some ⟨sg.set i (some (.own o)),st⟩:=id rfl
@[simp] theorem PB(j:Nat):qa i (.own j) s=(match lb j s with | .ok x s=>some { s with sg:=s.sg.set i (some (.v x)) } | _=>none):=id rfl
@[simp] theorem O1:lb i ⟨sg,st⟩=d8 (.own i) ⟨sg,st⟩:=id rfl
@[simp] theorem QA(t:Tg)(src:State→Res (List Val)):oW t src sb s=(src s).bind fun l s=>lP t sb l s:=id rfl
@[simp] theorem P6(k:State→Res (List RV))(b:List RV→State→Res (List Val)):kX k b s=(k s).bind b:=id rfl
@[simp] theorem BL(k:D→State→Res (List Val)):sD f k s=(ev f s).bind fun r s=>(nR r s).bind k:=id rfl
@[simp] theorem EG:nR r s=(match d8 r s with | .ok (.d x) s=>.ok x s | _=>.stuck):=id rfl
@[simp] theorem Py:iL [ft] s=ft s:=id rfl
@[simp] theorem P4(f2:State→Res Bool)(fr:List (State→Res Bool)):iL (ft::f2::fr) s=(ft s).bind fun b s=>if b=true then iL (f2::fr) s else .ok false s:=id rfl
@[simp] theorem Qw:jy [ft] s=ft s:=id rfl
@[simp] theorem QL(f2:State→Res Bool)(fr:List (State→Res Bool)):jy (ft::f2::fr) s=(ft s).bind fun b s=>if b=true then .ok true s else jy (f2::fr) s:=id rfl
@[simp] theorem GO:si ft s=(ft s).bind fun b s=>.ok (!b) s:=id rfl
@[simp] theorem Ox:gU [f] s=ev f s:=id rfl
@[simp] theorem OC:gU (f::g::fs) s=(aW f s).bind fun b s=>if b=true then gU (g::fs) s else bp (.bl false) s:=id rfl
@[simp] theorem OU:k9 [f] s=ev f s:=id rfl
@[simp] theorem PN:k9 (f::g::fs) s=(aW f s).bind fun b s=>if b=true then bp (.bl true) s else k9 (g::fs) s:=id rfl
@[simp] theorem m4(op:Cop):aG op r r' s=(match i0 op s r r' with | some b=>bp (.bl b) s | none=>.stuck):=id rfl
@[simp] theorem Lu:gF [r] s=(match dv s r with | some (.str t)=>if t.length≤sizeLine then bp (.int t.length) s else .stuck | _=>match sq s r with | some l=>bp (.int l.length) s | none=>.stuck):=id rfl
@[simp] theorem Oh:sq s r=(match lv s r with | some l=>some l | none=>tv s r):=id rfl
@[simp] theorem PU:MH [r] s=(match sq s r with | some l=>.ok (.new (.lst l)) s | none=>.stuck):=id rfl
@[simp] theorem QC:NQ [r] s=(match dv s r with | some (.int i)=>bp (.int (if i<0 then-i else i)) s | _=>.stuck):=id rfl
@[simp] theorem P0:LY [r,r'] s=(match dv s r,dv s r' with | some (.int i),some (.int j)=>bp (.int (if j > i then j else i)) s | _,_=>.stuck):=id rfl
@[simp] theorem NG:bAppend r [r'] s=(d8 r' s).bind fun y s=>match ob s r with | some (.lst l)=>if l.length<sizeLine then .ok (.val (.d .non)) (wr r (.lst (l++[y])) s)else .stuck | _=>.stuck:=id rfl
@[simp] theorem Qg:yH r [] s=(match ob s r with | some (.lst l)=>(match l[l.length- 1]? with | some y=>.ok (.val y) (wr r (.lst l.dropLast) s) | none=>.stuck) | _=>.stuck):=id rfl
@[simp] theorem Qs:wr (.own i) o ⟨sg,st⟩=(match mz ⟨sg,st⟩ (.own i)with | .own i=>⟨sg.set i (some (.own o)),st⟩ | .val (.r n)=>⟨sg,st.set n o⟩ | _=>⟨sg,st⟩):=id rfl
@[simp] theorem Ma:wr (.val (.r n)) o ⟨sg,st⟩=⟨sg,st.set n o⟩:=id rfl
@[simp] theorem Lz:jf s r=(lv s r).isSome:=id rfl
@[simp] theorem Gk:binop .add r r' s=rX r r' s:=id rfl
@[simp] theorem GJ:binop .mul r r' s=yu r r' s:=id rfl
@[simp] theorem OS(i j:Int):rX (.val (.d (.int i))) (.val (.d (.int j))) s=bp (.int (i+j)) s:=id rfl
@[simp] theorem OH(i j:Int):binop .sub (.val (.d (.int i))) (.val (.d (.int j))) s=bp (.int (i-j)) s:=id rfl
@[simp] theorem HW(i j:Int):yu (.val (.d (.int i))) (.val (.d (.int j))) s=if E3 i j=true then bp (.int (i*j)) s else .stuck:=by
 show(if i.natAbs.log2+j.natAbs.log2<1000000 then bp (.int (i*j)) s else .stuck)=_
 by_cases h:i.natAbs.log2+j.natAbs.log2<1000000
 ·rw[if_pos h];exact(if_pos (decide_eq_true h)).symm
 ·rw[if_neg h];exact(if_neg (fun z=>h (of_decide_eq_true z))).symm
@[simp] theorem E7(i j:Int):binop .fdiv (.val (.d (.int i))) (.val (.d (.int j))) s=if Ff j=true then bp (.int (i/j)) s else .stuck:=by
 show(if 0<j∧j.natAbs.log2<9000 then bp (.int (i/j)) s else .stuck)=_
 by_cases h:0<j∧j.natAbs.log2<9000
 ·rw[if_pos h];exact(if_pos (decide_eq_true h)).symm
 ·rw[if_neg h];exact(if_neg (fun z=>h (of_decide_eq_true z))).symm
@[simp] theorem CG(i j:Int):binop .mod (.val (.d (.int i))) (.val (.d (.int j))) s=if 0<j then bp (.int (i%j)) s else .stuck:=id rfl
@[simp] theorem Hz(i j:Int):binop .pow (.val (.d (.int i))) (.val (.d (.int j))) s=if 0≤j∧j≤1000000∧i.natAbs<2^64 then bp (.int (i^j.toNat)) s else .stuck:=id rfl
@[simp] theorem Pq(i j:Int):i0 .lt s (.val (.d (.int i))) (.val (.d (.int j)))=some (decide (i<j)):=id rfl
@[simp] theorem PY(i j:Int):i0 .le s (.val (.d (.int i))) (.val (.d (.int j)))=some (decide (i≤j)):=id rfl
@[simp] theorem PJ(i j:Int):i0 .gt s (.val (.d (.int i))) (.val (.d (.int j)))=some (decide (i > j)):=id rfl
@[simp] theorem PF(i j:Int):i0 .ge s (.val (.d (.int i))) (.val (.d (.int j)))=some (decide (i≥j)):=id rfl
@[simp] theorem J5:i0 .eq s r r'=xB s r r':=id rfl
@[simp] theorem IW:i0 .ne s r r'=(xB s r r').map not:=id rfl
@[simp] theorem O5(i j:Int):xB s (.val (.d (.int i))) (.val (.d (.int j)))=some (decide (i=j)):=by
 show(if gp (.int i) (.int j)then some (lX (.int i) (.int j))else none)=_
 rw[if_pos (by rfl)]
 show some (i==j)=_
 by_cases h:i=j
 ·simp[h]
 ·have:(i==j)=false:=by simpa using h
  rw[this];simp[h]
@[simp] theorem Pe(j:Int):mW [.val (.d (.int j))] s=pU 0 j s:=id rfl
@[simp] theorem Pd(i j:Int):uQ [.val (.d (.int i)),.val (.d (.int j))] s=pU i j s:=id rfl
@[simp] theorem PH:o3 s (.val x)=some (.val x):=id rfl
@[simp] theorem O7:o3 s (.new o)=some (.new o):=id rfl
@[simp] theorem Ks:o3 ⟨sg,st⟩ (.own i)=(match sg[i]? with | some (some (.own o))=>some (.new o) | some (some (.v x))=>some (.val x) | _=>none):=id rfl
@[simp] theorem P7:ji (.nm i) x ⟨sg,st⟩=some ⟨sg.set i (some (.v x)),st⟩:=id rfl
end
theorem small(n:Nat)(h:n≤16777216):n≤sizeLine:=by rw[sizeLine_eq];exact h
section
variable(sg:Slots)(st:List Ob)(s:State)(i:Int)(j:Nat)(l:List D)(t:List Nat)(m:List Val)
theorem yK{α β:Type}(f:α→β)(l:List α)(i:Int):atI (l.map f) i=(atI l i).map f:=by
 unfold atI
 rw[List.length_map]
 cases ixN l.length i<;> simp
@[simp] theorem Lw:bw (.val (.d (.lst l))) (.val (.d (.int i))) s=(match atI l i with | some d=>.ok (.val (.d d)) s | none=>.stuck):=by
 show(match atI (l.map Val.d) i with | some v=>Res.ok (RV.val v) s | none=>Res.stuck)=_
 rw[yK]
 cases atI l i<;> rfl
@[simp] theorem Gj:bw (.val (.d (.tup l))) (.val (.d (.int i))) s=(match atI l i with | some d=>.ok (.val (.d d)) s | none=>.stuck):=by
 show(match atI (l.map Val.d) i with | some v=>Res.ok (RV.val v) s | none=>Res.stuck)=_
 rw[yK]
 cases atI l i<;> rfl
@[simp] theorem LU:bw (.val (.d (.str t))) (.val (.d (.int i))) s=(if t.length≤sizeLine then match atI t i with | some c=>.ok (.val (.d (.str [c]))) s | none=>.stuck else .stuck):=id rfl
def P5(x y:RV)(s:State):Res RV:=bw x y s
@[simp] theorem Ql:bw (.own j) (.val (.d (.int i))) ⟨sg,st⟩=(match sg[j]? with | some (some (.own (.lst l)))=>(match atI l i with | some v=>.ok (.val v) ⟨sg,st⟩ | none=>.stuck) | _=>P5 (.own j) (.val (.d (.int i))) ⟨sg,st⟩):=by
 split
 ·rename_i l e
  unfold bw lj p4 vM
  simp[e,lv]
  all_goals (cases atI l i<;> rfl)
 ·rfl
theorem uS{α:Type}{l:List α}{i:Int}(h0:0≤i)(h1:i<l.length):atI l i=l[i.toNat]? :=by
 unfold atI ixN
 rw[if_pos h0,if_pos h1]
 rfl
@[simp] theorem M4{α:Type}(x:α)(l:List α):atI (x::l) 0=some x:=by
 rw[uS (by omega) (by rw[List.length_cons];omega)]
 rfl
end
theorem LV{n:Nat}(h:n<18446744073709551616):n.log2<64:=by
 by_cases h0:n=0
 ·subst h0;decide
 ·exact(Nat.log2_lt h0).mpr h
theorem iF{j:Int}(h0:0<j)(h':j<18446744073709551616):Ff j=true:=decide_eq_true ⟨h0,by have:=LV (n:=j.natAbs) (by omega);omega⟩
@[simp] theorem O8(t:Tg)(b:State→Res Fl)(s:State):lP t b [] s=.ok .nx s:=id rfl
@[simp] theorem KS(t:Tg)(b:State→Res Fl)(x:Val)(l:List Val)(s:State):lP t b (x::l) s=(match ji t x s with | none=>.stuck | some s=>wu (b s) (lP t b l)):=id rfl
abbrev vI(i:Int):Val:=.d (.int i)
abbrev sd(d:D):Option Sl:=some (.v (.d d))
section
variable(sg:Slots)(st:List Ob)(s:State)
@[simp] theorem O6:fE [] s=s:=id rfl
@[simp] theorem Qt(v:Nat)(vs:List Nat):fE (v::vs) ⟨sg,st⟩=⟨(jB sg vs).set v none,st⟩:=id rfl
@[simp] theorem Pz:jB sg []=sg:=id rfl
@[simp] theorem Qh(v:Nat)(vs:List Nat):jB sg (v::vs)=(jB sg vs).set v none:=id rfl
@[simp] theorem OF:kS s=.ok true s:=id rfl
@[simp] theorem QH(acc:List Val):DV acc s=.ok (.new (.lst acc)) s:=id rfl
@[simp] theorem QT(vs:List Nat)(t:Tg)(src:State→Res (List Val))(ft:State→Res Bool)(fe:State→Res RV):lS vs t src ft fe s=(src s).bind fun l s=>(sL vs t ft fe l [] (fE vs s)).bind DV:=id rfl
end
@[simp] theorem toDs_mapF{α:Type}(l:List α)(F:α→D):toDs (l.map fun x=>.d (F x))=some (l.map F):=by
 have:(l.map fun x=>Val.d (F x))=(l.map F).map .d:=by simp
 rw[this,toDs_map]
@[simp] theorem toDs_comp{α:Type}(l:List α)(F:α→D):toDs (l.map (Val.d∘F))=some (l.map F):=toDs_mapF l F
@[simp] theorem toDs_vI(l:List Int):toDs (l.map vI)=some (l.map .int):=toDs_mapF l _
section
variable(sg:Slots)(st:List Ob)(s:State)(t:Tg)(ts:List Tg)(x:Val)(l:List Val)(r:RV)(f:State→Res RV)
@[simp] theorem HR:ji (.tp ts) x s=(match tv s (.val x)with | some l=>if l.length=ts.length then n6 ts l s else none | none=>none):=id rfl
@[simp] theorem OJ:n6 [] [] s=some s:=id rfl
@[simp] theorem IF:n6 (t::ts) (x::l) s=(match ji t x s with | some s=>n6 ts l s | none=>none):=id rfl
@[simp] theorem Pg:L1 [r] s=(match (lv s r).bind intsOf with | some (n::ns)=>bp (.int (rW (n::ns))) s | _=>.stuck):=id rfl
@[simp] theorem OG(d:D):itemsOf d s=(match d with | .lst l=>.ok (l.map .d) s | .tup l=>.ok (l.map .d) s | .str t=>.ok (t.map fun c=>.d (.str [c])) s | .dic l=>.ok (l.map fun p=>.d (Ha p.1)) s | _=>.stuck):=by cases d<;> rfl
@[simp] theorem Kk(d:D):o8 d s=(match d with | .lst l=>.ok (l.mapIdx fun i x=>.d (.tup [.int i,x])) s | .str t=>.ok (t.mapIdx fun i c=>.d (.tup [.int i,.str [c]])) s | _=>.stuck):=by cases d<;> rfl
@[simp] theorem QR(lo hi:Par):cJ f lo hi s=(ev f s).bind fun x s=>(l0 lo s).bind fun l s=>(l0 hi s).bind fun h s=>wO x l h s:=id rfl
@[simp] theorem Qi:l0 .no s=.ok none s:=id rfl
@[simp] theorem GF:l0 (.ex f) s=(ev f s).bind CQ:=id rfl
@[simp] theorem Qp(i:Int):CQ (.val (.d (.int i))) s=.ok (some i) s:=id rfl
@[simp] theorem MI(lo hi:Option Int):wO r lo hi s=(match dv s r with | some (.str t)=>if t.length≤sizeLine then bp (.str (dg t lo hi)) s else .stuck | _=>match lv s r with | some l=>.ok (.new (.lst (dg l lo hi))) s | none=>match tv s r with | some l=>if(dg l lo hi).length=l.length then .stuck else .ok (.val (pL (dg l lo hi))) s | none=>.stuck):=id rfl
end
theorem oJ{α:Type}(l:List α)(a b:Nat):dg l (some (a:Int)) (some (b:Int))=(l.drop a).take (b-a):=by
 unfold dg
 rw[HT.sIx_nat,HT.sIx_nat]
 by_cases h:a≤l.length
 ·rw[Nat.min_eq_left h]
  by_cases h2:b≤l.length
  ·rw[Nat.min_eq_left h2]
  ·have e1:(l.drop a).take (l.length-a)=l.drop a:=List.take_of_length_le (by simp)
   have e2:(l.drop a).take (b-a)=l.drop a:=List.take_of_length_le (by simp;omega)
   rw[Nat.min_eq_right (show l.length≤b by omega),e1,e2]
 ·have e1:l.drop a=[]:=List.drop_eq_nil_of_le (by omega)
  have e2:l.drop l.length=[]:=List.drop_eq_nil_of_le (Nat.le_refl _)
  rw[Nat.min_eq_right (show l.length≤a by omega),e1,e2]
  simp
theorem FT{α β:Type}(f:α→β)(l:List α)(lo hi:Option Int):dg (l.map f) lo hi=(dg l lo hi).map f:=by
 unfold dg
 rw[List.length_map,List.map_take,List.map_drop]
@[simp] theorem M7{α:Type}(x y:α)(l:List α):atI (x::y::l) 1=some y:=by
 rw[uS (by omega) (by rw[List.length_cons,List.length_cons];omega)]
 rfl
@[simp] theorem M3{α:Type}(x y z:α)(l:List α):atI (x::y::z::l) 2=some z:=by
 rw[uS (by omega) (by rw[List.length_cons,List.length_cons,List.length_cons];omega)]
 rfl
@[simp] theorem Na{α:Type}(x y z w:α)(l:List α):atI (x::y::z::w::l) 3=some w:=by
 rw[uS (by omega) (by rw[List.length_cons,List.length_cons,List.length_cons,List.length_cons];omega)]
 rfl
def Ex(r:Res Fl):Res RV:=
 match r with
 | .ok .nx s=>.ok (.val (.d .non)) ⟨[],s.st⟩
 | .ok (.ret r) s=>match o3 s r with
  | some r'=>.ok r' ⟨[],s.st⟩
  | none=>.stuck
 | .ok _ _=>.stuck
 | .exc x s=>.exc x ⟨[],s.st⟩
 | .stuck=>.stuck
theorem wR(n:Nat)(b:State→Res Fl)(args:List Val)(st:List Ob):gm n b args st=Ex (b ⟨args.map (fun x=>some (.v x))++List.replicate (n-args.length) none,st⟩):=by
 unfold gm
 generalize b _=r
 cases r with
 | ok k s=>cases k<;> rfl
 | exc x s=>rfl
 | stuck=>rfl
@[simp] theorem Jk(s:State):Ex (.ok .nx s)=.ok (.val (.d .non)) ⟨[],s.st⟩:=id rfl
@[simp] theorem II(r:RV)(s:State):Ex (.ok (.ret r) s)=(match o3 s r with | some r'=>.ok r' ⟨[],s.st⟩ | none=>.stuck):=id rfl
@[simp] theorem M5:Ex .stuck=.stuck:=id rfl
@[simp] theorem CU(x:Exn)(s:State):Ex (.exc x s)=.exc x ⟨[],s.st⟩:=id rfl
mutual
def fB:D→Bool
 | .non=>true
 | .bl _=>true
 | .int _=>true
 | .str _=>true
 | .tup l=>cY l
 | .lst l=>cY l
 | _=>false
def cY:List D→Bool
 | []=>true
 | x::r=>fB x&&cY r
end
mutual
def gR:Nat→D→Bool
 | 0,.tup _=>false
 | 0,.lst _=>false
 | n+1,.tup l=>jV n l
 | n+1,.lst l=>jV n l
 | _,_=>true
def jV:Nat→List D→Bool
 | _,[]=>true
 | n,x::r=>gR n x&&jV n r
end
mutual
theorem uZ:∀ d:D,fB d=true→(pd d).plain=true
 | .non,_=>rfl
 | .bl _,_=>rfl
 | .int _,_=>rfl
 | .str _,_=>rfl
 | .tup l,h=>by
  have:=ud l (by simpa [fB]using h)
  simpa [pd,PyData.plain]using this
 | .lst l,h=>by
  have:=ud l (by simpa [fB]using h)
  simpa [pd,PyData.plain]using this
 | .dic _,h=>by simp[fB]at h
 | .dit _,h=>by simp[fB]at h
 | .ins _ _,h=>by simp[fB]at h
 | .exc _ _,h=>by simp[fB]at h
theorem ud:∀ l:List D,cY l=true→PyData.plainAll (gX l)=true
 | [],_=>rfl
 | x::r,h=>by
  have h:fB x=true∧cY r=true:=by simpa [cY]using h
  simp[gX,PyData.plainAll,uZ x h.1,ud r h.2]
end
mutual
theorem eqv_refl:∀ d:D,fB d=true→PyData.eqv (pd d) (pd d)=true
 | .non,_=>rfl
 | .bl b,_=>by cases b<;> rfl
 | .int i,_=>by show(i==i)=true;simp
 | .str s,_=>by show(Vw.st s==Vw.st s)=true;exact beq_self_eq_true _
 | .tup l,h=>by
  have:=tS l (by simpa [fB]using h)
  simpa [pd,PyData.eqv]using this
 | .lst l,h=>by
  have:=tS l (by simpa [fB]using h)
  simpa [pd,PyData.eqv]using this
 | .dic _,h=>by simp[fB]at h
 | .dit _,h=>by simp[fB]at h
 | .ins _ _,h=>by simp[fB]at h
 | .exc _ _,h=>by simp[fB]at h
theorem tS:∀ l:List D,cY l=true→PyData.eqvAll (gX l) (gX l)=true
 | [],_=>rfl
 | x::r,h=>by
  have h:fB x=true∧cY r=true:=by simpa [cY]using h
  simp[gX,PyData.eqvAll,eqv_refl x h.1,tS r h.2]
end
mutual
theorem tu:∀ (n:Nat) (d:D),fB d=true→gR n d=true→(pd d).depth≤n
 | n,.non,_,_=>by simp[pd,PyData.depth]
 | n,.bl _,_,_=>by simp[pd,PyData.depth]
 | n,.int _,_,_=>by simp[pd,PyData.depth]
 | n,.str _,_,_=>by simp[pd,PyData.depth]
 | 0,.tup l,_,h=>by simp[gR]at h
 | 0,.lst l,_,h=>by simp[gR]at h
 | n+1,.tup l,p,h=>by
  have:=qP n l (by simpa [fB]using p) (by simpa [gR]using h)
  simp[pd,PyData.depth,this]
 | n+1,.lst l,p,h=>by
  have:=qP n l (by simpa [fB]using p) (by simpa [gR]using h)
  simp[pd,PyData.depth,this]
 | n,.dic _,p,_=>by simp[fB]at p
 | n,.dit _,p,_=>by simp[fB]at p
 | n,.ins _ _,p,_=>by simp[fB]at p
theorem qP:∀ (n:Nat) (l:List D),cY l=true→jV n l=true→PyData.depthAll (gX l)≤n
 | n,[],_,_=>by simp[gX,PyData.depthAll]
 | n,x::r,p,h=>by
  have p:fB x=true∧cY r=true:=by simpa [cY]using p
  have h:gR n x=true∧jV n r=true:=by simpa [jV]using h
  have h1:=tu n x p.1 h.1
  have h2:=qP n r p.2 h.2
  simp[gX,PyData.depthAll]
  omega
end
theorem oI{α:Type}(F:α→D):∀ l:List α,(∀ x∈l,fB (F x)=true)→cY (l.map F)=true
 | [],_=>rfl
 | x::r,h=>by simp[cY,h x (by simp),oI F r fun y hy=>h y (by simp[hy])]
theorem sm{α:Type}(n:Nat)(F:α→D):∀ l:List α,(∀ x∈l,gR n (F x)=true)→jV n (l.map F)=true
 | [],_=>by simp[jV]
 | x::r,h=>by simp[jV,h x (by simp),sm n F r fun y hy=>h y (by simp[hy])]
theorem FE{d:D}(n:Nat)(hn:n≤60)(p:fB d=true)(h:gR n d=true):gp d d=true∧lX d d=true:=by
 refine⟨?_,eqv_refl d p⟩
 have:=tu n d p h
 unfold gp
 simp[uZ d p]
 omega
section
variable(sg:Slots)(st:List Ob)(s:State)(r r':RV)(i:Int)(j:Nat)(x:Val)
@[simp] theorem Ja:mw s r=(match dv s r with | some d=>some d | none=>match ob s r with | some (.lst l)=>(toDs l).map .lst | _=>none):=id rfl
theorem Ah:xB s r r'=(match mw s r,mw s r' with | some a,some b=>if gp a b then some (lX a b)else none | _,_=>none):=id rfl
def LA(o i:RV)(x:Val)(s:State):Option State:=yy o i x s
@[simp] theorem Le:yy (.own j) (.val (.d (.int i))) x ⟨sg,st⟩=(match sg[j]? with | some (some (.own (.lst l)))=>(match ixN l.length i with | some m=>some ⟨sg.set j (some (.own (.lst (l.set m x)))),st⟩ | none=>none) | _=>LA (.own j) (.val (.d (.int i))) x ⟨sg,st⟩):=by
 split
 ·rename_i l e
  unfold yy
  simp[e]
  all_goals (cases ixN l.length i<;> rfl)
 ·exact id rfl
end
theorem t8{f:State→Res Fl}{r:List (State→Res Fl)}{s s':State}(h:f s=.ok .nx s'):ao (f::r) s=ao r s':=by rw[lR,h,uX]
theorem CS{f:State→Res Fl}{r:List (State→Res Fl)}{s s':State}{v:RV}(h:f s=.ok (.ret v) s'):ao (f::r) s=.ok (.ret v) s':=by rw[lR,h,BB]
end Vw
namespace Vw
open PySem L2 PyProof.Rows
def E2(t T:String):Bool:=t==T||(t=="bool"&&T=="int")
def pV:List String:=["NoneType","bool","int","str","list","tuple","dict"]
def AU(s:State)(r:RV):Option String:=
 match dv s r with
 | some .non=>some "NoneType"
 | some (.bl _)=>some "bool"
 | some (.int _)=>some "int"
 | some (.str _)=>some "str"
 | some (.lst _)=>some "list"
 | some (.tup _)=>some "tuple"
 | some (.dic _)=>some "dict"
 | some _=>none
 | none=>match ob s r with
  | some (.lst _)=>some "list"
  | some _=>none
  | none=>(tv s r).map fun _=>"tuple"
def BV(T:String)(f:State→Res RV)(s:State):Res RV:=(ev f s).bind fun r s=>
 match AU s r with
 | some t=>bp (.bl (E2 t T)) s
 | none=>.stuck
def bIndex(o:RV)(rs:List RV)(s:State):Res RV:=
 match rs with
 | [x]=>match dv s o,dv s x with
  | some (.str a),some (.str b)=>match Builtin.Str.occurrences (Vw.st a) (Vw.st b) 0 a.length 1 with
   | i::_=>bp (.int (i:Nat)) s
   | []=>.stuck
  | _,_=>.stuck
 | _=>.stuck
section
variable{C:Cst}{Z Z' Zc:Hp}{loc loc':List Addr}{s s':State}{sv sv':L2.St}{H H':Hp}
variable{X:Cx}{e a b c o:Expr}{es:List Expr}{p pos apos pt:Pos}{f fa fb fc fo fi fv:State→Res RV}{fs:State→Res (List RV)}
theorem N1(K:PySem.W.Frag):∀ t∈pV,∀ T∈pV,PySem.W.kitOne K (.type t) (.type T)=some (E2 t T):=by
 intro t ht T hT
 simp only[pV,List.mem_cons,List.not_mem_nil,or_false]at ht hT
 rcases ht with rfl | rfl | rfl | rfl | rfl | rfl | rfl<;> rcases hT with rfl | rfl | rfl | rfl | rfl | rfl | rfl<;> rfl
theorem Kj(r:SR C Z loc s sv H)(K:PySem.W.Frag){rv:RV}{v:V}{t:String}(h:cw C Z loc s sv H rv v)(e:AU s rv=some t):TyX K H v (.type t)∧t∈pV:=by
 unfold AU at e
 split at e
 ·rename_i e1;cases e;have q:=r.dv h e1;rw[show v=.non from q];exact⟨.base .non,by simp[pV]⟩
 ·rename_i b e1;cases e;have q:=r.dv h e1;rw[show v=.bl b from q];exact⟨.base (.bl b),by simp[pV]⟩
 ·rename_i i e1;cases e;have q:=r.dv h e1;rw[show v=.int i from q];exact⟨.base (.int i),by simp[pV]⟩
 ·rename_i x e1;cases e;have q:=r.dv h e1;rw[show v=.str _ from q];exact⟨.base (.str _),by simp[pV]⟩
 ·rename_i l e1
  cases e
  obtain⟨a,vs,rfl,z,_⟩:=r.dv h e1
  refine⟨.base ?_,by simp[pV]⟩
  rcases z with z | ⟨o,z⟩
  ·exact .lst ((r.zh a _ z).at rfl)
  ·exact .frz ((r.zh a _ z).at rfl)
 ·rename_i l e1
  cases e
  obtain⟨a,vs,rfl,z,_⟩:=r.dv h e1
  exact⟨.base (.tup ((r.zh a _ z).at rfl)),by simp[pV]⟩
 ·rename_i l e1
  cases e
  obtain⟨a,vs,rfl,z,_⟩:=r.dv h e1
  refine⟨?_,by simp[pV]⟩
  rcases r.zh a _ z with z | ⟨_,o,z⟩
  ·exact .base (.dK z)
  ·exact .fDict z
 ·cases e
 ·split at e
  ·rename_i l e1
   cases e
   obtain⟨a,rfl,_,xs,h1,_⟩:=r.ob h e1
   exact⟨.base (.lst h1),by simp[pV]⟩
  ·cases e
  ·obtain⟨l,e1,rfl⟩:=Option.map_eq_some_iff.mp e
   obtain⟨a,xs,rfl,h1,_⟩:=r.tv h e1
   exact⟨.base (.tup h1),by simp[pV]⟩
theorem LK{T:String}(he:PE X e (aB C f))(hg:Gl X "isinstance")(hm:X.mg "isinstance"=none)(hg2:Gl X (Str.ofString T))(hm2:X.mg (Str.ofString T)=none)(hv:bootBuiltins (Str.ofString T)=some (.type T))(hT:T∈pV)(hs:notStar e=true)
  (hn:(Str.ofString T)≠"__name__") (hd:((Str.ofString T)==("__debug__":Str))=false):PE X (.Call (.Name "isinstance" p) [e,.Name (Str.ofString T) pt] [] pos) (aB C (BV T f)):=by
 refine cf (pe_callB call_isi hg hm su (pa_cons he (pa_cons (pe_bltn (v:=.ty T) hg2 hm2 hv rfl hn hd) pa_nil (by rfl)) (b5 hs)) (by decide) (by decide) (b5 hs) (by rfl)) fun sv H Q ⟨Z,loc,s,r,q⟩=>?_
 refine(aB.nT r q).imp fun v H1 ⟨Z1,l1,s1,y,g1,r1,st1,q1,h1⟩=>?_
 cases et:AU s1 y with
 | none=>rw[et]at h1;exact h1.elim
 | some t=>
  rw[et]at h1
  obtain⟨h2,h3⟩:=Kj r1 X.K q1 et
  exact⟨v,.ty T,.type t,.type T,_,rfl,.ty T,h2,N1 X.K t h3 T hT,h1.bp r1 rfl⟩
theorem lF{x z:String}{t:Tok}(hg:Gl X (Str.ofString x))(hm:X.mg (Str.ofString x)=some (.str (Str.ofString z) t))(hd:((Str.ofString x)==("__debug__":Str))=false):PE X (.Name (Str.ofString x) pos) (aB C (fD (.str (sS z)))):=
 qQ (pe_glob (v:=.str (Str.ofString z)) hg hm ⟨t,rfl⟩ hd) fun _=>by
  show V.str _=V.str _
  simp[sS]
end
section
variable{P:Program}{w:World}{K:PySem.W.Frag}{mg:Str→Option Value}{base:Heap}
theorem qF{CX:CXT}{k n:Nat}{f:Addr}{fd:FuncData}{ps:List Str}{cA:String→Addr}(hn:ps.length=n):FnOk P w K mg base CX k f fd ps (dV cA n fun _ _=>.stuck):=by
 subst hn
 refine⟨y8,fun A outer s H args us vs Q E hr e0 hb hv hs=>?_⟩
 obtain⟨Fr,H0,Z,loc,args,st,r,q,hl,h⟩:=hs
 exact h.elim
end
@[simp] theorem QD(T:String)(f:State→Res RV)(s:State):BV T f s=(ev f s).bind fun r s=>match AU s r with | some t=>bp (.bl (E2 t T)) s | none=>.stuck:=id rfl
@[simp] theorem Qj(s:State)(r:RV):AU s r=(match dv s r with | some .non=>some "NoneType" | some (.bl _)=>some "bool" | some (.int _)=>some "int" | some (.str _)=>some "str" | some (.lst _)=>some "list" | some (.tup _)=>some "tuple" | some (.dic _)=>some "dict" | some _=>none | none=>match ob s r with | some (.lst _)=>some "list" | some _=>none | none=>(tv s r).map fun _=>"tuple"):=id rfl
end Vw
namespace Vw
open PySem L2 PyProof.Rows
def Hk(r:RV)(s:State):Res RV:=
 match r with
 | .new .gone=>.stuck
 | .new o=>.ok (.val (.r s.st.length)) ⟨s.sg,s.st++[o]⟩
 | _=>.stuck
def vO(f:State→Res RV)(s:State):Res RV:=(f s).bind Hk
section
variable{C:Cst}{Z Z' Zc:Hp}{loc loc':List Addr}{s s':State}{sv sv':L2.St}{H H':Hp}
variable{X:Cx}{e:Expr}{f:State→Res RV}
theorem SR.alloc(r:SR C Z loc s sv H){a:Addr}{o:Ob}(ne:o≠ .gone)(c:Cell C.cA Z loc H a o)(fr:Free C Z loc s sv a):
  Ext Z loc Z (loc++[a])∧SR C Z (loc++[a]) ⟨s.sg,s.st++[o]⟩ sv H∧cy C.cA Z (loc++[a]) (.r s.st.length) (.ref a):=by
 have g:Ext Z loc Z (loc++[a]):=⟨Same.refl _,[a],rfl⟩
 refine⟨g,⟨r.fr,r.zh,r.zf,r.lk,by simp[r.ln],?_,fun b hb=>?_,fun n b ob h1 h2 h3=>?_,fun i x h=>?_,fun i ob h=>?_,r.oi,r.ls⟩,a,?_,rfl⟩
 ·rw[List.nodup_append]
  exact⟨r.nd,by simp,fun x hx y hy e=>by simp at hy;subst hy;subst e;exact fr.l hx⟩
 ·rcases List.mem_append.mp hb with hb | hb
  ·exact r.lh b hb
  ·simp at hb
   subst hb
   exact⟨mI ne c,fr.f⟩
 ·by_cases hn:n<loc.length
  ·rw[List.getElem?_append_left hn]at h1
   have h2:(s.st++[o])[n]? =some ob:=h2
   rw[List.getElem?_append_left (by rw[←r.ln];exact hn)]at h2
   obtain⟨q1,q2⟩:=r.cl n b ob h1 h2 h3
   exact⟨q1.mono g (Same.refl _),q2⟩
  ·have h2:(s.st++[o])[n]? =some ob:=h2
   have hlen:n<(loc++[a]).length:=(List.getElem?_eq_some_iff.mp h1).1
   have hn':n=loc.length:=by simp at hlen;omega
   subst hn'
   rw[List.getElem?_append_right (Nat.le_refl _)]at h1
   rw[r.ln,List.getElem?_append_right (Nat.le_refl _)]at h2
   simp at h1 h2
   subst h1 h2
   exact⟨c.mono g (Same.refl _),fr.z⟩
 ·obtain⟨v,q1,q2⟩:=r.vl i x h
  exact⟨v,q1,cy.mono g x q2⟩
 ·obtain⟨b,q1,q2,q3,q4,q5,q6⟩:=r.ow i ob h
  refine⟨b,q1,q2,q3.mono g (Same.refl _),q4,q5,fun z=>?_⟩
  rcases List.mem_append.mp z with z | z
  ·exact q6 z
  ·simp at z
   subst z
   exact fr.o i ob h q1
 ·rw[←r.ln]
  simp
theorem FA(he:PE X e (aB C f)):PE X e (aB C (vO f)):=by
 refine cf he fun sv H Q ⟨Z,loc,s,r,q⟩=>?_
 refine(aB.Ar r q).imp fun v H1 ⟨Z1,l1,s1,y,g1,r1,q1,h1⟩=>?_
 cases y with
 | val x=>exact h1.elim
 | own i=>exact h1.elim
 | new o=>
  obtain⟨a,h2,h3,h4,h5⟩:=q1
  subst h2
  have key:EPost C Z1 l1 sv (.ok (.val (.r s1.st.length)) ⟨s1.sg,s1.st++[o]⟩) Q:=by
   cases o<;> first | exact h1 | exact absurd rfl h3
  obtain⟨g2,r2,q2⟩:=r1.alloc h3 h4 h5
  exact key Z1 _ H1 _ g2 r2 q2
end
@[simp] theorem IM(f:State→Res RV)(s:State):vO f s=(f s).bind Hk:=id rfl
@[simp] theorem Qr(l:List Val)(sg:Slots)(st:List Ob):Hk (.new (.lst l)) ⟨sg,st⟩=.ok (.val (.r st.length)) ⟨sg,st++[.lst l]⟩:=id rfl
end Vw
namespace Vw
open PySem L2 PyProof.Rows
def Gp(a:List Nat)(ys:List (List Nat)):List Nat:=(Txt.join (Vw.st a) (ys.map Vw.st)).cps.toList
def MN(o:RV)(rs:List RV)(s:State):Res RV:=
 match rs with
 | [x]=>match dv s o,(sq s x).bind strsOf with
  | some (.str a),some ys=>if(ys.map (·.length)).sum+ys.length*a.length≤16777216 then bp (.str (Gp a ys)) s else .stuck
  | _,_=>.stuck
 | _=>.stuck
end Vw
namespace Vw
open PySem L2 PyProof.Rows
def bK(g:Fn)(args:List Val)(s:State):Res RV:=
 match g args s.st with
 | .ok r s2=>.ok r ⟨s.sg,s2.st⟩
 | .exc x s2=>.exc x ⟨s.sg,s2.st⟩
 | .stuck=>.stuck
def Kq(n:Nat)(fs:State→Res (List RV))(g:Fn)(s:State):Res RV:=(fs s).bind fun rs s=>(bE rs s).bind fun args s=>if args.length=n then bK g args s else .stuck
section
variable{C:Cst}{Z Z':Hp}{loc loc':List Addr}{s s':State}{sv sv':L2.St}{H H':Hp}
variable{X:Cx}{e a b c o:Expr}{es:List Expr}{p pos apos:Pos}{f fa fb fc fo fi fv:State→Res RV}
theorem KH{g:Fn}{n:Nat}{args:List Val}{vs:List V}{Q:VK}(r:SR C Z loc s sv H)(q:bC C.cA Z loc args vs)(hn:args.length=n)(h:EPost C Z loc sv (bK g args s) Q):dV C.cA n g vs H Q (WE C.W sv):=by
 refine⟨i6 H Z loc,C.H0,Z,loc,args,s.st,r.entry _,q,hn,?_⟩
 unfold bK at h
 cases e:g args s.st with
 | stuck=>rw[e]at h;exact h
 | exc x s1=>
  rw[e]at h
  exact fun Z' l' H' c d g r' q'=>h Z' l' H' c d g (r.back g r') q'
 | ok rv s1=>
  rw[e]at h
  exact fun Z' l' H' v g r' q'=>h Z' l' H' v g (r.back g r') (cw.back r r' q')
theorem oy{P:Program}{w:World}{K:PySem.W.Frag}{mg:Str→Option Value}{base:Heap}{x qual:Str}{params:Arguments}{body:List Stmt}{scope:Scope}{f:Addr}{fd:FuncData}{N ps:List Str}{cA:String→Addr}{b:State→Res Fl}{k n m:Nat}
  (F:FunD K x qual params body scope [] [] f fd) (S:FnScope N ps scope) (hn:ps.length=n) (hm:N.length=m)
  (hb:∀ (cdv:Value) (A:Around) (outer:List Env) (s:Shared) (H:Hp) (E:XK) (C:Cst),Room k (A.deeper (envOfC qual scope s.heap.objs.size f cdv))→C.cA=cA→Takes (cxOf (L2.CX P w) P w K mg base N qual scope f cdv A outer s H E) C.W→PSs (cxOf (L2.CX P w) P w K mg base N qual scope f cdv A outer s H E) body (fY C b)):
  FnOk P w K mg base (L2.CX P w) (k+1) f fd ps (dV cA n (gm m b)):=by
 subst hn hm
 refine F.ok S y8 fun cdv A outer s H vs Q E hr h=>?_
 obtain⟨Fr,H0,Z,loc,args,st,r,q,hl,h⟩:=h
 exact⟨_,hb cdv A outer s H E (iE cA Fr H0 E) hr rfl (takes_of rfl rfl rfl rfl),zt (ps:=ps) r q hl h fun _ _ _ z=>z⟩
def tJ(c:String)(s:State):Res Fl:=.exc ⟨c,none⟩ s
structure ExF (K:PySem.W.Frag) (C:Addr):Prop where
 ei:PySem.W.excIn K C He.veBase "ValueError.__new__"=true
 kC:PySem.W.keepIn K (.ref C)=true
 sB:PySem.W.subIn K (.ref C) (.type "BaseException")=some true
 tC:PySem.W.typeIn K (.ref C)=some (.type "type")
theorem Im{x m:Str}{j:Nat}{c:String}{p p2 pos pos':Pos}(hc:X.calm=true)(tk:Takes X C.W)(F:ExF X.K (C.cA c))(gC:X.mg x=some (.ref (C.cA c)))(hg:Gl X x)(hdb:(x==("__debug__":Str))=false):
  PS X (.Raise (some (.Call (.Name x p) [.Constant (.str m) j p2] [] pos)) none pos') (fY C (tJ c)):=by
 refine iR (ps_raise hc tk (pmk_own PySem.F.excBase_ValueError F.ei gC F.kC (raises_own F.sB F.tC) hg hdb)) fun D sv H ⟨Z,loc,s,r,h⟩=>?_
 exact h Z loc sv H _ _ (Ext.refl _ _) r ⟨rfl,rfl⟩
theorem x_raise{x:String}{m:Str}{j:Nat}{cA:String→Addr}{p p2 pos pos':Pos}(hC:C.cA=cA)(hc:X.calm=true)(tk:Takes X C.W)(F:ExF X.K (cA x))(gC:X.mg (Str.ofString x)=some (.ref (cA x)))(hg:Gl X (Str.ofString x))(hdb:((Str.ofString x)==("__debug__":Str))=false):
  PS X (.Raise (some (.Call (.Name (Str.ofString x) p) [.Constant (.str m) j p2] [] pos)) none pos') (fY C (tJ x)):=by
 subst hC
 exact Im hc tk F gC hg hdb
end
end Vw
namespace L2
open PySem PySem.Spec PyProof.Rows
section
variable{X:Cx}{pins:List (Addr×Obj)}{σ:St}{H:Hp}{s:Shared}
theorem Inv.JY{a:Addr}{u:HO}(I:Inv X pins σ H s)(na:H a=none)(n0:X.s_0.heap.get? a=none)(nL:a≠X.env.locals)(nC:∀ x c,X.env.cells.lookup x=some c→c≠a)
  (np:∀ p∈X.pn++pins,p.1≠a) (ok:ObjOk X.prog X.w (upd H a u) s.heap a u):Inv X pins σ (upd H a u) s where
 ok:=I.ok
 os:=I.os
 bare:=I.bare
 base:={
  keep:=I.base.keep
  slot:=I.base.slot
  free:=fun b o e n hx=>by
   rw[upd_ne (show b≠a from fun z=>by rw[z,n0]at e;cases e)]
   exact I.base.free b o e n hx
  there:=I.base.there
  tups:=fun b xs q=>by
   have z:=I.base.tups b xs q
   rw[upd_ne (ne_of_none z na)];exact z
  frzs:=fun b o v q=>by
   have z:=I.base.frzs b o v q
   rw[upd_ne (ne_of_none z na)];exact z
  tbls:=fun b ps q=>by
   obtain⟨more,z⟩:=I.base.tbls b ps q
   exact⟨more,by rw[upd_ne (ne_of_none z na)];exact z⟩ }
 loc:=I.loc
 cell:=I.cell
 free:=by rw[upd_ne (Ne.symm nL)];exact I.free
 freeC:=fun x c e=>by rw[upd_ne (nC x c e)];exact I.freeC x c e
 pin:=fun p hp=>by
  obtain⟨h1,h2,h3⟩:=I.pin p hp
  exact⟨h1,by rw[upd_ne (np p hp)];exact h2,h3⟩
 hok:=fun b o e=>by
  by_cases hb:b=a
  ·subst hb
   rw[upd_same]at e
   cases e
   exact ok
  ·rw[upd_ne hb]at e
   exact(I.hok b o e).stay (fun c w' hc q=>q) (fun c q=>by rw[upd_ne (ne_of_none q na)];exact q) fun c xs q=>by rw[upd_ne (ne_of_none q na)];exact q
 len:=I.len
end
end L2
namespace Vw
open PySem L2 PySem.Spec PyProof.Rows
theorem K2{P:Program}{w:World}{H:Hp}{h:Heap}{a:Addr}{cls:Value}{d:Option Addr}{oe:Obj}{vs:Array Value}(e:h.get? a=some oe)(z:Zc cls d oe)(hd:oe.data=.fields vs):ObjOk P w H h a (tU cls a d):=
 ⟨⟨oe,e,z,vs,hd⟩,⟨oe,e⟩,fun _ _ ⟨o,q,r⟩ k=>⟨o,k o q,r⟩⟩
def Gy(K:PySem.W.Frag)(c:Value)(i j:Nat)(Wout:WX)(D:Ends):WX:=fun cls d σ H=>
 ∃ b,PySem.W.exmOne K cls c=some b∧(b=true→∀ a,H a=none→D.nx (((σ.set i (some (.ref a))).set j (some (.ref a))).set i none) (upd H a (tU cls a d)))∧(b=false→Wout cls d σ H)
section
variable{X:Cx}{x n v:Str}{c:Value}{i j:Nat}{body:List Stmt}{np pos pos' p1 p2 p3:Pos}{tb:WX→TS}{Wout:WX}
theorem Cc(hs:X.stack=X.env::X.outer)(hf:X.env.frame=some X.env.locals)(hex:X.ex=[])(hN:X.N.Nodup)(hi:X.N[i]? =some n)(hj:X.N[j]? =some v)(hij:i≠j)(hln:X.env.kindOf n=some .local)(hlv:X.env.kindOf v=some .local)(hc:Names X x c)(tk:Takes X Wout)
  (hb:∀ (W:WX) (pn:List (Addr×Obj)) (xe:Value→Shared→Prop),Takes (X.tr pn xe) W→PassesOwn (model X.prog X.w) X.A X.env xe→PSs (X.tr pn xe) body (tb W))
  (hdn:(n==("__debug__":Str))=false) (hcn:(n==("__classdict__":Str))=false) (hsw:swapsWithSole [.Name v p1] (.Name n p2) p3.line X.env=pure false) (hsw2:swappedStores [.Name v p1] (.Name n p2) X.env=pure none):
  PS X (.Try body [.ExceptHandler (some (.Name x np)) (some n) [.Assign [.Name v p1] (.Name n p2) p3] pos'] [] [] pos) (fun D σ H=>tb (Gy X.K c i j Wout D) D σ H):=by
 refine⟨fun pins s σ H D I h=>?_⟩
 have ok:=I.ok
 have hfr:X.A.frames=some (X.env::X.outer):=by rw[ok.frames,hs]
 have hloc:Loc X.env.scope n:=.inl hln
 refine wpAny_Try_except ?_
 refine wpAny_mono ((hb (Gy X.K c i j Wout D) (X.pn++pins) (fun e s₁=>wpAny (model X.prog X.w) X.A (noteFrame e X.env) (fun _ s₂=>wpAny (model X.prog X.w) X.A (setFlight e none) (fun _ s₃=>
  wpAny (model X.prog X.w) X.A (handleBy e X.env [.ExceptHandler (some (.Name x np)) (some n) [.Assign [.Name v p1] (.Name n p2) p3] pos']) (SP X pins D) X.xe s₃) X.xe s₂) X.xe s₁) (fun u s' xx=>?_) PassesOwn.looking).run [] s σ H D (I.toTry _) h) (fun f s1 hsp=>?_) (fun e s1 he=>he)
 ·-- the catch
  obtain⟨a,B,sI,pins',σ',H',cls,d,rfl,J',nb,up,sky,na,os,ag,b,hb1,hyes,hno⟩:=xx
  have J:Inv X pins σ' H' sI:=J'.ofTry ok
  have sky':Sky B (X.env::X.outer) a (Zc cls d) X.env.locals s'.heap:=by rw[←hs];exact sky
  show wpAny (model X.prog X.w) X.A (noteFrame (.ref a) X.env) _ _ _
  refine Sky.land Zc.steady hfr hf sky' fun h3 fl3 up3=>?_
  have J3:Inv X pins σ' H' { s' with heap:=h3 }:=J.landed nb fl3.1 (up.trans up3) os ag
  obtain⟨oe3,vs3,he3,hz3,hd3⟩:=fl3.there
  have notFr:∀ {h:Heap} {o:Obj} {vs:Array Value},h.FunFrames B (X.env::X.outer)→h.get? a=some o→o.data=.fields vs→a∉frs (X.env::X.outer):=fun {h o vs} ff e dd hm=>by
   obtain⟨_,o',e',hnf⟩:=ff.mem hm
   rw[e]at e';cases e'
   exact hnf _ dd
  have nfr:=notFr fl3.2.2.1 he3 hd3
  have nL:a≠X.env.locals:=fun z=>nfr (List.mem_filterMap.mpr ⟨X.env,List.mem_cons_self,by rw[hf,z]⟩)
  have nF:a∉X.fs:=fun hm=>by
   obtain⟨e,he,q⟩:=List.mem_filterMap.mp hm
   exact nfr (List.mem_filterMap.mpr ⟨e,List.mem_cons_of_mem _ he,q⟩)
  have nI:sI.heap.get? a=none:=by
   cases e:sI.heap.get? a with
   | none=>rfl
   | some o=>
    have z:=nb a o e (by rw[hs];exact nfr)
    rw[fl3.2.1]at z
    cases z
  have n0:X.s_0.heap.get? a=none:=by
   cases e:X.s_0.heap.get? a with
   | none=>rfl
   | some o=>
    obtain⟨o',z⟩:=J.base.there a o e (by rw[hex];simp)
    rw[nI]at z
    cases z
  have npn:∀ p∈X.pn++pins,p.1≠a:=fun p hp z=>by
   obtain⟨e,_⟩:=J.pin p hp
   rw[z,nI]at e
   cases e
  have nCl:∀ x c,X.env.cells.lookup x=some c→c≠a:=fun x c e z=>by
   obtain⟨w,q⟩:=J.cell x c e
   subst z
   unfold Heap.IsCell at q
   first
    | (obtain⟨o,q1,_⟩:=q;rw[nI]at q1;cases q1)
    | (rw[nI]at q;cases q)
  have S3:=J3.suite he3 hd3 na nL nF
  refine wpAny_handleBy_cons (codeAny_handlers_test ?_) (by intro q;cases q)
  have LT:PySem.W.Looks (model X.prog X.w) h3 (typeOf (.ref a)) cls:=fun A Q E s k q=>wpAny_typeOf_ref (k _ _ he3) (by rw[hz3.1];exact q)
  have LM:=PySem.W.exm_one (M:=model X.prog X.w) (J3.kIn) LT hb1
  have test:∀ {Q:Value→Shared→Prop} {E:Value→Shared→Prop},Q c { s' with heap:=h3 }→wpAny (model X.prog X.w) (X.A.mark (some (.ref a))) (eval (.Name x np) X.env) Q E { s' with heap:=h3 }:=fun {Q E} q=>by
   obtain⟨hg,hdbg,hm | ⟨hm,hv,hnn⟩⟩:=hc
   ·exact ld_glob (X:=X.suite a ((a,oe3)::(X.pn++pins))) S3 hg hm q hdbg
   ·exact ld_blt (X:=X.suite a ((a,oe3)::(X.pn++pins))) S3 hg hm hv q hnn hdbg
  refine test (LM.here ?_)
  cases b with
  | true=>
   refine codeAny_handlers_suite_as ?_
   refine HandSPX.lands_againZ fl3 fun h4 fl4 up4=>?_
   have J4:Inv X pins σ' H' { s' with heap:=h4 }:=J.landed nb fl4.1 ((up.trans up3).trans up4) os ag
   obtain⟨oe4,vs4,he4,hz4,hd4⟩:=fl4.there
   have S4:=J4.suite he4 hd4 na nL nF
   refine store_ok (X:=X.suite a ((a,oe4)::(X.pn++pins))) (v:=.ref a) S4 hN hi hloc rfl (fun s5 S5=>?_) (.inr hln)
   have hlen:i<σ'.length:=by
    rw[J.len]
    exact(List.getElem?_eq_some_iff.mp hi).1
   have hsu:PSs (X.suite a ((a,oe4)::(X.pn++pins))) [.Assign [.Name v p1] (.Name n p2) p3] (fun D σ H=>∃ w,σ[i]? =some (some w)∧D.nx (σ.set j (some w)) H):=by
    refine pss_one (iR (ps_asg (pe_var (i:=i) hi (.inl hln) hdn hcn) (pg_name (i:=j) hN hj (.inl hlv) (.inr hlv)) hsw hsw2) fun D σ H h=>?_)
    obtain⟨w,e1,q⟩:=h
    exact⟨w,e1,q⟩
   refine wpAny_mono (hsu.run [] s5 _ H' { nx:=fun σ6 H6=>σ6=((σ'.set i (some (.ref a))).set j (some (.ref a)))∧H6=H',rt:=fun _ _=>False,bk:=fun _ _=>False,ct:=fun _ _=>False } S5 ⟨.ref a,by rw[List.getElem?_set_self hlen],rfl,rfl⟩) (fun f s6 hsp=>?_) (fun _ _ z=>False.elim z)
   have fin6:∀ {σ6:L2.St} {H6:Hp},Inv (X.suite a ((a,oe4)::(X.pn++pins))) [] σ6 H6 s6→σ6=((σ'.set i (some (.ref a))).set j (some (.ref a)))→H6=H'→
     wpAny (model X.prog X.w) X.A (do bindName X.env n .none;unbindBehindTheSuite X.env n pos') (fun _ s7=>SP X pins D .next s7) X.xe s6:=fun {σ6 H6} S6 e1 e2=>by
    subst e1 e2
    obtain⟨g6,_⟩:=S6.pin (a,oe4) (List.mem_append_left _ List.mem_cons_self)
    have J6:=(S6.unsuite ok).JY (u:=tU cls a d) na n0 nL nCl npn (K2 g6 hz4 hd4)
    exact gone_ok J6 hN hi hln fun s7 J7=>⟨_,_,J7,hyes rfl a na⟩
   cases f with
   | next=>
    obtain⟨σ6,H6,S6,q1,q2⟩:=hsp
    exact fin6 S6 q1 q2
   | brk=>
    obtain⟨σ6,H6,S6,q6⟩:=hsp
    exact q6.elim
   | cont=>
    obtain⟨σ6,H6,S6,q6⟩:=hsp
    exact q6.elim
   | ret u=>
    obtain⟨v6,σ6,H6,S6,r6,q6⟩:=hsp
    exact q6.elim
  | false=>
   show wpAny _ X.A (handleBy (.ref a) X.env []) _ _ _
   refine wpAny_handleBy_nil ?_
   obtain⟨k1,k2,k3,oe,vs,T,oT,ts',he,hz,hd,h1,hr⟩:=id fl3
   unfold PySem.passOn
   refine wpAny_bind (wpAny_field he hd h1 ?_)
   rw[if_neg (show ¬ ((Value.ref T==Value.none)=true)from by simp)]
   have fin:wpAny (model X.prog X.w) X.A (setFlight (.ref a) X.env.frame) (fun _ s4=>wpAny (model X.prog X.w) X.A (throw (.ref a):Sem Flow) (SP X pins D) X.xe s4) X.xe { s' with heap:=h3 }:=by
    rw[hf]
    refine HandSPX.setFlight_upZ fl3 fun h4 hh4 up4=>wpAny_throw (tk _ _ ?_)
    exact⟨a,B,sI,pins,σ',H',cls,d,rfl,J,nb,(up.trans up3).trans up4,.inr (.inr (by rw[hs];exact hh4)),na,os,ag,hno rfl⟩
   first
    | exact wpAny_bind (wpAny_pure (wpAny_bind fin))
    | exact wpAny_bind fin
 ·cases f with
  | next=>
   obtain⟨σ',H',J',q⟩:=hsp
   exact wpAny_execs_nil ⟨σ',H',J'.ofTry ok,q⟩
  | brk=>
   obtain⟨σ',H',J',q⟩:=hsp
   exact⟨σ',H',J'.ofTry ok,q⟩
  | cont=>
   obtain⟨σ',H',J',q⟩:=hsp
   exact⟨σ',H',J'.ofTry ok,q⟩
  | ret u=>
   obtain⟨v,σ',H',J',r,q⟩:=hsp
   exact⟨v,σ',H',J'.ofTry ok,r,q⟩
end
end Vw
namespace Vw
open PySem L2 PyProof.Rows
def lN(N:List String)(c T:String):Option Bool:=if N.contains c then(if T="ValueError" then some true else if N.contains T then some (decide (T="FindError")||decide (c=T))else none)else none
def DA(x:Exn):D:=.exc x.c x.p.toList
def jG(N:List String)(T:String)(i j:Nat)(f:State→Res Fl)(s:State):Res Fl:=
 match f s with
 | .exc x s=>match lN N x.c T with
  | some true=>.ok .nx { s with sg:=((s.sg.set i none).set j (some (.v (.d (DA x))))).set i none }
  | some false=>.exc x s
  | none=>.stuck
 | r=>r
section
variable{C C':Cst}{Z Z':Hp}{loc loc':List Addr}{s s':State}{sv sv':L2.St}{H H':Hp}
theorem SR.w(r:SR C Z loc s sv H)(W:WX):SR { C with W:=W } Z loc s sv H:=⟨r.fr,r.zh,r.zf,r.lk,r.ln,r.nd,r.lh,r.cl,r.vl,r.ow,r.oi,r.ls⟩
theorem SR.CA{W:WX}(r:SR { C with W:=W } Z loc s sv H):SR C Z loc s sv H:=⟨r.fr,r.zh,r.zf,r.lk,r.ln,r.nd,r.lh,r.cl,r.vl,r.ow,r.oi,r.ls⟩
theorem SR.Lb(r:SR C Z loc s sv H)(i:Nat){x:Val}{v:V}(q:cy C.cA Z loc x v):SR C Z loc { s with sg:=s.sg.set i (some (.v x)) } (sv.set i (some v)) H:=by
 by_cases hi:i<sv.length
 ·exact r.store hi q
 ·have h1:s.sg.set i (some (.v x))=s.sg:=List.set_eq_of_length_le (by rw[r.ls];omega)
  have h2:sv.set i (some v)=sv:=List.set_eq_of_length_le (by omega)
  rw[h1,h2]
  exact r
theorem SR.Ki(r:SR C Z loc s sv H){x:Exn}{c:Value}{d:Option Addr}(q:lW C Z H x c d){a:Addr}(na:H a=none):
  Ext Z loc (upd Z a (tU c a d)) loc∧SR C (upd Z a (tU c a d)) loc s sv (upd H a (tU c a d))∧ej C.cA (upd Z a (tU c a d)) (DA x) (.ref a):=by
 have f:=r.free na
 have g:=cQ (o:=tU c a d) f.z
 refine⟨Ext.z g,(r.grow (cQ na)).xh upd_same f,?_⟩
 obtain⟨rfl,q⟩:=q
 cases e:x.p with
 | none=>
  rw[e]at q
  exact⟨a,d,[],rfl,upd_same,.inl ⟨q,rfl⟩,by rw[e];rfl⟩
 | some p=>
  rw[e]at q
  obtain⟨dd,v,rfl,q1,q2⟩:=q
  exact⟨a,_,[v],rfl,upd_same,.inr ⟨dd,v,rfl,rfl,g _ _ q1⟩,by rw[e];exact⟨v,[],rfl,ej.mono g p q2,rfl⟩⟩
end
def EM(N:List String)(K:PySem.W.Frag)(cA:String→Addr)(T:String)(cv:Value):Prop:=∀ c b,lN N c T=some b→PySem.W.exmOne K (.ref (cA c)) cv=some b
section
variable{C:Cst}{X:Cx}{N:List String}{T:String}{x n v:Str}{cv:Value}{i j:Nat}{body suite:List Stmt}{b₀:Stmt}{np pos pos' p1 p2 p3:Pos}{f u:State→Res Fl}
theorem EK(hs:X.stack=X.env::X.outer)(hf:X.env.frame=some X.env.locals)(hex:X.ex=[])(hN:X.N.Nodup)(hi:X.N[i]? =some n)(hj:X.N[j]? =some v)(hij:i≠j)(hln:X.env.kindOf n=some .local)(hlv:X.env.kindOf v=some .local)(hc:Names X x cv)(em:EM N X.K C.cA T cv)(tk:Takes X C.W)
  (hb:∀ (C':Cst) (pn:List (Addr×Obj)) (xe:Value→Shared→Prop),C'.cA=C.cA→Takes (X.tr pn xe) C'.W→PassesOwn (model X.prog X.w) X.A X.env xe→PSs (X.tr pn xe) body (fY C' f))
  (hdn:(n==("__debug__":Str))=false) (hcn:(n==("__classdict__":Str))=false) (hsw:swapsWithSole [.Name v p1] (.Name n p2) p3.line X.env=pure false) (hsw2:swappedStores [.Name v p1] (.Name n p2) X.env=pure none):
  PS X (.Try body [.ExceptHandler (some (.Name x np)) (some n) [.Assign [.Name v p1] (.Name n p2) p3] pos'] [] [] pos) (fY C (jG N T i j f)):=by
 refine iR (Cc (tb:=fun W=>fY { C with W:=W } f) (Wout:=C.W) hs hf hex hN hi hj hij hln hlv hc tk (fun W pn xe t po=>hb _ pn xe rfl t po) hdn hcn hsw hsw2) fun D sv H ⟨Z,loc,s,r,h⟩=>?_
 refine⟨Z,loc,s,r.w _,?_⟩
 unfold jG at h
 cases e:f s with
 | stuck=>rw[e]at h;exact h
 | ok k s1=>
  rw[e]at h
  cases k with
  | nx=>exact fun Z' l' sv' H' g r'=>h Z' l' sv' H' g r'.CA
  | brk=>exact fun Z' l' sv' H' g r'=>h Z' l' sv' H' g r'.CA
  | cnt=>exact fun Z' l' sv' H' g r'=>h Z' l' sv' H' g r'.CA
  | ret rv=>
   intro Z' l' sv' H' v g r' q
   refine h Z' l' sv' H' v g r'.CA ?_
   cases rv with
   | val x=>exact q
   | own i=>exact q
   | new o=>
    obtain⟨a,q1,q2,q3,q4⟩:=q
    exact⟨a,q1,q2,q3,⟨q4.z,q4.f,q4.l,q4.o⟩⟩
 | exc x s1=>
  rw[e]at h
  intro Z' l' sv' H' c d g r' q
  have q':lW C Z' H' x c d:=q
  cases eb:lN N x.c T with
  | none=>
   dsimp only at h
   rw[eb]at h
   exact h.elim
  | some b=>
   refine⟨b,?_,fun hb=>?_,fun hb=>?_⟩
   ·rw[q'.1];exact em _ _ eb
   ·subst hb
    dsimp only at h
    rw[eb]at h
    intro a na
    obtain⟨g2,r2,q2⟩:=r'.CA.Ki q' na
    exact h _ _ _ _ (g.trans g2) (((r2.unset i (some (.ref a))).Lb j (x:=.d (DA x)) q2).unset i none)
   ·subst hb
    dsimp only at h
    rw[eb]at h
    exact h Z' l' sv' H' c d g r'.CA q'
end
end Vw
namespace Vw
open PySem L2 PyProof.Rows
def js(N:List String)(T:String)(f:State→Res RV)(s:State):Res RV:=(ev f s).bind fun r s=>
 match dv s r with
 | some (.exc c _)=>match lN N c T with
  | some b=>bp (.bl b) s
  | none=>.stuck
 | some .non=>bp (.bl false) s
 | _=>.stuck
structure ExK (N:List String) (K:PySem.W.Frag) (cA:String→Addr) (T:String) (cv:Value):Prop where
 ex:∀ c b,lN N c T=some b→ExcC K (cA c)∧PySem.W.kitOne K (.ref (cA c)) cv=some b
 no:PySem.W.kitOne K (.type "NoneType") cv=some false
def Jc(K:PySem.W.Frag)(c:V)(cv:Value):List V→Hp→VK→Prop:=fun xs H Q=>
 (∃ a D d ws b,xs=[.ref a,c]∧H a=some (tU (.ref D) a d)∧CB H d ws∧ExcC K D∧PySem.W.kitOne K (.ref D) cv=some b∧Q (.bl b) H)∨(xs=[.non,c]∧PySem.W.kitOne K (.type "NoneType") cv=some false∧Q (.bl false) H)
section
variable{C:Cst}{Z Z' Zc:Hp}{loc loc':List Addr}{s s':State}{sv sv':L2.St}{H H':Hp}
variable{X:Cx}{e a b c o:Expr}{es:List Expr}{p pos apos pt:Pos}{f fa fb fc fo fi fv:State→Res RV}{fs:State→Res (List RV)}
theorem Hu{P:Program}{w:World}{H:Hp}{h:Heap}{a D:Addr}{d:Option Addr}{ws:List V}(hok:HOk P w H h)(e:H a=some (tU (.ref D) a d))(x:CB H d ws):
  ∃ oe od,PySem.W.InstAt h a oe D od∧∀ w,ws=[w]→∃ ob u,od=some ob∧PySem.W.lookIn (Str.ofString "place") ob=some (some u)∧RelV w u:=by
 obtain⟨⟨oe,ha,hz,vs,hd⟩,_,_⟩:=hok a _ e
 rcases x with⟨rfl,rfl⟩ | ⟨dd,w,rfl,rfl,hx⟩
 ·exact⟨oe,none,⟨ha,hz.1,by unfold PySem.W.notCls;rw[hd]<;> rfl,by rw[hz.2];trivial⟩,fun w h=>by cases h⟩
 ·obtain⟨mA,hns,hr⟩:=hok dd _ hx
  obtain⟨od,ho,hl⟩:=lookIn_ns hns
  obtain⟨u,hu,ru⟩:=RelO.some_of (v:=w) (o:=mA "place") (by have:=hr (Str.ofString "place");simpa [List.lookup]using this)
  exact⟨oe,some od,⟨ha,hz.1,by unfold PySem.W.notCls;rw[hd]<;> rfl,by rw[hz.2];exact ho⟩,fun w' h=>by
   cases h
   exact⟨od,u,rfl,by rw[hl,hu],ru⟩⟩
theorem EW{c:V}{cv:Value}(hc:ClsV c cv):CallR X (.builtin "isinstance") (Jc X.K c cv):=by
 intro pins s σ H xs us Q I r h
 rcases h with⟨a,D,d,ws,b,rfl,ha,hx,hC,e,q⟩ | ⟨rfl,e,q⟩
 ·cases r with
  | cons rx rr=>
   cases rr with
   | cons rt rr=>
    cases rr
    cases rx
    have ec:=hc.eq rt
    subst ec
    obtain⟨oe,od,J,_⟩:=Hu I.hok ha hx
    have hcl:(PySem.W.clsIn X.K D).isSome=true:=by
     obtain⟨cd,h,_⟩:=PySem.W.any_some hC.hd
     rw[h]<;> rfl
    exact PySem.W.kia_one (PySem.W.kitx_exc (od:=od) hcl hC.hg hC.hk hC.hs hC.ha hC.hn hC.ht hC.hm) I.kIn J e (fun z=>nomatch z) fun tk=>⟨.bl b,H,I.kept (t':=tk) fun _ _ z=>z,rfl,q⟩
 ·exact call_isi pins s σ H _ us Q I r ⟨.non,c,.type "NoneType",cv,false,rfl,hc,.base .non,e,q⟩
theorem Gi{N:List String}{T:String}{c:V}{cv:Value}{tx:Expr}(he:PE X e (aB C f))(hg:Gl X "isinstance")(hm:X.mg "isinstance"=none)(hT:PE X tx (tC c))(hc:ClsV c cv)(E:ExK N X.K C.cA T cv)(hs:notStar e=true)(hs2:notStar tx=true):
  PE X (.Call (.Name "isinstance" p) [e,tx] [] pos) (aB C (js N T f)):=by
 refine cf (pe_callB (EW hc) hg hm su (pa_cons he (pa_cons hT pa_nil (b5 hs2)) (b5 hs)) (by decide) (by decide) (b5 hs) (by rw[i5];simpa using hs2)) fun sv H Q ⟨Z,loc,s,r,q⟩=>?_
 refine(aB.nT r q).imp fun v H1 ⟨Z1,l1,s1,y,g1,r1,st1,q1,h1⟩=>?_
 show Jc X.K c cv [v,c] H1 Q
 cases ed:Vw.dv s1 y with
 | none=>rw[ed]at h1;exact h1.elim
 | some d=>
  rw[ed]at h1
  have qd:=r1.dv q1 ed
  cases d with
  | non=>exact .inr ⟨by rw[show v=.non from qd],E.no,h1.bp r1 rfl⟩
  | exc x ps=>
   cases eb:lN N x T with
   | none=>dsimp only at h1;rw[eb]at h1;exact h1.elim
   | some b=>
    dsimp only at h1
    rw[eb]at h1
    obtain⟨a,d,ws,rfl,za,zx,_⟩:=qd
    obtain⟨e1,e2⟩:=E.ex _ _ eb
    have hZ:Same Z1 Z1:=Same.refl _
    refine .inl ⟨a,C.cA x,d,ws,b,rfl,(r1.zh a _ za).at rfl,?_,e1,e2,h1.bp r1 rfl⟩
    rcases zx with zx | ⟨dd,w,z1,z2,z3⟩
    ·exact .inl zx
    ·exact .inr ⟨dd,w,z1,z2,(r1.zh dd _ z3).at rfl⟩
  | _=>exact h1.elim
theorem mZ{N:List String}{T:String}{cA:String→Addr}(hC:C.cA=cA)(he:PE X e (aB C f))(hg:Gl X "isinstance")(hm:X.mg "isinstance"=none)(hg2:Gl X (Str.ofString T))(hm2:X.mg (Str.ofString T)=some (.ref (cA T)))(E:ExK N X.K cA T (.ref (cA T)))(hs:notStar e=true)
  (hd:((Str.ofString T)==("__debug__":Str))=false):PE X (.Call (.Name "isinstance" p) [e,.Name (Str.ofString T) pt] [] pos) (aB C (js N T f)):=by
 subst hC
 exact Gi he hg hm (pe_glob (v:=.ref (C.cA T)) hg2 hm2 rfl hd) (.own _) E hs rfl
theorem Je{N:List String}{cA:String→Addr}(hC:C.cA=cA)(he:PE X e (aB C f))(hg:Gl X "isinstance")(hm:X.mg "isinstance"=none)(hg2:Gl X "ValueError")(hm2:X.mg "ValueError"=none)(E:ExK N X.K cA "ValueError" (.type "ValueError"))(hs:notStar e=true):
  PE X (.Call (.Name "isinstance" p) [e,.Name "ValueError" pt] [] pos) (aB C (js N "ValueError" f)):=by
 subst hC
 exact Gi he hg hm (pe_bltn (v:=.ty "ValueError") hg2 hm2 (by decide+kernel) rfl (by decide) (by decide)) (.ty _) E hs rfl
end
end Vw
namespace Vw
open PySem L2 PyProof.Rows
def Pf(N:List String)(f:State→Res RV)(s:State):Res RV:=(ev f s).bind fun r s=>
 match dv s r with
 | some (.exc c [p])=>if N.contains c then bp p s else .stuck
 | _=>.stuck
def IH(T:String)(f:State→Res RV)(s:State):Res Fl:=(ev f s).bind fun r s=>match d8 r s with
 | .ok (.d x) s=>.exc ⟨T,some x⟩ s
 | _=>.stuck
end Vw
namespace Vw
open PySem L2 PyProof.Rows
theorem qz{a b:String}(h:Str.ofString a=Str.ofString b):a=b:=by
 rw[Str.ofString_eq_toList,Str.ofString_eq_toList]at h
 have h1:(a.toList.map Char.toNat)=(b.toList.map Char.toNat):=by
  have:=congrArg (fun x:Str=>x.cps.toList) h
  simpa using this
 have h2:a.toList=b.toList:=by
  have inj:∀ (l m:List Char),l.map Char.toNat=m.map Char.toNat→l=m:=by
   intro l
   induction l with
   | nil=>intro m h;cases m<;> simp at h ⊢
   | cons c l ih=>
    intro m h
    cases m with
    | nil=>simp at h
    | cons d m=>
     simp only[List.map_cons,List.cons.injEq]at h
     have:c=d:=by
      apply Char.ext
      apply UInt32.toNat_inj.mp
      exact h.1
     rw[this,ih m h.2]
  exact inj _ _ h1
 exact String.toList_inj.mp h2
structure Mode (C:Cst) (X:Cx) where
 CX:CXT
 E:L2.St→XK
 hx:∀ σ,PassesAt CX X σ (E σ)
 call:Fn→List Val→State→Res RV
 sp:∀ {Z:Hp} {loc:List Addr} {s:State} {sv:L2.St} {H:Hp} {g:Fn} {n:Nat} {args:List Val} {vs:List V} {Q:VK},SR C Z loc s sv H→bC C.cA Z loc args vs→args.length=n→EPost C Z loc sv (call g args s) Q→dV C.cA n g vs H Q (E sv)
def mR{C:Cst}{X:Cx}:Mode C X:=⟨CX0,fun _=>E0,fun σ pins H s e s' I c=>L2.pass0 pins σ H s e s' I c,ey,fun r q hn h=>GH r q hn h⟩
def mX{C:Cst}{X:Cx}(tk:Takes X C.W):Mode C X:=⟨L2.CX X.prog X.w,WE C.W,fun σ=>passAt tk σ,bK,fun r q hn h=>KH r q hn h⟩
def xc(s:State)(r:RV):Option (String×List String):=
 match dv s r with
 | some (.ins c fs)=>some (c,fs.map (·.1))
 | some _=>none
 | none=>match ob s r with
  | some (.ins c fs)=>some (c,fs.map (·.1))
  | _=>none
def bJ(call:Fn→List Val→State→Res RV)(c m:String)(n:Nat)(fo:State→Res RV)(fs:State→Res (List RV))(g:Fn)(s:State):Res RV:=(ev fo s).bind fun r s=>
 match xc s r,r with
 | some (c',fl),.val x=>if c'=c∧fl.contains m=false then(fs s).bind fun rs s=>(bE rs s).bind fun args s=>if args.length+1=n then call g (x::args) s else .stuck else .stuck
 | _,_=>.stuck
def IK(m:Nat)(r:Res RV):Res RV:=
 match r with
 | .ok (.val (.d .non)) s=>.ok (.val (.r m)) s
 | .exc x s=>.exc x s
 | _=>.stuck
def GB(call:Fn→List Val→State→Res RV)(c:String)(n:Nat)(fs:State→Res (List RV))(g:Fn)(s:State):Res RV:=(fs s).bind fun rs s=>(bE rs s).bind fun args s=>
 if args.length+1=n then IK s.st.length (call g (.r s.st.length::args) ⟨s.sg,s.st++[.ins c []]⟩)else .stuck
def t5{α:Type}(fs:List (String×α))(f:String):Option α:=(fs.find? fun p=>decide (p.1=f)).map (·.2)
def xt{α:Type}(f:String)(v:α):List (String×α)→List (String×α)
 | []=>[(f,v)]
 | (g,x)::r=>if g=f then(g,v)::r else(g,x)::xt f v r
def kY(T:List (String×String))(f:String)(fo:State→Res RV)(s:State):Res RV:=(ev fo s).bind fun r s=>
 match dv s r with
 | some (.ins c fs)=>if T.contains (c,f)then(match t5 fs f with
  | some d=>bp d s
  | none=>.stuck)else .stuck
 | some _=>.stuck
 | none=>match ob s r with
  | some (.ins c fs)=>if T.contains (c,f)then(match t5 fs f with
   | some x=>.ok (.val x) s
   | none=>.stuck)else .stuck
  | _=>.stuck
def Aw(T:List (String×String))(f:String)(fo fv:State→Res RV)(s:State):Res Fl:=(ev fv s).bind fun v s=>(ev fo s).bind fun o s=>
 match d8 v s with
 | .ok x s=>match ob s o with
  | some (.ins c fs)=>if T.contains (c,f)&&decide (fs.length<1000)then .ok .nx (wr o (.ins c (xt f x fs)) s)else .stuck
  | _=>.stuck
 | _=>.stuck
def oq(T:List (String×String))(f:String)(op:Bop)(fo fv:State→Res RV)(s:State):Res Fl:=
 match DE op with
 | none=>.stuck
 | some g=>(ev fo s).bind fun o s=>match ob s o with
  | some (.ins c fs)=>if T.contains (c,f)&&decide (fs.length<1000)then(match t5 fs f with
   | some (.d (.int a))=>(ev fv s).bind fun y s=>match dv s y,ob s o with
    | some (.int b),some (.ins c' fs')=>if c'=c∧fs'.length<1000 then .ok .nx (wr o (.ins c (xt f (.d (.int (g a b))) fs')) s)else .stuck
    | _,_=>.stuck
   | _=>.stuck)else .stuck
  | _=>.stuck
def tD(K:PySem.W.Frag)(cA:String→Addr)(T:List (String×String)):Prop:=∀ c f,(c,f)∈T→Cls K (cA c)∧NoAttr K (cA c) (Str.ofString f)
section
variable{C:Cst}{Z Z' Zc:Hp}{loc loc':List Addr}{s s':State}{sv sv':L2.St}{H H':Hp}
variable{X:Cx}{e a b c o v:Expr}{es:List Expr}{p p2 pos pos' apos pt:Pos}{f fa fb fc fo fi fv:State→Res RV}{fs:State→Res (List RV)}
theorem Ed{T:List (String×String)}:∀ {fs:List (String×D)} {ws:List (Str×V)} {f:String} {d:D},lD C.cA Z fs ws→t5 fs f=some d→∃ v,ws.lookup (Str.ofString f)=some v∧ej C.cA Z d v
 | [],ws,f,d,h,e=>by cases e
 | (g,x)::fs,ws,f,d,⟨v,r,e1,q,t⟩,e=>by
  subst e1
  unfold t5 at e
  rw[List.find?_cons]at e
  by_cases hg:g=f
  ·subst hg
   simp at e
   subst e
   exact⟨v,by simp[List.lookup],q⟩
  ·simp[hg]at e
   have hne:((Str.ofString f)==(Str.ofString g))=false:=beq_eq_false_iff_ne.mpr fun z=>hg (qz z.symm)
   obtain⟨v2,h1,h2⟩:=Ed (T:=T) (f:=f) (d:=d) t (by unfold t5;simpa using e)
   exact⟨v2,by rw[List.lookup,hne];exact h1,h2⟩
theorem yv:∀ {fs:List (String×Val)} {ws:List (Str×V)} {f:String} {d:Val},iD C.cA Z loc fs ws→t5 fs f=some d→∃ v,ws.lookup (Str.ofString f)=some v∧cy C.cA Z loc d v
 | [],ws,f,d,h,e=>by cases e
 | (g,x)::fs,ws,f,d,⟨v,r,e1,q,t⟩,e=>by
  subst e1
  unfold t5 at e
  rw[List.find?_cons]at e
  by_cases hg:g=f
  ·subst hg
   simp at e
   subst e
   exact⟨v,by simp[List.lookup],q⟩
  ·simp[hg]at e
   have hne:((Str.ofString f)==(Str.ofString g))=false:=beq_eq_false_iff_ne.mpr fun z=>hg (qz z.symm)
   obtain⟨v2,h1,h2⟩:=yv (f:=f) (d:=d) t (by unfold t5;simpa using e)
   exact⟨v2,by rw[List.lookup,hne];exact h1,h2⟩
theorem CF:∀ {fs:List (String×D)} {ws:List (Str×V)} {m:String},lD C.cA Z fs ws→(fs.map (·.1)).contains m=false→ws.lookup (Str.ofString m)=none
 | [],ws,m,h,e=>by rw[show ws=_ from h];rfl
 | (g,x)::fs,ws,m,⟨v,r,e1,q,t⟩,e=>by
  subst e1
  simp only[List.map_cons,List.contains_cons,Bool.or_eq_false_iff]at e
  have hne:((Str.ofString m)==(Str.ofString g))=false:=beq_eq_false_iff_ne.mpr fun z=>by
   have:=qz z
   have e1:=e.1
   rw[this]at e1
   simp at e1
  rw[List.lookup,hne]
  exact CF t e.2
theorem A0:∀ {fs:List (String×Val)} {ws:List (Str×V)} {m:String},iD C.cA Z loc fs ws→(fs.map (·.1)).contains m=false→ws.lookup (Str.ofString m)=none
 | [],ws,m,h,e=>by rw[show ws=_ from h];rfl
 | (g,x)::fs,ws,m,⟨v,r,e1,q,t⟩,e=>by
  subst e1
  simp only[List.map_cons,List.contains_cons,Bool.or_eq_false_iff]at e
  have hne:((Str.ofString m)==(Str.ofString g))=false:=beq_eq_false_iff_ne.mpr fun z=>by
   have:=qz z
   have e1:=e.1
   rw[this]at e1
   simp at e1
  rw[List.lookup,hne]
  exact A0 t e.2
theorem AR{f:String}{x:Val}{v:V}(q:cy C.cA Z loc x v):∀ {fs:List (String×Val)} {ws:List (Str×V)},iD C.cA Z loc fs ws→iD C.cA Z loc (xt f x fs) (putF (Str.ofString f) v ws)
 | [],ws,h=>by rw[show ws=_ from h];exact⟨v,[],rfl,q,rfl⟩
 | (g,y)::fs,ws,⟨w,r,e1,q1,t⟩=>by
  subst e1
  unfold xt putF
  by_cases hg:g=f
  ·rw[if_pos hg,if_pos (by rw[hg])]
   exact⟨v,r,rfl,q,t⟩
  ·rw[if_neg hg,if_neg (fun z=>hg (qz z))]
   exact⟨w,_,rfl,q1,AR q t⟩
theorem Fu:∀ {fs:List (String×Val)} {ws:List (Str×V)},iD C.cA Z loc fs ws→fs.length=ws.length
 | [],ws,h=>by rw[show ws=_ from h];rfl
 | (g,y)::fs,ws,⟨w,r,e1,q1,t⟩=>by rw[e1,List.length_cons,List.length_cons,Fu t]
theorem SR.ins(r:SR C Z loc s sv H){rv:RV}{v:V}{c:String}{fl:List String}{m:String}(q:cw C Z loc s sv H rv v)(e:xc s rv=some (c,fl))(hm:fl.contains m=false):∃ a dx ws,v=.ref a∧H a=some (.ins (C.cA c) dx ws)∧ws.lookup (Str.ofString m)=none:=by
 unfold xc at e
 split at e
 ·rename_i c' fs e1
  cases e
  obtain⟨a,dx,ws,rfl,z,q1⟩:=r.dv q e1
  exact⟨a,dx,ws,rfl,(r.zh a _ z).at rfl,CF q1 hm⟩
 ·cases e
 ·split at e
  ·rename_i c' fs e1
   cases e
   obtain⟨a,rfl,_,dx,ws,h1,h2⟩:=r.ob q e1
   exact⟨a,dx,ws,rfl,h1,A0 h2 hm⟩
  ·cases e
theorem ML{T:List (String×String)}{n:String}(F:tD X.K C.cA T)(he:PE X e (aB C f))(hb:attributeBase e (Str.ofString n) X.env (eval e X.env)=eval e X.env):PE X (.Attribute e (Str.ofString n) pos) (aB C (kY T n f)):=by
 refine cf (pe_fld he hb) fun sv H Q ⟨Z,loc,s,r,q⟩=>?_
 refine(aB.nT r q).imp fun v H1 ⟨Z1,l1,s1,y,g1,r1,st1,q1,h1⟩=>?_
 split at h1
 ·rename_i c fs e1
  split at h1
  ·rename_i hT
   split at h1
   ·rename_i d e2
    obtain⟨a,dx,ws,rfl,z,q2⟩:=r1.dv q1 e1
    obtain⟨w,l,qw⟩:=Ed (T:=T) q2 e2
    obtain⟨f1,f2⟩:=F c n (by simpa using hT)
    exact⟨a,C.cA c,dx,ws,w,rfl,(r1.zh a _ z).at rfl,f1,f2,l,h1.bp r1 qw⟩
   ·exact h1.elim
  ·exact h1.elim
 ·exact h1.elim
 ·split at h1
  ·rename_i c fs e1
   split at h1
   ·rename_i hT
    split at h1
    ·rename_i x e2
     obtain⟨a,rfl,_,dx,ws,z,q2⟩:=r1.ob q1 e1
     obtain⟨w,l,qw⟩:=yv q2 e2
     obtain⟨f1,f2⟩:=F c n (by simpa using hT)
     exact⟨a,C.cA c,dx,ws,w,rfl,z,f1,f2,l,h1 Z1 l1 H1 w (Ext.refl _ _) r1 qw⟩
    ·exact h1.elim
   ·exact h1.elim
  ·exact h1.elim
theorem KL{T:List (String×String)}{n:String}(F:tD X.K C.cA T)(ho:PE X o (aB C fo))(hv:PE X v (aB C fv))(hc:ki v=true):PS X (.Assign [.Attribute o (Str.ofString n) pos'] v pos) (fY C (Aw T n fo fv)):=by
 refine iR (ps_fld ho hv (uD hc)) fun D sv H ⟨Z,loc,s,r,q⟩=>?_
 refine(aB.zu r q).imp fun x H1 ⟨Z1,l1,s1,y,g1,r1,st1,q1,h1⟩=>?_
 refine(aB.zu r1 h1).imp fun u H2 ⟨Z2,l2,s2,y2,g2,r2,st2,q2,h2⟩=>?_
 have q1':=q1.mono (s':=s2) (H':=H2) g2 st1
 cases e1:d8 y s2 with
 | stuck=>rw[e1]at h2;exact h2.elim
 | exc x s4=>rw[e1]at h2;exact h2.elim
 | ok z s4=>
  rw[e1]at h2
  dsimp only at h2
  obtain⟨Z4,g4,r4,q4⟩:=r2.d8 q1' e1
  split at h2
  ·rename_i c fs e5
   split at h2
   ·rename_i hT
    simp only[Bool.and_eq_true,decide_eq_true_eq]at hT
    have q2':=q2.mono (s':=s4) (H':=H2) g4 st2
    obtain⟨a,rfl,_,dx,ws,hz,qf⟩:=r4.ob q2' e5
    obtain⟨f1,f2⟩:=F c n (by simpa using hT.1)
    refine⟨a,C.cA c,dx,ws,rfl,hz,f1,f2,by rw[←Fu qf];exact hT.2,?_⟩
    have r5:=r4.write (o':=.ins c (xt n z fs)) (u:=.ins (C.cA c) dx (putF (Str.ofString n) x ws)) q2' e5 rfl (by simp) (fun x w z=>by rw[hz]at z;cases z) ⟨dx,_,upd_same,AR q4 qf⟩
    exact cx.nx (cx.ext h2 g4) r5
   ·exact h2.elim
  ·exact h2.elim
theorem FW{M:Mode C X}{k:Nat}{f D:Addr}{fd:FuncData}{ps:List Str}{sp:Sp}{m:Str}{ta:TE}{t:TA}{pl:Sem Bool}(he:PE X o ta)(c:Cls X.K D)(hm:Meth X.K D m f)(F:FnOk X.prog X.w X.K X.mg X.base M.CX k f fd ps sp)(hr:Room k X.A)(hb:Binds X.K fd ps [])(ha:PA X (e::es) t)
  (hst:starEach (e::es) X.env=(false,eval e X.env)::starEach es X.env) (hpl:(backTo pos (starEach es X.env)).any (·.1)=false)
  (ht:eval (.Call (.Attribute o m apos) (e::es) [] pos) X.env=(do
   let ov ←eval o X.env
   standAt apos.atName
   let (f,first) ←holding [ov] (getMethod ov m pl)
   callWith pos f first (backTo pos (starEach (e::es) X.env)) (backToKw pos (keywordEach [] X.env)))):
  PE X (.Call (.Attribute o m apos) (e::es) [] pos) (fun σ H Q=>ta σ H fun x H1=>∃ a dx fs,x=.ref a∧H1 a=some (.ins D dx fs)∧fs.lookup m=none∧t σ H1 fun vs H2=>sp (x::vs) H2 Q (M.E σ)):=by
 refine⟨fun pins s σ H Q I h=>?_⟩
 refine PySem.W.methodCall_KW (pl:=pl) (thn (he.run pins s σ H _ I h) fun u s1 ⟨x,H1,I1,rx,a,dx,fs,ex,ea,l,q⟩=>?_) ht
 subst ex
 obtain rfl:u=Value.ref a:=rx
 refine getmeth_ok I1 ea c hm l ?_
 refine PySem.W.callWith_K (first:=[.ref a]) (h₀:=X.base) I.ok.mod.kin hm.kp (thn (ha.run pos pins s1 σ H1 _ I1 q) fun us s2 ⟨vs,H2,I2,r,q2⟩=>⟨I2.kIn,?_⟩) hst hpl
 exact run_fnS (us:=.ref a::us) (vs:=.ref a::vs) F hr hb (M.hx σ) I2 (.cons rfl r) q2
theorem Ez{M:Mode C X}{k:Nat}{f D:Addr}{fd:FuncData}{ps:List Str}{sp:Sp}{m:Str}{ta:TE}{pl:Sem Bool}(he:PE X o ta)(c:Cls X.K D)(hm:Meth X.K D m f)(F:FnOk X.prog X.w X.K X.mg X.base M.CX k f fd ps sp)(hr:Room k X.A)(hb:Binds X.K fd ps [])
  (ht:eval (.Call (.Attribute o m apos) [] [] pos) X.env=(do
   let ov ←eval o X.env
   standAt apos.atName
   let (f,first) ←holding [ov] (getMethod ov m pl)
   callWith pos f first (backTo pos (starEach [] X.env)) (backToKw pos (keywordEach [] X.env)))):
  PE X (.Call (.Attribute o m apos) [] [] pos) (fun σ H Q=>ta σ H fun x H1=>∃ a dx fs,x=.ref a∧H1 a=some (.ins D dx fs)∧fs.lookup m=none∧sp [x] H1 Q (M.E σ)):=by
 refine⟨fun pins s σ H Q I h=>?_⟩
 refine PySem.W.methodCall_KW (pl:=pl) (thn (he.run pins s σ H _ I h) fun u s1 ⟨x,H1,I1,rx,a,dx,fs,ex,ea,l,q⟩=>?_) ht
 subst ex
 obtain rfl:u=Value.ref a:=rx
 refine getmeth_ok I1 ea c hm l ?_
 exact PySem.W.callWith_K0 (first:=[.ref a]) I1.kIn hm.kp (run_fnS (us:=[.ref a]) (vs:=[.ref a]) F hr hb (M.hx σ) I1 (.cons rfl .nil) q)
end
end Vw
namespace Vw
open PySem L2 PyProof.Rows
section
variable{C:Cst}{Z Z' Zc:Hp}{loc loc':List Addr}{s s':State}{sv sv':L2.St}{H H':Hp}
variable{X:Cx}{e a b c o v:Expr}{es:List Expr}{p p2 pos pos' apos pt:Pos}{f fa fb fc fo fi fv:State→Res RV}{fs:State→Res (List RV)}
theorem gk.PM{fs:State→Res (List RV)}{k:List RV→State→Res RV}{Q:VK}{R:List V→Hp→Prop}(r:SR C Z loc s sv H)(h:EPost C Z loc sv ((fs s).bind k) Q)
  (hq:∀ vs H1 Z1 loc1 s1 xs,Ext Z loc Z1 loc1→SR C Z1 loc1 s1 sv H1→ll C Z1 loc1 s1 sv H1 xs vs→EPost C Z1 loc1 sv (k xs s1) Q→R vs H1):gk C fs sv H R:=by
 refine⟨Z,loc,s,r,?_⟩
 cases e:fs s with
 | stuck=>rw[e]at h;exact h
 | exc x s1=>rw[e]at h;exact h
 | ok xs s1=>
  rw[e]at h
  simp only[Res.bind]at h
  exact fun Z' l' H' vs g r' q'=>hq vs H' Z' l' s1 xs g r' q' (EPost.ext h g)
theorem LN{M:Mode C X}{k:Nat}{fA:Addr}{fd:FuncData}{ps:List Str}{cl m:String}{g:Fn}{pl:Sem Bool}(he:PE X o (aB C fo))(c:Cls X.K (C.cA cl))(hm:Meth X.K (C.cA cl) (Str.ofString m) fA)(F:FnOk X.prog X.w X.K X.mg X.base M.CX k fA fd ps (dV C.cA ps.length g))(hr:Room k X.A)(hb:Binds X.K fd ps [])(ha:PA X (e::es) (gk C fs))
  (hs:(e::es).all notStar=true)
  (ht:eval (.Call (.Attribute o (Str.ofString m) apos) (e::es) [] pos) X.env=(do
   let ov ←eval o X.env
   standAt apos.atName
   let (f,first) ←holding [ov] (getMethod ov (Str.ofString m) pl)
   callWith pos f first (backTo pos (starEach (e::es) X.env)) (backToKw pos (keywordEach [] X.env)))):
  PE X (.Call (.Attribute o (Str.ofString m) apos) (e::es) [] pos) (aB C (bJ M.call cl m ps.length fo fs g)):=by
 have hs':=hs
 simp only[List.all_cons,Bool.and_eq_true]at hs
 refine cf (FW (M:=M) he c hm F hr hb ha (b5 hs.1) (i5 hs.2) ht) fun sv H Q ⟨Z,loc,s,r,q⟩=>?_
 refine(aB.nT r q).imp fun v H1 ⟨Z1,l1,s1,y,g1,r1,st1,q1,h1⟩=>?_
 split at h1
 ·rename_i c' fl x e1
  split at h1
  ·rename_i hc
   obtain⟨a,dx,ws,rfl,hz,hl⟩:=r1.ins q1 e1 hc.2
   rw[hc.1]at hz
   refine⟨a,dx,ws,rfl,hz,hl,gk.PM r1 h1 fun vs H2 Z2 l2 s2 xs g2 r2 q2 h2=>?_⟩
   have q1':cy C.cA Z2 l2 x (.ref a):=cy.mono g2 x q1
   cases e2:bE xs s2 with
   | stuck=>rw[e2]at h2;exact h2.elim
   | exc x s3=>exact absurd e2 j9
   | ok args s3=>
    rw[e2]at h2
    simp only[Res.bind]at h2
    obtain⟨Z3,g3,r3,q3⟩:=r2.bE q2 e2
    split at h2
    ·rename_i hn
     exact M.sp (args:=x::args) r3 ⟨.ref a,vs,rfl,cy.mono g3 x q1',q3⟩ (by simpa using hn) (EPost.ext h2 g3)
    ·exact h2.elim
  ·exact h1.elim
 ·exact h1.elim
theorem IP{M:Mode C X}{k:Nat}{fA:Addr}{fd:FuncData}{ps:List Str}{cl m:String}{g:Fn}{pl:Sem Bool}(he:PE X o (aB C fo))(c:Cls X.K (C.cA cl))(hm:Meth X.K (C.cA cl) (Str.ofString m) fA)(F:FnOk X.prog X.w X.K X.mg X.base M.CX k fA fd ps (dV C.cA ps.length g))(hr:Room k X.A)(hb:Binds X.K fd ps [])
  (ht:eval (.Call (.Attribute o (Str.ofString m) apos) [] [] pos) X.env=(do
   let ov ←eval o X.env
   standAt apos.atName
   let (f,first) ←holding [ov] (getMethod ov (Str.ofString m) pl)
   callWith pos f first (backTo pos (starEach [] X.env)) (backToKw pos (keywordEach [] X.env)))):
  PE X (.Call (.Attribute o (Str.ofString m) apos) [] [] pos) (aB C (bJ M.call cl m ps.length fo (aE []) g)):=by
 refine cf (Ez (M:=M) he c hm F hr hb ht) fun sv H Q ⟨Z,loc,s,r,q⟩=>?_
 refine(aB.nT r q).imp fun v H1 ⟨Z1,l1,s1,y,g1,r1,st1,q1,h1⟩=>?_
 split at h1
 ·rename_i c' fl x e1
  split at h1
  ·rename_i hc
   obtain⟨a,dx,ws,rfl,hz,hl⟩:=r1.ins q1 e1 hc.2
   rw[hc.1]at hz
   refine⟨a,dx,ws,rfl,hz,hl,?_⟩
   simp only[aE,Res.bind,bE]at h1
   split at h1
   ·rename_i hn
    exact M.sp (args:=[x]) r1 ⟨.ref a,[],rfl,q1,rfl⟩ (by simpa using hn) h1
   ·exact h1.elim
  ·exact h1.elim
 ·exact h1.elim
theorem F2{M:Mode C X}{k:Nat}{f D:Addr}{fd:FuncData}{ps:List Str}{sp:Sp}{x:Str}{t:TA}(Mk':Mk X.K D f)(F:FnOk X.prog X.w X.K X.mg X.base M.CX k f fd ps sp)(hr:Room (k+1) X.A)(hg:Gl X x)(hm:X.mg x=some (.ref D))(hb:Binds X.K fd ps [])
  (ha:PA X (e::es) t) (hdb:(x==("__debug__":Str))=false) (he:starEach (e::es) X.env=(false,eval e X.env)::starEach es X.env) (hpl:(backTo pos (starEach es X.env)).any (·.1)=false):
  PE X (.Call (.Name x p) (e::es) [] pos) (fun σ H Q=>t σ H fun vs H1=>∀ y dx,H1 y=none→H1 dx=none→dx≠y→sp (.ref y::vs) (upd (upd H1 dx (.own y)) y (.ins D dx [])) (fun v H2=>v=.non∧Q (.ref y) H2) (M.E σ)):=by
 refine⟨fun pins s σ H Q I h=>?_⟩
 refine wpAny_Call_Name_kw (ld_glob I hg hm ?_ hdb)
 refine PySem.W.callWith_K (h₀:=X.base) I.ok.mod.kin Mk'.kp (thn (ha.run pos pins s σ H _ I h) fun us s1 ⟨vs,H1,I1,r,hq⟩=>⟨I1.kIn,?_⟩) he hpl
 have hq1:=hq (s1.heap.objs.size+1) s1.heap.objs.size (I1.hok.fresh (Nat.le_succ _)) (I1.hok.fresh (Nat.le_refl _)) (Nat.ne_of_lt (Nat.lt_succ_self _))
 have I2:=Inv.made (C:=D) I1
 have r2:Vals (V.ref (s1.heap.objs.size+1)::vs) (Value.ref (s1.heap.objs.size+1)::us):=.cons rfl r
 have hl:(Value.ref (s1.heap.objs.size+1)::us++[]).length=ps.length:=by
  have e:=r2.length
  rw[F.len _ _ _ _ hq1]at e
  rw[List.append_nil]
  exact e.symm
 have hbb:=hb _ (Value.ref (s1.heap.objs.size+1)::us) I2.kIn hl
 rw[List.append_nil]at hbb
 refine wpAny_call (make_map (f:=f) I1.kIn Mk'.makes Mk'.init (beq_iff_eq.mp Mk'.fn) (codeAny_mono (F.run _ X.stack _ _ ⟨Value.ref (s1.heap.objs.size+1)::us,[]⟩ (Value.ref (s1.heap.objs.size+1)::us) _ _ (M.E σ) (hr.make D us [])
  (I2.env0.make D us []) hbb r2 hq1) fun r s' hq'=>?_))
 cases r with
 | error e=>exact M.hx σ pins _ _ e s' I2 hq'
 | ok fl=>
  cases fl with
  | ret u=>
   obtain⟨v,H',I3,rv,ev,q3⟩:=I2.after hq'
   subst ev
   exact⟨rv,⟨V.ref (s1.heap.objs.size+1),H',I3,rfl,q3⟩⟩
  | next=>exact False.elim hq'
  | brk=>exact False.elim hq'
  | cont=>exact False.elim hq'
theorem Mq{M:Mode C X}{cl:String}{n:Nat}{g:Fn}{args:List Val}{vs:List V}{Q:VK}(r:SR C Z loc s sv H)(q:bC C.cA Z loc args vs)(hn:args.length+1=n)
  (h:EPost C Z loc sv (IK s.st.length (M.call g (.r s.st.length::args) ⟨s.sg,s.st++[.ins cl []]⟩)) Q):
  ∀ y dx,H y=none→H dx=none→dx≠y→dV C.cA n g (.ref y::vs) (upd (upd H dx (.own y)) y (.ins (C.cA cl) dx [])) (fun v H2=>v=.non∧Q (.ref y) H2) (M.E sv):=by
 intro y dx hy hdx ne
 have hy':upd H dx (.own y) y=none:=by rw[upd_ne (Ne.symm ne)];exact hy
 have r1:=(r.grow (cQ (o:=.own y) hdx)).grow (cQ (o:=.ins (C.cA cl) dx []) hy')
 have fr:Free C Z loc s sv y:=r.free hy
 obtain⟨g1,r2,q2⟩:=r1.alloc (o:=.ins cl []) (by simp) ⟨dx,[],upd_same,rfl⟩ fr
 refine M.sp (args:=.r s.st.length::args) r2 ⟨.ref y,vs,rfl,q2,bC.mono g1 args q⟩ (by simpa using hn) ?_
 have h:=EPost.ext h g1
 cases e:M.call g (.r s.st.length::args) ⟨s.sg,s.st++[.ins cl []]⟩with
 | stuck=>rw[e]at h;exact h
 | exc x s2=>rw[e]at h;exact h
 | ok rv s2=>
  rw[e]at h
  cases rv with
  | own i=>exact h.elim
  | new o=>exact h.elim
  | val x=>
   cases x with
   | r n=>exact h.elim
   | tp l=>exact h.elim
   | d d=>
    cases d with
    | non=>
     intro Z' l' H' v g' r' q'
     exact⟨q',h Z' l' H' _ g' r' (cy.mono g' _ q2)⟩
    | _=>exact h.elim
theorem N7{M:Mode C X}{k:Nat}{fA:Addr}{fd:FuncData}{ps:List Str}{cl:String}{g:Fn}(Mk':Mk X.K (C.cA cl) fA)(F:FnOk X.prog X.w X.K X.mg X.base M.CX k fA fd ps (dV C.cA ps.length g))(hr:Room (k+1) X.A)(hg:Gl X (Str.ofString cl))(hm:X.mg (Str.ofString cl)=some (.ref (C.cA cl)))(hb:Binds X.K fd ps [])
  (ha:PA X (e::es) (gk C fs)) (hdb:((Str.ofString cl)==("__debug__":Str))=false) (hs:(e::es).all notStar=true):PE X (.Call (.Name (Str.ofString cl) p) (e::es) [] pos) (aB C (GB M.call cl ps.length fs g)):=by
 have hs':=hs
 simp only[List.all_cons,Bool.and_eq_true]at hs
 refine cf (F2 (M:=M) Mk' F hr hg hm hb ha hdb (b5 hs.1) (i5 hs.2)) fun sv H Q h=>(gk.at h).imp fun vs H1 ⟨Z,loc,s,xs,r,q,h⟩=>?_
 cases e1:bE xs s with
 | stuck=>rw[e1]at h;exact h.elim
 | exc x s1=>exact absurd e1 j9
 | ok args s1=>
  rw[e1]at h
  simp only[Res.bind]at h
  obtain⟨Z1,g1,r1,q1⟩:=r.bE q e1
  split at h
  ·rename_i hn
   exact Mq (M:=M) r1 q1 hn (EPost.ext h g1)
  ·exact h.elim
theorem KY{T:List (String×String)}{n:String}(op:Bop)(F:tD X.K C.cA T)(ho:PE X o (aB C fo))(hv:PE X v (aB C fv)):PS X (.AugAssign (.Attribute o (Str.ofString n) pos') op.py v pos) (fY C (oq T n op fo fv)):=by
 cases ha:DE op with
 | none=>
  refine iR ps_never fun D sv H ⟨Z,loc,s,r,q⟩=>?_
  unfold oq at q
  rw[ha]at q
  exact q.elim
 | some g=>
  have hp:InOp X op.py (ipI g):=by
   cases op<;> simp[DE]at ha
   ·subst ha;exact ip_add
   ·subst ha;exact ip_sub
  refine iR (ps_fldaug ho hv hp) fun D sv H ⟨Z,loc,s,r,q⟩=>?_
  unfold oq at q
  rw[ha]at q
  refine(aB.zu r q).imp fun u H1 ⟨Z1,l1,s1,y,g1,r1,st1,q1,h1⟩=>?_
  split at h1
  ·rename_i c fs e2
   split at h1
   ·rename_i hT
    simp only[Bool.and_eq_true,decide_eq_true_eq]at hT
    split at h1
    ·rename_i a e3
     obtain⟨ad,rfl,_,dx,ws,hz,qf⟩:=r1.ob q1 e2
     obtain⟨f1,f2⟩:=F c n (by simpa using hT.1)
     obtain⟨w,l,qw⟩:=yv qf e3
     refine⟨ad,C.cA c,dx,ws,w,rfl,hz,f1,f2,l,(aB.zu r1 h1).imp fun b H2 ⟨Z2,l2,s2,y2,g2,r2,st2,q2,h2⟩=>?_⟩
     have q1':=q1.mono (s':=s2) (H':=H2) g2 st1
     split at h2
     ·rename_i bi c' fs' e4 e5
      split at h2
      ·rename_i hc
       obtain⟨ad',h3,_,dx',ws',hz',qf'⟩:=r2.ob q1' e5
       cases h3
       refine⟨a,bi,qw,r2.dv q2 e4,dx',ws',?_,by rw[←Fu qf'];exact hc.2,?_⟩
       ·rw[←hc.1];exact hz'
       ·have r5:=r2.write (o':=.ins c (xt n (.d (.int (g a bi))) fs')) (u:=.ins (C.cA c) dx' (putF (Str.ofString n) (.int (g a bi)) ws')) q1' e5 rfl (by simp) (fun x w z=>by rw[hz']at z;cases z) ⟨dx',_,upd_same,AR (x:=.d (.int (g a bi))) rfl qf'⟩
        exact cx.nx h2 r5
      ·exact h2.elim
     ·exact h2.elim
    ·exact h1.elim
   ·exact h1.elim
  ·exact h1.elim
end
end Vw
namespace Vw
open PySem L2 PyProof.Rows
section
variable{C:Cst}{X:Cx}{e a b c o v:Expr}{es:List Expr}{p p2 pos pos' apos pt:Pos}{f fa fb fc fo fi fv:State→Res RV}{fs:State→Res (List RV)}{cA:String→Addr}
theorem bT{k n:Nat}{fA:Addr}{fd:FuncData}{ps:List Str}{cl m:String}{g:Fn}{pl:Sem Bool}(hC:C.cA=cA)(M:Mode C X)(c:Cls X.K (cA cl))(hm:Meth X.K (cA cl) (Str.ofString m) fA)(F:FnOk X.prog X.w X.K X.mg X.base M.CX k fA fd ps (dV cA n g))(hr:Room k X.A)(hb:Binds X.K fd ps [])(hn:ps.length=n)(he:PE X o (aB C fo))(ha:PA X (e::es) (gk C fs))
  (hs:(e::es).all notStar=true)
  (ht:eval (.Call (.Attribute o (Str.ofString m) apos) (e::es) [] pos) X.env=(do
   let ov ←eval o X.env
   standAt apos.atName
   let (f,first) ←holding [ov] (getMethod ov (Str.ofString m) pl)
   callWith pos f first (backTo pos (starEach (e::es) X.env)) (backToKw pos (keywordEach [] X.env)))):
  PE X (.Call (.Attribute o (Str.ofString m) apos) (e::es) [] pos) (aB C (bJ M.call cl m n fo fs g)):=by
 subst hC hn
 exact LN he c hm F hr hb ha hs ht
theorem oO{k n:Nat}{fA:Addr}{fd:FuncData}{ps:List Str}{cl m:String}{g:Fn}{pl:Sem Bool}(hC:C.cA=cA)(M:Mode C X)(c:Cls X.K (cA cl))(hm:Meth X.K (cA cl) (Str.ofString m) fA)(F:FnOk X.prog X.w X.K X.mg X.base M.CX k fA fd ps (dV cA n g))(hr:Room k X.A)(hb:Binds X.K fd ps [])(hn:ps.length=n)(he:PE X o (aB C fo))
  (ht:eval (.Call (.Attribute o (Str.ofString m) apos) [] [] pos) X.env=(do
   let ov ←eval o X.env
   standAt apos.atName
   let (f,first) ←holding [ov] (getMethod ov (Str.ofString m) pl)
   callWith pos f first (backTo pos (starEach [] X.env)) (backToKw pos (keywordEach [] X.env)))):
  PE X (.Call (.Attribute o (Str.ofString m) apos) [] [] pos) (aB C (bJ M.call cl m n fo (aE []) g)):=by
 subst hC hn
 exact IP he c hm F hr hb ht
theorem NL{k n:Nat}{fA:Addr}{fd:FuncData}{ps:List Str}{cl:String}{g:Fn}(hC:C.cA=cA)(M:Mode C X)(Mk':Mk X.K (cA cl) fA)(F:FnOk X.prog X.w X.K X.mg X.base M.CX k fA fd ps (dV cA n g))(hr:Room (k+1) X.A)(hg:Gl X (Str.ofString cl))(hm:X.mg (Str.ofString cl)=some (.ref (cA cl)))(hb:Binds X.K fd ps [])(hn:ps.length=n)
  (ha:PA X (e::es) (gk C fs)) (hdb:((Str.ofString cl)==("__debug__":Str))=false) (hs:(e::es).all notStar=true):PE X (.Call (.Name (Str.ofString cl) p) (e::es) [] pos) (aB C (GB M.call cl n fs g)):=by
 subst hC hn
 exact N7 Mk' F hr hg hm hb ha hdb hs
theorem kO{T:List (String×String)}{n:String}(hC:C.cA=cA)(F:tD X.K cA T)(he:PE X e (aB C f))(hb:attributeBase e (Str.ofString n) X.env (eval e X.env)=eval e X.env):PE X (.Attribute e (Str.ofString n) pos) (aB C (kY T n f)):=by
 subst hC
 exact ML F he hb
theorem DU{T:List (String×String)}{n:String}(hC:C.cA=cA)(F:tD X.K cA T)(ho:PE X o (aB C fo))(hv:PE X v (aB C fv))(hc:ki v=true):PS X (.Assign [.Attribute o (Str.ofString n) pos'] v pos) (fY C (Aw T n fo fv)):=by
 subst hC
 exact KL F ho hv hc
theorem wV{T:List (String×String)}{n:String}(hC:C.cA=cA)(F:tD X.K cA T)(ho:PE X o (aB C fo))(hv:PE X v (aB C fv)):PS X (.AugAssign (.Attribute o (Str.ofString n) pos') .Add v pos) (fY C (oq T n .add fo fv)):=by
 subst hC
 exact KY .add F ho hv
end
abbrev Ee:Type:=He.AlD×Bool
def qW(K:PySem.W.Frag)(x:String):Addr:=He.ga K (Str.ofString x)
def J0(K:PySem.W.Frag)(N:List String)(T:String):Bool:=N.all fun c=>match lN N c T with
 | some b=>decide (PySem.W.exmOne K (.ref (qW K c)) (.ref (qW K T))=some b)
 | none=>true
theorem AG{N:List String}{c T:String}{b:Bool}(h:lN N c T=some b):c∈N:=by
 unfold lN at h
 split at h
 ·rename_i hc;simpa using hc
 ·cases h
theorem IZ{K:PySem.W.Frag}{N:List String}{T:String}(h:J0 K N T=true):EM N K (qW K) T (.ref (qW K T)):=fun c b e=>by
 have:=List.all_eq_true.mp h c (AG e)
 rw[e]at this
 exact of_decide_eq_true this
def KP(K:PySem.W.Frag)(D:Addr):Bool:=
 decide (PySem.W.findIn K (.ref D) "__getattribute__"=some (some (.builtin "BaseException.__getattribute__")))&&(decide (PySem.W.findIn K (.ref D) "__getattr__"=some none)&&(decide (PySem.W.subIn K (.ref D) (.type "BaseException")=some true)&&(PySem.W.hasDictIn K D&&
 (decide (PySem.W.findIn K (.ref D) "__class__"=some (some (.builtin "object.__class__")))&&(decide (PySem.W.specialIn K (.builtin "object.__class__") "__get__"=some (some (.builtin "getset_descriptor.__get__")))&&(decide (PySem.W.takesIn K (.builtin "object.__class__")=some true)&&decide (PySem.W.mroIn K D (.type "object")=some true)))))))
theorem HL{K:PySem.W.Frag}{D:Addr}(h:KP K D=true):ExcC K D:=by
 obtain⟨h1,h⟩:=Bool.and_eq_true_iff.mp h
 obtain⟨h2,h⟩:=Bool.and_eq_true_iff.mp h
 obtain⟨h3,h⟩:=Bool.and_eq_true_iff.mp h
 obtain⟨h4,h⟩:=Bool.and_eq_true_iff.mp h
 obtain⟨h5,h⟩:=Bool.and_eq_true_iff.mp h
 obtain⟨h6,h⟩:=Bool.and_eq_true_iff.mp h
 obtain⟨h7,h8⟩:=Bool.and_eq_true_iff.mp h
 exact⟨of_decide_eq_true h1,of_decide_eq_true h2,of_decide_eq_true h3,h4,of_decide_eq_true h5,of_decide_eq_true h6,of_decide_eq_true h7,of_decide_eq_true h8⟩
def Jr(K:PySem.W.Frag)(T:String):Value:=if T="ValueError" then .type "ValueError" else .ref (qW K T)
def j5(K:PySem.W.Frag)(N:List String)(T:String):Bool:=decide (PySem.W.kitOne K (.type "NoneType") (Jr K T)=some false)&&N.all fun c=>match lN N c T with
 | some b=>KP K (qW K c)&&decide (PySem.W.kitOne K (.ref (qW K c)) (Jr K T)=some b)
 | none=>true
theorem jX{K:PySem.W.Frag}{N:List String}{T:String}(h:j5 K N T=true):ExK N K (qW K) T (Jr K T):=by
 obtain⟨h1,h2⟩:=Bool.and_eq_true_iff.mp h
 refine⟨fun c b e=>?_,of_decide_eq_true h1⟩
 have:=List.all_eq_true.mp h2 c (AG e)
 rw[e]at this
 obtain⟨q1,q2⟩:=Bool.and_eq_true_iff.mp this
 exact⟨HL q1,of_decide_eq_true q2⟩
def FJ(K:PySem.W.Frag)(T:List (String×String)):Bool:=T.all fun p=>(He.Fa.cls (Str.ofString p.1)).ok K&&decide (PySem.W.findIn K (.ref (qW K p.1)) (Str.ofString p.2)=some none)
theorem HH{K:PySem.W.Frag}{T:List (String×String)}(h:FJ K T=true):tD K (qW K) T:=fun c f hc=>by
 obtain⟨q1,q2⟩:=Bool.and_eq_true_iff.mp (List.all_eq_true.mp h (c,f) hc)
 have q3:=of_decide_eq_true q2
 exact⟨He.cls_ok q1,q3⟩
def Nj(K:PySem.W.Frag)(x:String):Bool:=(He.Fa.exc (Str.ofString x)).ok K
theorem Il{K:PySem.W.Frag}{x:String}(h:Nj K x=true):ExF K (qW K x):=by
 obtain⟨a,b,c,d⟩:=He.exc_ok h
 exact⟨a,b,c,d⟩
end Vw
namespace L2
open PySem PySem.Spec PyProof.Rows
end L2
namespace Vw
open PySem L2 PyProof.Rows
def NJ(x y:RV)(s:State):Res RV:=
 match lv s x,dv s y with
 | some l,some (.int k)=>if-(2^63)≤k∧k<2^63∧l.length*k.toNat≤sizeLine then .ok (.new (.lst (List.replicate k.toNat l).flatten)) s else .stuck
 | _,_=>.stuck
def Nv(x y:RV)(s:State):Res RV:=
 match dv s x,dv s y with
 | some (.bl a),some (.bl b)=>bp (.bl (decide (a=b))) s
 | _,_=>.stuck
def MP(x y:RV)(s:State):Res RV:=
 match dv s x,dv s y with
 | some (.bl a),some (.bl b)=>bp (.bl (!decide (a=b))) s
 | _,_=>.stuck
def MR(f:State→Res RV)(s:State):Res RV:=(ev f s).bind fun r s=>
 match dv s r with
 | some (.str t)=>if t.length≤sizeLine then bp (.str t.reverse) s else .stuck
 | _=>match lv s r with
  | some l=>.ok (.new (.lst l.reverse)) s
  | none=>.stuck
section
variable{C:Cst}{Z Z' Zc:Hp}{loc loc':List Addr}{s s':State}{sv sv':L2.St}{H H':Hp}
variable{X:Cx}{e a b c o v:Expr}{es:List Expr}{p p2 pos pos' apos pt:Pos}{f fa fb fc fo fi fv:State→Res RV}{fs:State→Res (List RV)}{cA:String→Addr}
theorem xU(hC:C.cA=cA){t:Tg}{tg it:Expr}{b:List Stmt}{sb:State→Res Fl}{src:State→Res (List Val)}(hp:PassesOwn (model X.prog X.w) X.A X.env X.xe)(hc:X.calm=true)(hi:PI X tg it (mQ C src))
  (hg:∀ C':Cst,C'.cA=cA→C'.W=C.W→PG X tg (qN C' t)) (hb:∀ C':Cst,C'.cA=cA→C'.W=C.W→PSs X b (fY C' sb)) (hs:de it=true):PS X (.For tg it b [] pos) (fY C (oW t src sb)):=
 MB hp hc hi (fun C' h=>hg C' (h.ca.trans hC) h.w) (fun C' h=>hb C' (h.ca.trans hC) h.w) hs
theorem D1{N:List String}{T:String}{x n v:Str}{cv:Value}{i j:Nat}{body:List Stmt}{np p1 p2 p3:Pos}{f:State→Res Fl}(hC:C.cA=cA)(hs:X.stack=X.env::X.outer)(hf:X.env.frame=some X.env.locals)(hex:X.ex=[])(hN:X.N.Nodup)(hi:X.N[i]? =some n)(hj:X.N[j]? =some v)(hij:i≠j)(hln:X.env.kindOf n=some .local)(hlv:X.env.kindOf v=some .local)(hc:Names X x cv)(em:EM N X.K cA T cv)(tk:Takes X C.W)
  (hb:∀ (C':Cst) (pn:List (Addr×Obj)) (xe:Value→Shared→Prop),C'.cA=cA→Takes (X.tr pn xe) C'.W→PassesOwn (model X.prog X.w) X.A X.env xe→PSs (X.tr pn xe) body (fY C' f))
  (hdn:(n==("__debug__":Str))=false) (hcn:(n==("__classdict__":Str))=false) (hsw:swapsWithSole [.Name v p1] (.Name n p2) p3.line X.env=pure false) (hsw2:swappedStores [.Name v p1] (.Name n p2) X.env=pure none):
  PS X (.Try body [.ExceptHandler (some (.Name x np)) (some n) [.Assign [.Name v p1] (.Name n p2) p3] pos'] [] [] pos) (fY C (jG N T i j f)):=by
 subst hC
 exact EK hs hf hex hN hi hj hij hln hlv hc em tk hb hdn hcn hsw hsw2
end
def G7:CXT:=fun outer H s E u s'=>∃ P w,L2.CX P w outer H s E u s'
theorem JQ(H:Hp)(s:Shared)(e:Value)(s':Shared)(h:G7 [] H s (fun _ _ _=>False) e s'):False:=by
 obtain⟨P,w,h⟩:=h
 obtain⟨_,_,_,_,_,_,_,_,_,_,_,_,z⟩:=h
 exact z.elim
theorem I9{P:Program}{w:World}{K:PySem.W.Frag}{mg:Str→Option Value}{base:Heap}{k:Nat}{f:Addr}{fd:FuncData}{ps:List Str}{sp:Sp}(F:FnOk P w K mg base (L2.CX P w) k f fd ps sp):FnOk P w K mg base G7 k f fd ps sp:=
 ⟨F.len,fun A outer s H args us vs Q E hr e0 b r h=>codeAny_mono (F.run A outer s H args us vs Q E hr e0 b r h) fun r s' q=>by
  cases r with
  | error e=>exact⟨P,w,q⟩
  | ok fl=>cases fl<;> exact q⟩
end Vw
namespace Vw
open PySem L2
section
variable{C:Cst}{Z Z':Hp}{loc loc':List Addr}{s s':State}{sv sv':L2.St}{H H':Hp}
def nL(s:State)(x:RV):Option (List Val):=
 match x with
 | .new (.lst m)=>some m
 | _=>match ob s x with
  | some (.lst m)=>some m
  | _=>none
def yo(o:RV)(rs:List RV)(s:State):Res RV:=
 match rs with
 | [x]=>match nL s x,ob s o with
  | some m,some (.lst l)=>if l.length+m.length≤sizeLine then .ok (.val (.d .non)) (wr o (.lst (l++m)) s)else .stuck
  | _,_=>.stuck
 | _=>.stuck
def NH(fo fe:State→Res RV)(s:State):Res RV:=(ev fo s).bind fun o s=>if jf s o then(fe s).bind fun x s=>yo o [x] s else .stuck
def ur(rs:List RV)(s:State):Res RV:=
 match rs with
 | [x]=>match dv s x with
  | some (.int i)=>bp (.int i) s
  | some (.bl k)=>bp (.int (if k then 1 else 0)) s
  | _=>.stuck
 | _=>.stuck
theorem qD:vZ C ur (fun xs H Q=>(∃ i,xs=[.int i]∧Q (.int i) H)∨∃ k,xs=[.bl k]∧Q (.int (if k then 1 else 0)) H):=by
 intro Z loc s sv H rs vs Q r q h
 unfold ur at h
 split at h
 ·split at h
  ·rename_i i e
   obtain⟨v,rfl,rfl⟩:=GI r q e
   exact .inl ⟨i,rfl,h.bp r rfl⟩
  ·rename_i k e
   obtain⟨v,rfl,rfl⟩:=GI r q e
   exact .inr ⟨k,rfl,h.bp r rfl⟩
  ·exact h.elim
 ·exact h.elim
@[simp] theorem M8(o x:RV)(s:State):yo o [x] s=(match nL s x,ob s o with
  | some m,some (.lst l)=>if l.length+m.length≤sizeLine then .ok (.val (.d .non)) (wr o (.lst (l++m)) s)else .stuck
  | _,_=>.stuck):=id rfl
@[simp] theorem Pp(fo fe:State→Res RV)(s:State):NH fo fe s=(ev fo s).bind fun o s=>if jf s o then(fe s).bind fun x s=>yo o [x] s else .stuck:=id rfl
@[simp] theorem QO(m:List Val)(s:State):nL s (.new (.lst m))=some m:=id rfl
end
end Vw
namespace Vw
open PySem L2 PyProof.Rows
def F7(f:Val→Option D):List Val→Option (List D)
 | []=>some []
 | x::l=>match f x,F7 f l with
  | some d,some ds=>some (d::ds)
  | _,_=>none
def Jj(f:Val→Option D):List (String×Val)→Option (List (String×D))
 | []=>some []
 | (k,x)::l=>match f x,Jj f l with
  | some d,some ds=>some ((k,d)::ds)
  | _,_=>none
def Ou(f:Val→Option D):Ob→Option D
 | .lst l=>(F7 f l).map .lst
 | .ins c fs=>(Jj f fs).map (.ins c)
 | _=>none
def frz:Nat→State→Val→Option D
 | 0,_,v=>match v with
  | .d x=>some x
  | _=>none
 | n+1,s,v=>match v with
  | .d x=>some x
  | .tp l=>(F7 (frz n s) l).map .tup
  | .r m=>match s.st[m]? with
   | some o=>Ou (frz n s) o
   | none=>none
section
variable{C:Cst}{Z Z' Zc:Hp}{loc loc':List Addr}{s s':State}{sv sv':L2.St}{H H':Hp}
variable{X:Cx}{e a b c o:Expr}{es:List Expr}{p pos apos:Pos}{f fa fb fc fo fi fv:State→Res RV}
theorem GoodZ.add(g:GoodZ Z H Zc){a:Addr}{u:HO}(z:Z a=none)(h1:H a=some u)(h4:sl u=false):∃ Zd,Same Zc Zd∧GoodZ Z H Zd∧Zd a=some u:=by
 cases ez:Zc a with
 | none=>
  refine⟨upd Zc a u,cQ ez,⟨g.up.trans (cQ ez),fun b w hb=>?_⟩,upd_same⟩
  by_cases hba:b=a
  ·subst hba
   rw[upd_same]at hb
   cases hb
   exact .inr ⟨h1,h4⟩
  ·rw[upd_ne hba]at hb
   exact g.at_ b w hb
 | some w=>
  have hw:w=u:=by
   rcases g.at_ a w ez with q | ⟨q,_⟩
   ·rw[z]at q;cases q
   ·rw[h1]at q;cases q;rfl
  subst hw
  exact⟨Zc,Same.refl _,g,ez⟩
end
end Vw
namespace Vw
open PySem L2 PyProof.Rows
end Vw
namespace Vw
open PySem L2 PyProof.Rows
def rE:List Val→Option (List D)
 | []=>some []
 | .d x::r=>(rE r).map (x:: ·)
 | _::_=>none
def yk(r:Res RV)(s:State):Res RV:=
 match r with
 | .ok (.val (.d x)) _=>.ok (.val (.d x)) s
 | .ok (.new o) _=>if o.toD.isSome then .ok (.new o) s else .stuck
 | .exc x _=>.exc x s
 | _=>.stuck
def rQ(n:Nat)(fs:State→Res (List RV))(g:Fn)(s:State):Res RV:=(fs s).bind fun rs s=>(bE rs s).bind fun args s=>match rE args with
 | some ds=>if ds.length=n then yk (g (ds.map .d) []) s else .stuck
 | none=>.stuck
theorem A2:∀ {l:List Val} {ds:List D},rE l=some ds→l=ds.map .d
 | [],ds,h=>by cases h;rfl
 | .d x::r,ds,h=>by
  obtain⟨t,e,rfl⟩:=Option.map_eq_some_iff.mp h
  rw[List.map_cons,←A2 e]
 | .r n::r,ds,h=>by cases h
 | .tp l::r,ds,h=>by cases h
section
variable{C:Cst}{Z Z' Zc:Hp}{loc loc' l':List Addr}{s s':State}{sv sv':L2.St}{H H':Hp}
variable{X:Cx}{e a b c o:Expr}{es:List Expr}{p pos apos:Pos}{f fa fb fc fo fi fv:State→Res RV}
theorem CL{cA:String→Addr}:∀ {ds:List D} {vs:List V},bC cA Z loc (ds.map .d) vs→bC cA Z loc' (ds.map .d) vs
 | [],vs,h=>h
 | d::ds,vs,⟨v,t,e,q,h⟩=>⟨v,t,e,q,CL h⟩
theorem wY{cA:String→Addr}:∀ {l:List Val} {vs:List V} {ds:List D},toDs l=some ds→bC cA Z loc l vs→bC cA Z loc' l vs
 | [],vs,ds,e,h=>h
 | .d x::l,vs,ds,e,⟨v,t,e1,q,h⟩=>by
  obtain⟨t',e',_⟩:=Option.map_eq_some_iff.mp e
  exact⟨v,t,e1,q,wY e' h⟩
 | .r n::l,vs,ds,e,h=>by cases e
 | .tp m::l,vs,ds,e,h=>by cases e
theorem vw{cA:String→Addr}:∀ {l:List (K0×Val)} {vs:List (Key×V)} {ds:List (K0×D)},toDK l=some ds→fk cA Z loc l vs→fk cA Z loc' l vs
 | [],vs,ds,e,h=>h
 | (k,.d x)::l,vs,ds,e,⟨v,t,e1,q,h⟩=>by
  obtain⟨t',e',_⟩:=Option.map_eq_some_iff.mp e
  exact⟨v,t,e1,q,vw e' h⟩
 | (k,.r n)::l,vs,ds,e,h=>by cases e
 | (k,.tp m)::l,vs,ds,e,h=>by cases e
theorem vH{cA:String→Addr}:∀ {l:List (List K0×Val)} {vs:List (List Key×V)} {ds:List (List K0×D)},toDK l=some ds→fL cA Z loc l vs→fL cA Z loc' l vs
 | [],vs,ds,e,h=>h
 | (k,.d x)::l,vs,ds,e,⟨v,t,e1,q,h⟩=>by
  obtain⟨t',e',_⟩:=Option.map_eq_some_iff.mp e
  exact⟨v,t,e1,q,vH e' h⟩
 | (k,.r n)::l,vs,ds,e,h=>by cases e
 | (k,.tp m)::l,vs,ds,e,h=>by cases e
theorem vy{cA:String→Addr}:∀ {l:List (String×Val)} {vs:List (Str×V)} {ds:List (String×D)},toDK l=some ds→iD cA Z loc l vs→iD cA Z loc' l vs
 | [],vs,ds,e,h=>h
 | (k,.d x)::l,vs,ds,e,⟨v,t,e1,q,h⟩=>by
  obtain⟨t',e',_⟩:=Option.map_eq_some_iff.mp e
  exact⟨v,t,e1,q,vy e' h⟩
 | (k,.r n)::l,vs,ds,e,h=>by cases e
 | (k,.tp m)::l,vs,ds,e,h=>by cases e
theorem E4{cA:String→Addr}{a:Addr}:∀ {o:Ob} {d:D},o.toD=some d→Cell cA Z loc H a o→Cell cA Z loc' H a o
 | .lst l,d,e,⟨xs,h,q⟩=>by
  obtain⟨ds,e1,_⟩:=Option.map_eq_some_iff.mp e
  exact⟨xs,h,wY e1 q⟩
 | .dic false l,d,e,⟨ws,h,q⟩=>by
  obtain⟨ds,e1,_⟩:=Option.map_eq_some_iff.mp e
  exact⟨ws,h,vw e1 q⟩
 | .dit false l,d,e,⟨ws,h,q⟩=>by
  obtain⟨ds,e1,_⟩:=Option.map_eq_some_iff.mp e
  exact⟨ws,h,vH e1 q⟩
 | .ins c l,d,e,⟨dx,ws,h,q⟩=>by
  obtain⟨ds,e1,_⟩:=Option.map_eq_some_iff.mp e
  exact⟨dx,ws,h,vy e1 q⟩
 | .dic true l,d,e,_=>by cases e
 | .dit true l,d,e,_=>by cases e
 | .gone,d,e,_=>by cases e
theorem SR.qB(r:SR C Z loc s sv H){E:XK}{st:List Ob}(g:Ext Z [] Z' l')(r':SR (iE C.cA (i6 H Z []) C.H0 E) Z' l' ⟨[],st⟩ [] H'):SR C Z' loc s sv H':=by
 have gz:Ext Z loc Z' loc:=⟨g.1,[],by simp⟩
 have z0:∀ {a:Addr} {u:HO},Z a=none→H a=some u→Z' a=none∧H' a=some u:=fun {a u} h1 h2=>by
  have f:=(qq (H:=H) (loc:=[]) h1 (by simp)).trans h2
  exact⟨(r'.oD (a:=a) f).1,r'.fr a u f⟩
 have ne:∀ {a:Addr},H a≠none→H' a≠none:=fun {a} h=>by
  cases eh:H a with
  | none=>exact absurd eh h
  | some u=>
   cases ez:Z a with
   | none=>rw[(z0 ez eh).2];simp
   | some w=>exact Cv (r'.zh a w (g.1 a w ez))
 refine⟨fun a o h=>?_,r'.zh,fun a o h=>?_,r'.lk,r.ln,r.nd,fun a h=>⟨ne (r.lh a h).1,(r.lh a h).2⟩,fun n a o h1 h2 h3=>?_,fun i x h=>?_,fun i o h=>?_,r.oi,r.ls⟩
 ·exact(z0 (r.oD h).1 (r.fr a o h)).2
 ·cases e:C.Fr a with
  | none=>rfl
  | some u=>rw[(z0 (r.oD e).1 (r.fr a u e)).1]at h;cases h
 ·obtain⟨q1,q2⟩:=r.cl n a o h1 h2 h3
  cases eh:H a with
  | none=>exact absurd eh (mI h3 q1)
  | some u=>
   obtain⟨w1,w2⟩:=z0 q2 eh
   exact⟨(q1.at (w2.trans eh.symm)).mono gz (Same.refl _),w1⟩
 ·obtain⟨v,q1,q2⟩:=r.vl i x h
  exact⟨v,q1,cy.mono gz x q2⟩
 ·obtain⟨a,q1,q2,q3,q4,q5,q6⟩:=r.ow i o h
  cases eh:H a with
  | none=>exact absurd eh (mI q2 q3)
  | some u=>
   obtain⟨w1,w2⟩:=z0 q4 eh
   exact⟨a,q1,q2,(q3.at (w2.trans eh.symm)).mono gz (Same.refl _),w1,q5,q6⟩
theorem cw.qB(r:SR C Z loc s sv H){E:XK}{st:List Ob}(g:Ext Z [] Z' l')(r':SR (iE C.cA (i6 H Z []) C.H0 E) Z' l' ⟨[],st⟩ [] H'){o:Ob}{v:V}(ho:o.toD.isSome=true)(q:cw (iE C.cA (i6 H Z []) C.H0 E) Z' l' ⟨[],st⟩ [] H' (.new o) v):cw C Z' loc s sv H' (.new o) v:=by
 obtain⟨a,h1,h2,h3,h4⟩:=q
 obtain⟨d,hd⟩:=Option.isSome_iff_exists.mp ho
 have za:Z a=none:=by
  cases e:Z a with
  | none=>rfl
  | some w=>have:=g.1 a w e;rw[h4.z]at this;cases this
 have ha:H a=none:=by
  have:=h4.f
  exact(qq (H:=H) (loc:=[]) za (by simp)).symm.trans this
 refine⟨a,h1,h2,E4 hd h3,h4.z,?_,fun z=>(r.lh a z).1 ha,fun i o h e=>?_⟩
 ·cases e:C.Fr a with
  | none=>rfl
  | some u=>have:=r.fr a u e;rw[ha]at this;cases this
 ·obtain⟨b,q1,q2,q3,q4,q5,q6⟩:=r.ow i o h
  rw[e]at q1
  cases q1
  exact mI q2 q3 ha
theorem SR.Oi(r:SR C Z loc s sv H)(E:XK):SR (iE C.cA (i6 H Z []) C.H0 E) Z [] ⟨[],[]⟩ [] H:=r.look GoodZ.refl E
theorem HB{g:Fn}{n:Nat}{ds:List D}{vs:List V}{Q:VK}(r:SR C Z loc s sv H)(q:bC C.cA Z loc (ds.map .d) vs)(hn:ds.length=n)(h:EPost C Z loc sv (yk (g (ds.map .d) []) s) Q):dV C.cA n g vs H Q (WE C.W sv):=by
 refine⟨i6 H Z [],C.H0,Z,[],ds.map .d,[],r.Oi _,CL q,by simpa using hn,?_⟩
 unfold yk at h
 cases e:g (ds.map .d) []with
 | stuck=>rw[e]at h;exact h
 | exc x s1=>
  rw[e]at h
  exact fun Z' l' H' c d g r' q'=>h Z' loc H' c d ⟨g.1,[],by simp⟩ (r.qB g r') q'
 | ok rv s1=>
  rw[e]at h
  cases rv with
  | own i=>exact h.elim
  | val x=>
   cases x with
   | d x=>exact fun Z' l' H' v g r' q'=>h Z' loc H' v ⟨g.1,[],by simp⟩ (r.qB g r') q'
   | r n=>exact h.elim
   | tp l=>exact h.elim
  | new o=>
   dsimp only at h
   split at h
   ·rename_i ho
    exact fun Z' l' H' v g r' q'=>h Z' loc H' v ⟨g.1,[],by simp⟩ (r.qB g r') (cw.qB r g r' ho q')
   ·exact h.elim
theorem K8{k n:Nat}{fA:Addr}{fd:FuncData}{ps:List Str}{x:Str}{g:Fn}{fs:State→Res (List RV)}{cA:String→Addr}(hC:C.cA=cA)(tk:Takes X C.W)(F:FnOk X.prog X.w X.K X.mg X.base (L2.CX X.prog X.w) k fA fd ps (dV cA n g))(hr:Room k X.A)(hg:Gl X x)(hm:X.mg x=some (.ref fA))(hk:PySem.W.keepIn X.K (.ref fA)=true)
  (hb:Binds X.K fd ps []) (hn:ps.length=n) (ha:PA X (e::es) (gk C fs)) (hdb:(x==("__debug__":Str))=false) (hs:(e::es).all notStar=true):
  PE X (.Call (.Name x p) (e::es) [] pos) (aB C (rQ n fs g)):=by
 subst hn hC
 have hs':=hs
 simp only[List.all_cons,Bool.and_eq_true]at hs
 refine cf (pe_callS F hr hg hm hk hb (fun σ=>passAt tk σ) ha hdb (b5 hs.1) (i5 hs.2)) fun sv H Q h=>(gk.at h).imp fun vs H1 ⟨Z,loc,s,xs,r,q,h⟩=>?_
 cases e1:bE xs s with
 | stuck=>rw[e1]at h;exact h.elim
 | exc x s1=>exact absurd e1 j9
 | ok args s1=>
  rw[e1]at h
  simp only[Res.bind]at h
  obtain⟨Z1,g1,r1,q1⟩:=r.bE q e1
  split at h
  ·rename_i ds e2
   split at h
   ·rename_i hn
    exact HB r1 (A2 e2▸q1) hn (EPost.ext h g1)
   ·exact h.elim
  ·exact h.elim
def AJ(i:Nat)(s:State):State:=match lb i s with
 | .ok _ s'=>s'
 | _=>s
def GW(i:Nat)(b:State→Res Fl)(s:State):Res Fl:=match b s with
 | .ok .nx s'=>.ok .nx (AJ i s')
 | r=>r
theorem SR.fz(r:SR C Z loc s sv H)(i:Nat):∃ Z',Ext Z loc Z' loc∧SR C Z' loc (AJ i s) sv H:=by
 unfold AJ
 cases e:Vw.lb i s with
 | exc x s1=>exact⟨Z,Ext.refl _ _,r⟩
 | stuck=>exact⟨Z,Ext.refl _ _,r⟩
 | ok x s1=>
  have e':=e
  unfold Vw.lb at e'
  split at e'
  ·rename_i o ho
   obtain⟨a,h1,_⟩:=r.ow i o ho
   obtain⟨Z',g,r',_⟩:=r.lb h1 e
   exact⟨Z',g,r'⟩
  ·rename_i x' hx
   cases e'
   exact⟨Z,Ext.refl _ _,r⟩
  ·cases e'
theorem NA{i:Nat}{st:Stmt}{b:State→Res Fl}(h:PS X st (fY C b)):PS X st (fY C (GW i b)):=by
 refine iR h fun D sv H ⟨Z,loc,s,r,q⟩=>⟨Z,loc,s,r,?_⟩
 unfold GW at q
 cases e:b s with
 | stuck=>rw[e]at q;exact q
 | exc x s1=>rw[e]at q;exact q
 | ok f s1=>
  rw[e]at q
  cases f with
  | nx=>
   intro Z' l' sv' H' g r'
   obtain⟨Z2,g2,r2⟩:=r'.fz i
   exact q Z2 l' sv' H' (g.trans g2) r2
  | brk=>exact q
  | cnt=>exact q
  | ret rv=>exact q
end
end Vw
namespace Vw
open PySem L2 PyProof.Rows
end Vw
namespace Vw
open PySem L2 PyProof.Rows
end Vw
namespace L2
open PySem PySem.Spec PyProof.Rows
end L2
namespace Vw
open PySem L2 PyProof.Rows
end Vw
namespace Vw
open PySem L2 PyProof.Rows
def GV:HO→Prop
 | .frz _ _=>False
 | _=>True
structure GoodY (Z H:Hp) (L:Addr→Prop) (Zc:Hp):Prop where
 up:Same Z Zc
 at_:∀ (a:Addr) (o:HO),Zc a=some o→Z a=some o∨(Z a=none∧Rz H a o∧L a∧GV o)
section
variable{C:Cst}{Z Z' Zc Zd:Hp}{loc loc' l':List Addr}{L:Addr→Prop}{s s':State}{sv sv':L2.St}{H H':Hp}
variable{X:Cx}{e a b c o:Expr}{es:List Expr}{p pos apos:Pos}{f fa fb fc fo fi fv:State→Res RV}
theorem GoodY.refl:GoodY Z H L Z:=⟨Same.refl _,fun a o h=>.inl h⟩
theorem Ko{a:Addr}{u w:HO}(h1:Rz H a u)(h2:Rz H a w)(n1:GV u)(n2:GV w):w=u:=by
 rcases h1 with h1 | ⟨_,o1,h1⟩
 ·rcases h2 with h2 | ⟨_,o2,h2⟩
  ·rw[h1]at h2;cases h2;rfl
  ·rw[h1]at h2;cases h2;exact n1.elim
 ·rcases h2 with h2 | ⟨_,o2,h2⟩
  ·rw[h1]at h2;cases h2;exact n2.elim
  ·rw[h1]at h2;cases h2;rfl
theorem GoodY.add(g:GoodY Z H L Zc){a:Addr}{u:HO}(z:Z a=none)(h1:Rz H a u)(hl:L a)(hn:GV u):∃ Zd,Same Zc Zd∧GoodY Z H L Zd∧Zd a=some u:=by
 cases ez:Zc a with
 | none=>
  refine⟨upd Zc a u,cQ ez,⟨g.up.trans (cQ ez),fun b w hb=>?_⟩,upd_same⟩
  by_cases hba:b=a
  ·subst hba
   rw[upd_same]at hb
   cases hb
   exact .inr ⟨z,h1,hl,hn⟩
  ·rw[upd_ne hba]at hb
   exact g.at_ b w hb
 | some w=>
  have hw:w=u:=by
   rcases g.at_ a w ez with q | ⟨_,q,_,n⟩
   ·rw[z]at q;cases q
   ·exact Ko h1 q hn n
  subst hw
  exact⟨Zc,Same.refl _,g,ez⟩
end
end Vw
namespace SrtO
open PySem PyProof.Rows Srt
section
variable{prog:Program}{w:World}{A:Around}{E:Value→Shared→Prop}{s:Shared}
def FD(h:Heap)(v:Value)(x:Int):Prop:=∃ a o t u n,v=.ref a∧h.get? a=some o∧o.cls=.type "tuple"∧o.data=.seq #[.int x t,u] n
theorem FD.keeps{h h':Heap}{v:Value}{x:Int}(p:FD h v x)(k:∀ b o,h.get? b=some o→o.cls=.type "tuple"→h'.get? b=some o):FD h' v x:=by
 obtain⟨a,o,t,u,n,e,ho,hc,hd⟩:=p
 exact⟨a,o,t,u,n,e,k _ _ ho hc,hc,hd⟩
end
end SrtO
namespace L2
open PySem PySem.Spec PyProof.Rows
end L2
namespace Vw
open PySem L2 PyProof.Rows
end Vw
namespace Vw
open PySem L2 PyProof.Rows
end Vw
namespace L2
open PySem PySem.Spec PyProof.Rows
end L2
namespace Vw
open PySem L2 PyProof.Rows
end Vw
namespace Vw
open PySem L2 PyProof.Rows
def Di(ex:PySem.W.Frag→Bool)(as:List Addr)(fa:List He.Fa)(fn:List He.DefD)(g:Addr→Option Obj):Ee:=(He.obsD fa fn (He.frG g as),uY (He.frG g as)&&ex (He.frG g as))
def GG(ex:PySem.W.Frag→Bool)(as:List Addr)(fa:List He.Fa)(fn:List He.DefD):PySem.W.Hook where
 α:=Ee
 obs:=fun s=>Di ex as fa fn s.heap.get?
 val:=fun _=>(He.valD fn,true)
 says:=fun _ h=>∃ K:PySem.W.Frag,K.In h∧He.SaysD fa fn K∧uY K=true∧ex K=true
 of:=fun _ _ e=>⟨_,He.frG_in,congrArg (fun z:Ee=>z.1) e,Bool.and_eq_true_iff.mp (congrArg (fun z:Ee=>z.2) e)⟩
 keeps:=fun _ _ _ ⟨K,hK,c⟩ k=>⟨K,PySem.W.Frag.In.keeps hK k,c⟩
theorem ID{ex:PySem.W.Frag→Bool}{as:List Addr}{fa:List He.Fa}{fn:List He.DefD}{g:Addr→Option Obj}{s:Shared}(h:∀ a,g a=s.heap.get? a):Di ex as fa fn g=(GG ex as fa fn).obs s:=by
 have e:g=s.heap.get? :=funext h
 rw[e]<;> rfl
theorem rO{α β γ:Type}{e:Option α}{f:α→β}{g:α→γ}{b:β}{c:γ}(h1:e.map f=some b)(h2:e.map g=some c):e.map (fun s=>(f s,g s))=some (b,c):=by
 cases e with
 | none=>cases h1
 | some s=>rw[Option.map_some]at *;cases h1;cases h2;rfl
theorem yL{α:Type}{e:Option α}{f g:α→Bool}(h1:e.map f=some true)(h2:e.map g=some true):e.map (fun s=>f s&&g s)=some true:=by
 cases e with
 | none=>cases h1
 | some s=>rw[Option.map_some]at *;rw[Option.some.inj h1,Option.some.inj h2];rfl
theorem Fd{α:Type}{e:Option α}{ex:PySem.W.Frag→Bool}{as:List Addr}{fa:List He.Fa}{fn:List He.DefD}{g:α→Addr→Option Obj}(h1:e.map (fun s=>fa.all fun f=>f.ok (He.frG (g s) as))=some true)(h2:e.map (fun s=>fn.all fun d=>d.ok (He.frG (g s) as))=some true)
  (h3:e.map (fun s=>fn.map fun d=>He.fnW (He.frG (g s) as) d.at_)=some (fn.map He.DefD.val)) (h4:e.map (fun s=>uY (He.frG (g s) as))=some true) (h5:e.map (fun s=>ex (He.frG (g s) as))=some true):e.map (fun s=>Di ex as fa fn (g s))=some (He.valD fn,true):=
 rO (rO (yL h1 h2) h3) (yL h4 h5)
end Vw
namespace K82
open PySem L2 PyProof.Rows Vw
def top(i:Nat):Stmt:=PySem.Challenge.pw_findcourt_k82_lines_looked_at.main.body.getD i (.Pass ⟨0,0,0,0⟩)
def Ij(s:Stmt):List Stmt:=match s with
 | .ClassDef _ _ _ b _ _ _ _ _ _ _=>b
 | _=>[]
def fu(i j:Nat):Stmt:=(Ij (top i)).getD j (.Pass ⟨0,0,0,0⟩)
def cU:List String:=["FindError","NoField","NoMake","NoBytes","NoDocument","NoStamp","NoPiece","NoPattern","NoLine","NoText"]
def fT:List (String×String):=[("AskReader","line"),("AskReader","at")]
def vC:He.DefD:=⟨("_law_pop",none),"_law_pop","_law_pop",defArgs (top 19),defBody (top 19),defScope (top 19),[],[]⟩
def tf:He.DefD:=⟨("_law_pool",none),"_law_pool","_law_pool",defArgs (top 20),defBody (top 20),defScope (top 20),[],[]⟩
def vF:He.DefD:=⟨("_law_mix",none),"_law_mix","_law_mix",defArgs (top 17),defBody (top 17),defScope (top 17),[],[]⟩
def sF:He.DefD:=⟨("_law_draws",none),"_law_draws","_law_draws",defArgs (top 18),defBody (top 18),defScope (top 18),[],[]⟩
def sr:He.DefD:=⟨("_law_field",none),"_law_field","_law_field",defArgs (top 21),defBody (top 21),defScope (top 21),[],[]⟩
def pO:He.DefD:=⟨("_law_pattern",none),"_law_pattern","_law_pattern",defArgs (top 22),defBody (top 22),defScope (top 22),[],[]⟩
def oK:He.DefD:=⟨("_law_question",none),"_law_question","_law_question",defArgs (top 23),defBody (top 23),defScope (top 23),[],[]⟩
def qx:He.DefD:=⟨("_law_spoilt",none),"_law_spoilt","_law_spoilt",defArgs (top 31),defBody (top 31),defScope (top 31),[],[]⟩
def sE:He.DefD:=⟨("_law_shown",none),"_law_shown","_law_shown",defArgs (top 24),defBody (top 24),defScope (top 24),[],[]⟩
def vE:He.DefD:=⟨("_law_put",none),"_law_put","_law_put",defArgs (top 28),defBody (top 28),defScope (top 28),[],[]⟩
def vG:He.DefD:=⟨("_law_run",none),"_law_run","_law_run",defArgs (top 25),defBody (top 25),defScope (top 25),[],[]⟩
def qy:He.DefD:=⟨("_law_listed",none),"_law_listed","_law_listed",defArgs (top 26),defBody (top 26),defScope (top 26),[],[]⟩
def sJ:He.DefD:=⟨("_law_asked",none),"_law_asked","_law_asked",defArgs (top 27),defBody (top 27),defScope (top 27),[],[]⟩
def tP:He.DefD:=⟨("_law_read",none),"_law_read","_law_read",defArgs (top 29),defBody (top 29),defScope (top 29),[],[]⟩
def tm:He.DefD:=⟨("_law_size",none),"_law_size","_law_size",defArgs (top 32),defBody (top 32),defScope (top 32),[],[]⟩
def kD:He.DefD:=⟨("AskReader",some "__init__"),"__init__","AskReader.__init__",defArgs (fu 14 0),defBody (fu 14 0),defScope (fu 14 0),[],[]⟩
def lK:He.DefD:=⟨("AskReader",some "begins"),"begins","AskReader.begins",defArgs (fu 14 2),defBody (fu 14 2),defScope (fu 14 2),[],[]⟩
def m6:He.DefD:=⟨("AskReader",some "sure"),"sure","AskReader.sure",defArgs (fu 14 1),defBody (fu 14 1),defScope (fu 14 1),[],[]⟩
def n3:He.DefD:=⟨("AskReader",some "eat"),"eat","AskReader.eat",defArgs (fu 14 3),defBody (fu 14 3),defScope (fu 14 3),[],[]⟩
def l7:He.DefD:=⟨("AskReader",some "row_of"),"row_of","AskReader.row_of",defArgs (fu 14 4),defBody (fu 14 4),defScope (fu 14 4),[],[]⟩
def nc:He.DefD:=⟨("AskReader",some "many"),"many","AskReader.many",defArgs (fu 14 7),defBody (fu 14 7),defScope (fu 14 7),[],[]⟩
def mE:He.DefD:=⟨("AskReader",some "words"),"words","AskReader.words",defArgs (fu 14 5),defBody (fu 14 5),defScope (fu 14 5),[],[]⟩
def mr:He.DefD:=⟨("AskReader",some "asked"),"asked","AskReader.asked",defArgs (fu 14 6),defBody (fu 14 6),defScope (fu 14 6),[],[]⟩
def kB:He.DefD:=⟨("AskReader",some "question"),"question","AskReader.question",defArgs (fu 14 8),defBody (fu 14 8),defScope (fu 14 8),[],[]⟩
def o7:He.DefD:=⟨("read_question",none),"read_question","read_question",defArgs (top 15),defBody (top 15),defScope (top 15),[],[]⟩
def uo:He.DefD:=⟨("_law_only",none),"_law_only","_law_only",defArgs (top 30),defBody (top 30),defScope (top 30),[],[]⟩
def EO:He.DefD:=⟨("law",none),"law","law",defArgs (top 33),defBody (top 33),defScope (top 33),[],[]⟩
def zE:List He.DefD:=[vC,tf,vF,sF,sr,pO,oK,qx,sE,vE,vG,qy,sJ,tP,tm,kD,lK,m6,n3,l7,nc,mE,mr,kB,o7,uo,EO]
def GD:List He.Fa:=[.glo "_law_pop",.glo "_law_pool",.glo "_law_mix",.glo "_law_draws",.glo "_law_field",.glo "_law_pattern",.glo "_law_question",.glo "_law_spoilt",.glo "_law_shown",.glo "_law_put",.glo "_law_run",.glo "_law_listed",.glo "_law_asked",.glo "_law_read",.glo "_law_size",.meth "AskReader" "begins",.meth "AskReader" "sure",.meth "AskReader" "eat",.meth "AskReader" "row_of",.meth "AskReader" "many",.meth "AskReader" "words",.meth "AskReader" "asked",.meth "AskReader" "question",.glo "read_question",.glo "_law_only",.glo "law",.free "ValueError",.free "enumerate",.free "int",.free "isinstance",.free "len",.free "max",.free "range",.free "str",.free "sum",.free "tuple",.str "FIGURES" "0123456789",.str "LETTERS" "abcdefghijklmnopqrstuvwxyz",.glo "AskReader",.glo "FindError",.glo "NoBytes",.glo "NoDocument",.glo "NoField",.glo "NoLine",.glo "NoMake",.glo "NoPattern",.glo "NoPiece",.glo "NoStamp",.glo "NoText",.exc "NoText",.cls "AskReader",.mkr "AskReader"]
def Nf(K:PySem.W.Frag):List Bool:=[J0 K cU "FindError",j5 K cU "FindError",j5 K cU "NoBytes",j5 K cU "NoDocument",j5 K cU "NoField",j5 K cU "NoLine",j5 K cU "NoMake",j5 K cU "NoPattern",j5 K cU "NoPiece",j5 K cU "NoStamp",j5 K cU "NoText",j5 K cU "ValueError",FJ K fT]
def DW(K:PySem.W.Frag):Bool:=(Nf K).all id
theorem qp{K:PySem.W.Frag}(h:DW K=true)(i:Nat){b:Bool}(e:(Nf K)[i]? =some b):b=true:=List.all_eq_true.mp h b (List.mem_of_getElem? e)
abbrev Rr:PySem.W.OpenRow:=PySem.W.OpenLaw.row PySem.Challenge.rw_findcourt_k82_lines_looked_at
def Dr:List Addr:=[3,250,257,238,243,264,271,276,330,283,309,290,297,302,316,335,163,177,170,184,191,210,198,203,217,231,323,342,220,24,75,87,44,135,63,123,111,99,147,249,256,237,242,263,270,275,329,282,308,289,296,301,315,334,162,176,169,183,190,209,197,202,216,230,322,341,219,23,74,86,43,134,62,122,110,98,146,244,245,246,247,248,251,252,253,254,255,232,233,234,235,236,239,240,241,258,259,260,261,262,265,266,267,268,269,272,273,274,324,325,326,327,328,277,278,279,280,281,303,304,305,306,307,284,285,286,287,288,291,292,293,294,295,298,299,300,310,311,312,313,314,331,332,333,157,158,159,160,161,171,172,173,174,175,164,165,166,167,168,178,179,180,181,182,185,186,187,188,189,204,205,206,207,208,192,193,194,195,196,199,200,201,211,212,213,214,215,225,226,227,228,229,317,318,319,320,321,336,337,338,339,340]
abbrev hk:PySem.W.Hook:=GG DW Dr GD zE
def Ld(s:PySem.W.SharedT):Ee:=Di DW Dr GD zE (HandSHeadRun.getT s)
theorem LD(s:PySem.W.SharedT):Ld s=hk.obs s.abs:=ID (HandSHeadRun.getT_eq s)
theorem AE{α β γ:Type}{e:Option α}{f:α→β}{g:α→γ}{b:β}{c:γ}(h:e.map (fun s=>(f s,g s))=some (b,c)):e.map f=some b∧e.map g=some c:=by
 cases e with
 | none=>cases h
 | some s=>exact⟨congrArg some (congrArg Prod.fst (Option.some.inj h)),congrArg some (congrArg Prod.snd (Option.some.inj h))⟩
abbrev vQ:Program:=PySem.W.view Rr.prog [33]
noncomputable abbrev eE(w:World)(os:OsState):=HandSHeadRun.endF (HandSHeadRun.stepQ (HandSHeadRun.denQ HandSHeadRun.tabQ) Rr.prog w) 6000 Rr.prog w os
noncomputable abbrev kF(s:PySem.W.SharedT):PySem.W.Frag:=He.frG (HandSHeadRun.getT s) Dr
theorem LJ(w:World)(os:OsState):(eE w os).map (fun s=>(HandSHeadRun.looksF Rr.prog (PySem.W.boot_heap w.params) s.abs,(HandSHeadRun.seenQ vQ ["FindError","NoField","NoMake","NoBytes","NoDocument","NoStamp","NoPiece","NoPattern","NoLine","NoText","LETTERS","FIGURES","AskReader","read_question","_law_mix","_law_draws","_law_pop","_law_pool","_law_field","_law_pattern","_law_question","_law_shown","_law_run","_law_listed","_law_asked","_law_put","_law_read","_law_only","_law_spoilt","_law_size"] (importedModules Rr.prog.main.body) (fun s=>PySem.W.xlAt vQ [] s&&PySem.W.recOk Rr.toRowW.records s) s.abs,(uY (kF s),DW (kF s)))))=some (true,(PySem.W.openGood vQ ["FindError","NoField","NoMake","NoBytes","NoDocument","NoStamp","NoPiece","NoPattern","NoLine","NoText","LETTERS","FIGURES","AskReader","read_question","_law_mix","_law_draws","_law_pop","_law_pool","_law_field","_law_pattern","_law_question","_law_shown","_law_run","_law_listed","_law_asked","_law_put","_law_read","_law_only","_law_spoilt","_law_size"],(true,true))):=by kernel_rfl
theorem L3(w:World)(os:OsState):(eE w os).map (fun s=>GD.all fun f=>f.ok (kF s))=some true:=by kernel_rfl
theorem KQ(w:World)(os:OsState):(eE w os).map (fun s=>(zE.take 13).all fun d=>d.ok (kF s))=some true:=by kernel_rfl
theorem Jh(w:World)(os:OsState):(eE w os).map (fun s=>(zE.drop 13).all fun d=>d.ok (kF s))=some true:=by kernel_rfl
theorem My(w:World)(os:OsState):(eE w os).map (fun s=>zE.all fun d=>d.ok (kF s))=some true:=by
 have h:=yL (KQ w os) (Jh w os)
 simp only[←List.all_append,List.take_append_drop]at h
 exact h
theorem Ll(w:World)(os:OsState):(eE w os).map (fun s=>zE.map fun d=>He.fnW (kF s) d.at_)=some (zE.map He.DefD.val):=by kernel_rfl
theorem run(w:World):HandSHeadRun.RunEq Rr (PySem.W.view Rr.prog [33]) hk Ld 6000 ["FindError","NoField","NoMake","NoBytes","NoDocument","NoStamp","NoPiece","NoPattern","NoLine","NoText","LETTERS","FIGURES","AskReader","read_question","_law_mix","_law_draws","_law_pop","_law_pool","_law_field","_law_pattern","_law_question","_law_shown","_law_run","_law_listed","_law_asked","_law_put","_law_read","_law_only","_law_spoilt","_law_size"] w:=by
 intro os
 obtain⟨a,b⟩:=AE (LJ w os)
 obtain⟨b,c⟩:=AE b
 obtain⟨c,d⟩:=AE c
 exact rO a (rO b (Fd (g:=HandSHeadRun.getT) (L3 w os) (My w os) (Ll w os) c d))
open PySem.W PySem.Calls in
theorem early(hc:WalkO (view (OpenLaw.row PySem.Challenge.rw_findcourt_k82_lines_looked_at).prog [33]) ["FindError","NoField","NoMake","NoBytes","NoDocument","NoStamp","NoPiece","NoPattern","NoLine","NoText","LETTERS","FIGURES","AskReader","read_question","_law_mix","_law_draws","_law_pop","_law_pool","_law_field","_law_pattern","_law_question","_law_shown","_law_run","_law_listed","_law_asked","_law_put","_law_read","_law_only","_law_spoilt","_law_size"] (XL (view (OpenLaw.row PySem.Challenge.rw_findcourt_k82_lines_looked_at).prog [33]) []) hk.says (OpenLaw.row PySem.Challenge.rw_findcourt_k82_lines_looked_at).toRowW (HandSHeadRun.topDef (OpenLaw.row PySem.Challenge.rw_findcourt_k82_lines_looked_at).prog 33) [] fun f vs=>PySem.call f vs):PySem.Challenge.rw_findcourt_k82_lines_looked_at.Holds:=by
 w_on;o_law
 refine HandSHeadRun.head_any (r:=OpenLaw.row PySem.Challenge.rw_findcourt_k82_lines_looked_at) (q:=view (OpenLaw.row PySem.Challenge.rw_findcourt_k82_lines_looked_at).prog [33]) (H:=hk) (ob:=Ld) (M:=6000) (loose:=["FindError","NoField","NoMake","NoBytes","NoDocument","NoStamp","NoPiece","NoPattern","NoLine","NoText","LETTERS","FIGURES","AskReader","read_question","_law_mix","_law_draws","_law_pop","_law_pool","_law_field","_law_pattern","_law_question","_law_shown","_law_run","_law_listed","_law_asked","_law_put","_law_read","_law_only","_law_spoilt","_law_size"]) (d:=HandSHeadRun.topDef (OpenLaw.row PySem.Challenge.rw_findcourt_k82_lines_looked_at).prog 33) (kwd:=[]) LD
  (by kernel_rfl) (fun s=>by kernel_rfl) run (by kernel_rfl) (by kernel_rfl) (by kernel_rfl) (by rfl) (by first | assumption | decide+kernel) (by decide+kernel) ⟨rfl,rfl,rfl,rfl,rfl,by decide+kernel⟩ ?hw hc
 case hw=>w_witness2
end K82
namespace L2
open PySem PySem.Spec PyProof.Rows
end L2
namespace Vw
open PySem L2 PyProof.Rows
end Vw
namespace Vw
open PySem L2 PyProof.Rows
end Vw
namespace L2
open PySem PySem.Spec PyProof.Rows
section
variable{P:Program}{w:World}{K:Type}[DecidableEq K]{knd:PySem.KeyKind P w K}{key:Value→K}
def F0(knd:PySem.KeyKind P w K)(key:Value→K)(h:Heap)(a:Addr)(S:K→Bool)(n:Nat):Prop:=
 ∃ o es ep t,h.get? a=some o∧o.ExactSet∧o.data=.set es ep t∧ElemsOf knd es.toList∧(es.toList.map fun e=>key e.2).Nodup∧(∀ k,S k=true↔k∈es.toList.map fun e=>key e.2)∧
  es.size<scanBound∧t.fits es.size=true∧es.size=n∧Ris t.place.toList∧(w.params.followText "set-order"=true∨t.led=true)
variable{A:Around}{E:Value→Shared→Prop}{s:Shared}{a:Addr}{S:K→Bool}{n:Nat}{h h':Heap}
theorem F0.at(R:F0 knd key h a S n)(k:∀ o,h.get? a=some o→h'.get? a=some o):F0 knd key h' a S n:=by
 obtain⟨o,es,ep,t,ho,r⟩:=R
 exact⟨o,es,ep,t,k o ho,r⟩
end
end L2
namespace L2
open PySem PySem.Spec PyProof.Rows
end L2
namespace Vw
open PySem L2 PyProof.Rows
end Vw
namespace L2
open PySem PySem.Spec PyProof.Rows
end L2
namespace L2
open PySem PySem.Spec PyProof.Rows
end L2
namespace Vw
open PySem L2 PyProof.Rows
end Vw
namespace L2
open PySem PySem.Spec PyProof.Rows
section
variable{X:Cx}
def eqs(k:Str)(v:Value):Bool:=match v with
 | .str n _=>n==k
 | _=>false
end
end L2
namespace Vw
open PySem L2 PyProof.Rows
end Vw
namespace Vw
open PySem L2 PyProof.Rows
end Vw
namespace L2
open PySem PySem.Spec PyProof.Rows
section
variable{P:Program}{w:World}{A:Around}{E:Value→Shared→Prop}{s:Shared}{κ:Type}[DecidableEq κ]{knd:KeyKind P w κ}
def Dl(knd:KeyKind P w κ)(L:List (Addr×List κ)):List (Int×Value):=L.map fun p=>(tupleKeyHash knd p.2,Value.ref p.1)
structure GSet (knd:KeyKind P w κ) (h:Heap) (a:Addr) (L:List (Addr×List κ)) (es:Array (Int×Value)) (ep:Nat) (t:SetTable):Prop where
 o:∃ o,h.get? a=some o∧o.ExactSet∧o.data=.set es ep t
 r:es.toList=Dl knd L
 b:TabOk t (L.map fun p=>tupleKeyHash knd p.2)
 n:(L.map (·.2)).Nodup
 k:∀ p∈L,IsTupleKey knd h p.2 p.1
 l:w.params.followText "set-order"=true∨t.led=true
 m:L.length*5<t.mask*3
 f:L.length<64
variable{a:Addr}{L:List (Addr×List κ)}{es:Array (Int×Value)}{ep:Nat}{t:SetTable}
theorem Eg(h:es.toList=Dl knd L):es.size=L.length:=by
 have q:=congrArg List.length h
 simpa [Dl]using q
theorem Kn(h1:TabOk t (L.map fun p=>tupleKeyHash knd p.2))(h2:es.size=L.length)(h3:es.size≤t.mask):t.fits es.size=true:=by
 have z:=h1.sz
 rw[List.length_map]at z
 have key:t.place.size=es.size∧t.place.size+t.dummies.size≤t.mask:=by
  rw[h1.dm]
  exact⟨z.trans h2.symm,by show t.place.size+0≤t.mask;omega⟩
 unfold SetTable.fits SetTable.fill
 simp only[Bool.and_eq_true,beq_iff_eq,decide_eq_true_eq]
 rw[h1.dm]at key ⊢
 exact⟨key.1,key.2⟩
theorem GSet.fits(R:GSet knd s.heap a L es ep t):t.fits es.size=true:=by
 have h2:=Eg R.r
 have h3:=R.m
 exact Kn R.b h2 (by omega)
end
end L2
namespace L2
open PySem PySem.Spec PyProof.Rows
end L2
namespace L2
open PySem PySem.Spec PyProof.Rows
end L2
namespace SrtO
open PySem PyProof.Rows Srt L2
section
variable{prog:Program}{w:World}{A:Around}{E:Value→Shared→Prop}{s:Shared}
def E9(h:Heap)(v:Value)(x:PySem.Str×PySem.Str):Prop:=∃ a o t u n,v=.ref a∧h.get? a=some o∧o.cls=.type "tuple"∧o.data=.seq #[.str x.1 t,.str x.2 u] n
theorem E9.keeps{h h':Heap}{v:Value}{x:PySem.Str×PySem.Str}(p:E9 h v x)(k:∀ b o,h.get? b=some o→o.cls=.type "tuple"→h'.get? b=some o):E9 h' v x:=by
 obtain⟨a,o,t,u,n,e,ho,hc,hd⟩:=p
 exact⟨a,o,t,u,n,e,k _ _ ho hc,hc,hd⟩
end
end SrtO
namespace L2
open PySem PySem.Spec PyProof.Rows
end L2
namespace Vw
open PySem L2 PyProof.Rows
end Vw
namespace Vw
open PySem L2 PyProof.Rows
end Vw
namespace Vw
open PySem L2 PyProof.Rows
end Vw
namespace Vw
open PySem L2 PyProof.Rows
def nN:D→V
 | .str t=>.str ⟨t.toArray⟩
 | .int i=>.int i
 | .bl b=>.bl b
 | _=>.non
def Ay:D→Bool
 | .str _=>true
 | .int _=>true
 | .bl _=>true
 | .non=>true
 | _=>false
theorem HX{cA:String→Addr}{Z:Hp}{d:D}(h:Ay d=true):ej cA Z d (nN d):=by
 cases d<;> first | rfl | cases h
def ot(l:List (K0×D))(s:State):Res RV:=if(l.map (·.1)).Nodup∧l.all (fun p=>Ay p.2)=true∧l.length≤15 then .ok (.new (.dic false (l.map fun p=>(p.1,.d p.2)))) s else .stuck
section
variable{C:Cst}{Z:Hp}{loc:List Addr}{X:Cx}{pos:Pos}{keys:List (Option Expr)}{values:List Expr}
theorem jl{x:String}{j:Nat}:PE X (.Constant (.str (Str.ofString x)) j pos) (tC (nN (.str (sS x)))):=by
 have e:nN (.str (sS x))=V.str (Str.ofString x):=by
  show V.str _=V.str _
  simp[sS]
 rw[e];exact pe_str
theorem jO{x:String}{j:Nat}:PE X (.Constant (.str (Str.ofString x)) j pos) (tC (kV (kz (.s (sS x))))):=jl
theorem putK_new{kvs:List (Key×V)}{k:Key}{v:V}(h:k∉kvs.map (·.1)):putK kvs k v=kvs++[(k,v)]:=by
 unfold putK
 rw[if_neg fun e=>?_]
 obtain⟨p,hp,e⟩:=List.any_eq_true.mp e
 exact h (List.mem_map.mpr ⟨p,hp,of_decide_eq_true e⟩)
theorem xH:∀ (more kvs:List (Key×V)),(kvs.map (·.1)++more.map (·.1)).Nodup→mergeK kvs more=kvs++more
 | [],kvs,_=>by rw[List.append_nil];rfl
 | p::r,kvs,h=>by
  have h1:p.1∉kvs.map (·.1):=fun hm=>by
   rw[List.nodup_append]at h
   exact h.2.2 p.1 hm p.1 (by simp) rfl
  show mergeK (putK kvs p.1 p.2) r=_
  rw[putK_new h1,xH r (kvs++[(p.1,p.2)]) (by simpa using h),List.append_assoc]
  rfl
def M0(l:List (K0×D)):List (TE×TE):=l.map fun p=>(tC (kV (kz p.1)),tC (nN p.2))
theorem Cs{sv:L2.St}{H:Hp}{Q:List (V×V)→Hp→Prop}:∀ {l:List (K0×D)},Q (l.map fun p=>(kV (kz p.1),nN p.2)) H→tPairs (M0 l) sv H Q
 | [],h=>h
 | p::l,h=>Cs (l:=l) (Q:=fun ps H=>Q ((kV (kz p.1),nN p.2)::ps) H) h
theorem BA{cA:String→Addr}:∀ {l:List (K0×D)},l.all (fun p=>Ay p.2)=true→fk cA Z loc (l.map fun p=>(p.1,Val.d p.2)) (l.map fun p=>(kz p.1,nN p.2))
 | [],_=>rfl
 | p::l,h=>by
  rw[List.all_cons,Bool.and_eq_true]at h
  exact⟨_,_,rfl,HX h.1,BA h.2⟩
theorem tN{l:List (K0×D)}(h:PPs X pos keys values (M0 l))(hall:keys.all (·.isSome)=true)(hl:keys.length=values.length)(h0:keys≠[])(h15:keys.length≤15):PE X (.Dict keys values pos) (aB C (ot l)):=cf (pe_disp h hall hl h0 h15) fun sv H Q ⟨Z,loc,s,r,q⟩=>by
 intro p hp
 refine Cs ?_
 unfold ot at q
 split at q
 ·rename_i hc
  obtain⟨c1,c2,c3⟩:=hc
  refine⟨upd_same,l.map (fun p=>(kz p.1,nN p.2)),by rw[List.map_map];rfl,by rw[List.length_map];exact c3,?_⟩
  have nd:((l.map (fun p=>(kz p.1,nN p.2))).map (·.1)).Nodup:=by
   rw[List.map_map]
   have:((fun x:Key×V=>x.1)∘fun p:K0×D=>(kz p.1,nN p.2))=kz∘fun p:K0×D=>p.1:=rfl
   rw[this,←List.map_map]
   exact List.Pairwise.map _ (fun a b h e=>h (uq e)) c1
  rw[xH _ [] (by simpa using nd),List.nil_append]
  have hu:upd (upd H p (.dK [])) p (.dK (l.map fun p=>(kz p.1,nN p.2)))=upd H p (.dK (l.map fun p=>(kz p.1,nN p.2))):=by
   funext b
   by_cases hb:b=p
   ·subst hb;rw[upd_same,upd_same]
   ·rw[upd_ne hb,upd_ne hb,upd_ne hb]
  rw[hu]
  exact q.new r hp (by simp) ⟨_,upd_same,BA c2⟩
 ·exact q.elim
end
end Vw
namespace Vw
open PySem L2 PyProof.Rows
end Vw
namespace Vw
open PySem L2 PyProof.Rows
end Vw
namespace L2
open PySem PySem.Spec PyProof.Rows
end L2
namespace Vw
open PySem L2 PyProof.Rows
end Vw
namespace Vw
open PySem L2 PyProof.Rows
def NM(x:Str):Prop:=(x==("__debug__":Str))=false∧(x==("__classdict__":Str))=false
section
variable{C:Cst}{X:Cx}{e a b:Expr}{es:List Expr}{pos:Pos}{f fa fb:State→Res RV}{fr:List (State→Res RV)}
theorem va{i:Nat}{x:Str}(n:NM x)(hN:X.N[i]? =some x:=by exact rfl)(hv:X.env.scope.names.lookup x=some .local:=by exact rfl):PE X (.Name x pos) (aB C (ab i)):=v_var hN (.inl hv) n.1 n.2
theorem vb{i:Nat}{x:Str}(n:NM x)(hN:X.N[i]? =some x:=by exact rfl)(hv:X.env.scope.names.lookup x=some .cell:=by exact rfl):PE X (.Name x pos) (aB C (ab i)):=v_var hN (.inr (.inl hv)) n.1 n.2
theorem vi{i:Int}{j:Nat}:PE X (.Constant (.int i) j pos) (aB C (fD (.int i))):=qQ pe_int fun _=>rfl
theorem vt{i:Bool}{j:Nat}:PE X (.Constant (.bool i) j pos) (aB C (fD (.bl i))):=qQ pe_bl fun _=>rfl
theorem vn{j:Nat}:PE X (.Constant .none j pos) (aB C (fD .non)):=qQ pe_non fun _=>rfl
theorem vc(h:PE X e (aB C f))(hr:PA X es (gk C (aE fr)))(hs:notStar e=true:=by exact rfl):PA X (e::es) (gk C (aE (f::fr))):=I4 h hr hs
theorem tn{i:Nat}{x:Str}(hN:X.N.Nodup)(hi:X.N[i]? =some x:=by exact rfl)(hx:X.env.scope.names.lookup x=some .local:=by exact rfl):PG X (.Name x pos) (qN C (.nm i)):=Ms hN hi (.inl hx) (.inr hx)
theorem vg{i:Nat}{x:Str}{p:Pos}(hN:X.N.Nodup)(h:PE X e (aB C f))(hi:X.N[i]? =some x:=by exact rfl)(hx:X.env.scope.names.lookup x=some .local:=by exact rfl)(hc:ki e=true:=by exact rfl):PS X (.Assign [.Name x p] e pos) (fY C (aR i f)):=Gq hN hi (.inl hx) (.inr hx) h hc
theorem vx(hu:X.A.units+64<cLine)(ha:PE X a (aB C fa))(hb:PE X b (aB C fb))(hs:pj b=true:=by exact rfl):PE X (.Subscript a b pos) (aB C (ah fa fb bw)):=N2 hu ha hb hs
theorem jg{N P:List Str}{sc:Scope}(h1:sc.kind=.function:=by exact rfl)(h2:sc.isCoroutine=false:=by exact rfl)(h3:sc.isGenerator=false:=by exact rfl)(h4:N.Nodup:=by decide+kernel)(h5:N.take P.length=P:=by exact rfl)(h6:∀ x∈P,sc.names.lookup x=some .local∨sc.names.lookup x=some .cell:=by decide+kernel)(h7:∀ y∈sc.names,y.2≠ .free:=by decide+kernel):FnScope N P sc:=⟨h1,h2,h3,h4,h5,h6,h7⟩
end
end Vw
namespace Vw
open PySem L2 PyProof.Rows
end Vw
namespace Vw
open PySem L2 PyProof.Rows
section
variable{C:Cst}{Z Z' Zc Zd:Hp}{loc loc' l':List Addr}{s s':State}{sv sv':L2.St}{H H':Hp}
variable{X:Cx}{e a b c o:Expr}{es:List Expr}{p pos apos:Pos}{f fa fb fc fo fi fv:State→Res RV}
def sB(f:State→Res RV)(k:D→State→Res (List Val))(s:State):Res (List Val):=(ev f s).bind fun r s1=>match mz s1 r with
 | .val (.r n)=>(match s1.st[n]? with
  | some (.dic true l)=>(match toDK l with
   | some ds=>k (.dic ds) s1
   | none=>.stuck)
  | _=>.stuck)
 | _=>(nR r s1).bind k
end
end Vw
namespace Vw
open PySem L2 PyProof.Rows
end Vw
namespace Vw
open PySem L2 PyProof.Rows
end Vw
namespace Vw
open PySem L2 PyProof.Rows
end Vw
namespace Vw
open PySem L2 PyProof.Rows
def BC(t:List Nat):Option Int:=match PySem.intText? ⟨t.toArray⟩with
 | some n=>if t.length≤640 then some n else none
 | none=>none
def uU(rs:List RV)(s:State):Res RV:=
 match rs with
 | [x]=>match dv s x with
  | some (.str t)=>(match BC t with
   | some n=>bp (.int n) s
   | none=>.stuck)
  | _=>.stuck
 | _=>.stuck
section
variable{C:Cst}{Z Z' Zc:Hp}{loc loc' l':List Addr}{s s':State}{sv sv':L2.St}{H H':Hp}
theorem wy:vZ C uU (fun xs H Q=>∃ a n,xs=[.str a]∧PySem.intText? a=some n∧a.length≤640∧Q (.int n) H):=by
 intro Z loc s sv H rs vs Q r q h
 unfold uU at h
 split at h
 ·split at h
  ·rename_i t e
   obtain⟨v,rfl,rfl⟩:=GI r q e
   split at h
   ·rename_i n hn
    unfold BC at hn
    split at hn
    ·rename_i m hm
     split at hn
     ·rename_i hl
      cases hn
      exact⟨_,n,rfl,hm,by simpa [Str.length]using hl,h.bp r rfl⟩
     ·cases hn
    ·cases hn
   ·exact h.elim
  ·exact h.elim
 ·exact h.elim
end
end Vw
namespace Vw
open PySem L2 PyProof.Rows
end Vw
namespace Vw
open PySem L2 PyProof.Rows
end Vw
namespace Vw
open PySem L2 PyProof.Rows
end Vw
namespace Vw
open PySem L2 PyProof.Rows
end Vw
namespace Vw
open PySem L2 PyProof.Rows
end Vw
namespace Vw
open PySem L2 PyProof.Rows
end Vw
namespace Vw
open PySem L2 PyProof.Rows
def maxD(d:Int):List Int→Int
 | []=>d
 | n::ns=>rW (n::ns)
def uO(x z:RV)(s:State):Res RV:=
 match (lv s x).bind intsOf,dv s z with
 | some ns,some (.int d)=>bp (.int (maxD d ns)) s
 | _,_=>.stuck
def Gn(K:PySem.W.Frag):R2:=fun x y H Q=>∃ (a:Addr) (ns:List Int) (d:Int),x=V.ref a∧y=V.int d∧SqL K H a (ns.map V.int)∧(ns=[]→Q (.int d) H)∧∀ m,m∈ns→(∀ y,y∈ns→y≤m)→Q (.int m) H
theorem xl(h:Heap):∀ {vs:List Value} {ns:List Int},IntsAre vs ns→ReadsAll h vs (ns.map PyData.int) []
 | _,_,.nil=>.nil
 | _,_,.cons n t r=>by
  have:=ReadsAll.cons (Reads.int n t) (xl h r)
  exact this
theorem DL(ns:List Int):PySem.W.AlikeAll (ns.map PyData.int):=by
 refine⟨fun x hx y hy=>?_,fun x hx=>?_⟩
 ·obtain⟨a,_,rfl⟩:=List.mem_map.mp hx
  obtain⟨b,_,rfl⟩:=List.mem_map.mp hy
  rfl
 ·obtain⟨a,_,rfl⟩:=List.mem_map.mp hx
  intro z
  cases z
theorem xZ:∀ ns:List Int,PyData.depthAll (ns.map PyData.int)=0
 | []=>rfl
 | n::ns=>by
  have:=xZ ns
  simp[PyData.depthAll,PyData.depth,this]
section
variable{C:Cst}{X:Cx}{e o:Expr}{p pos kpos:Pos}{fa fb:State→Res RV}
theorem Hs(hc:X.calm=true)(hu:X.A.units+64<cLine):CallRK X (.builtin "max") [Str.ofString "default"] (fun xs zs H Q=>∃ x y,xs=[x]∧zs=[y]∧Gn X.K x y H Q):=by
 intro pins s σ H xs zs us ws Q I r rz h
 obtain⟨x,y,rfl,rfl,a,ns,d,rfl,rfl,hs,q0,q⟩:=h
 obtain⟨its,rv,hl,_⟩:=I.list hs
 rw[Vals.ref1 r]
 have hi:=rv.ints
 obtain⟨w1,rfl,e1⟩:=vals1 rz
 obtain⟨t,rfl⟩:∃ t,w1=Value.int d t:=e1
 have hx:X.A.handled=none:=I.ok.hd hc
 show wpAny _ _ (call (.builtin "max") [.ref a] [(Str.ofString "default",.int d t)]) _ _ _
 refine PySem.W.max_list_default hx hl.isList (by rw[List.toList_toArray];exact xl s.heap hi) (DL ns) (by rw[xZ];omega) (fun e h' tk hk=>?_) fun z zs i v h' tk bs e _ hr hk=>?_
 ·exact⟨.int d,H,I.kept hk,⟨t,rfl⟩,q0 (List.map_eq_nil_iff.mp e)⟩
 ·cases ns with
  | nil=>cases e
  | cons n ns=>
   rw[List.map_cons]at e
   injection e with e1 e2
   subst e1 e2
   rw[PySem.W.maxD_ints]at hr
   cases hr with
   | int i t2=>exact⟨.int _,H,I.kept hk,⟨t2,rfl⟩,q _ (foldl_max ns n).2 (foldl_max ns n).1⟩
theorem Ft:xg C uO (Gn X.K):=by
 intro Z loc s sv H x y u v Q r hx hy h
 unfold uO at h
 split at h
 ·rename_i ns d e1 e2
  obtain⟨a,rfl,h1⟩:=r.ints X.K hx e1
  have e3:=r.dv hy e2
  cases e3
  exact⟨a,ns,d,rfl,rfl,h1,fun e=>by subst e;exact h.bp r rfl,fun m hm hm'=>by
   cases ns with
   | nil=>cases hm
   | cons n ns=>exact H8 hm hm'▸h.bp r rfl⟩
 ·exact h.elim
theorem Jd(hc:X.calm=true)(hu:X.A.units+64<cLine){x:Str}(hg:Gl X x)(hm:X.mg x=none)(hv:bootBuiltins x=some (.builtin "max"))(ha:PE X e (aB C fa))(hb:PE X o (aB C fb))(hs:notStar e=true)(hn:x≠"__name__")(hdb:(x==("__debug__":Str))=false):
  PE X (.Call (.Name x p) [e] [⟨some (Str.ofString "default"),o,kpos⟩] pos) (aB C (ah fa fb uO)):=
 cf (pe_callBK (Hs hc hu) hg hm hv (pa_cons ha pa_nil (b5 hs)) (pk_cons hb pk_nil) hn hdb (by rw[b5 hs];rfl) (i5 (by simp[hs])) rfl rfl rfl) fun sv H Q h=>by
  have h1:=xr (Ft (X:=X)) h
  exact h1.imp fun v H1 h2=>h2.imp fun w H2 h3=>⟨v,w,rfl,rfl,h3⟩
end
end Vw
namespace K82
open PySem L2 PyProof.Rows Vw
abbrev jm(K:PySem.W.Frag)(x q:Str)(st:Stmt)(f:Addr)(fd:FuncData):Prop:=FunD K x q (defArgs st) (defBody st) (defScope st) [] [] f fd
def o4:=cc (aW (ah (ab 0) (cN []) (aG .eq))) (ao [(bq (fD (.int 0)))]) (ao [])
def o6:=bq (nU "list" (ab 0) (aE []) yH jf)
def oz:=ao [o4,o6]
def cz:Fn:=gm 1 oz
def zX:=aR 1 (bF 1 (aE [(ab 0)]) cz)
def zR:=aR 2 (cJ (cJ (fD (.str (sS "abc1b2acb"))) (.ex (ah (ab 1) (fD (.int 7)) (binop .mod))) .no) .no (.ex (ah (ah (ab 1) (fD (.int 7)) (binop .fdiv)) (fD (.int 3)) (binop .mod))))
def zS:=bq (ah (cN [(ah (ab 2) (fD (.str (sS "a"))) (binop .add)),(ah (ab 2) (fD (.str (sS "b"))) (binop .add)),(ah (ab 2) (fD (.str (sS "ab"))) (binop .add)),(ah (fD (.str (sS "a"))) (ab 2) (binop .add)),(fD (.str (sS "c0")))]) (cN [(ah (ab 2) (ah (fD (.str (sS "abc"))) (ah (cN [(fD (.int 1)),(fD (.int 2)),(fD (.int 3)),(fD (.int 12))]) (ah (ah (ab 1) (fD (.int 21)) (binop .fdiv)) (fD (.int 4)) (binop .mod)) bw) (binop .mul)) (binop .add))]) (binop .add))
def vv:=ao [zX,zR,zS]
def jQ:Fn:=gm 3 vv
def A7:=aR 2 (ah (ah (ah (ah (ah (ab 0) (fD (.int 2147483647)) (binop .mod)) (ah (ah (ab 1) (ab 1) (binop .mul)) (fD (.int 7919)) (binop .mul)) (binop .add)) (fD (.int 104729)) (binop .add)) (fD (.int 48271)) (binop .mul)) (fD (.int 2147483647)) (binop .mod))
def AF:=bq (ah (ah (ah (ab 2) (ab 2) (binop .mul)) (ah (fD (.int 69621)) (ab 1) (binop .mul)) (binop .add)) (fD (.int 2147483629)) (binop .mod))
def xv:=ao [A7,AF]
def lV:Fn:=gm 3 xv
def mO:=aR 3 (ah (cJ (ab 0) .no (.ex (fD (.int 63)))) (cN [(ab 1)]) (binop .add))
def mc:=ah (ab 9) (fD (.int 100000)) (binop .fdiv)
def mH:=aR 4 (lS [9] (.nm 9) (sD (ab 3) itemsOf) kS mc)
def mM:=aR 5 (cN [])
def mm:=ao [(aR 7 (ah (ab 6) (dW (aE [(ab 3)]) gF) (binop .mod))),(aR 8 (bF 2 (aE [(ah (ab 3) (ab 7) bw),(ab 6)]) lV)),(aR 8 (ah (ah (ah (ab 8) (ab 8) (binop .mul)) (ah (fD (.int 7)) (ab 6) (binop .mul)) (binop .add)) (fD (.int 2147483587)) (binop .mod))),(cc (iL [(aW (ah (ah (ab 3) (ab 7) bw) (ah (fD (.int 10)) (fD (.int 18)) (binop .pow)) (aG .ge))),(aW (ah (ah (ab 4) (ab 7) bw) (fD (.int 0)) (aG .gt)))]) (ao [(aR 8 (ah (ah (ab 4) (ab 7) bw) (fD (.int 2147483587)) (binop .mod))),(C4 (ab 4) (ab 7) (ah (ah (ab 4) (ab 7) bw) (fD (.int 2147483587)) (binop .fdiv)))]) (ao [])),(cV (nU "list" (ab 5) (aE [(ab 8)]) bAppend jf))]
def mP:=oW (.nm 6) (kX (aE [(ah (ab 1) (ab 2) (binop .add))]) mW) mm
def mF:=bq (cJ (ab 5) (.ex (ab 1)) .no)
def lI:=ao [mO,mH,mM,mP,mF]
def cM:Fn:=gm 10 lI
def yn:=bq (ah (cN [(fD (.str (sS "title"))),(fD (.str (sS "body"))),(fD (.str (sS "h"))),(fD (.str (sS "*"))),(fD (.str (sS "*"))),(fD (.str (sS "zz")))]) (ah (bF 1 (aE [(ab 0)]) cz) (fD (.int 6)) (binop .mod)) bw)
def tO:=ao [yn]
def j0:Fn:=gm 1 tO
def wd:=aR 2 (bF 1 (aE [(ab 0)]) cz)
def vY:=aR 3 (ah (ah (ab 1) (cN [(fD (.str (sS "zz")))]) (binop .add)) (ah (ab 2) (ah (dW (aE [(ab 1)]) gF) (fD (.int 1)) (binop .add)) (binop .mod)) bw)
def wD:=aR 4 (ah (ah (ab 2) (fD (.int 16)) (binop .fdiv)) (dW (aE [(ab 3)]) gF) (binop .mod))
def wa:=aR 5 (cN [(ah (cJ (ab 3) .no (.ex (ab 4))) (fD (.str (sS "*"))) (binop .add)),(ah (fD (.str (sS "*"))) (cJ (ab 3) (.ex (ab 4)) .no) (binop .add)),(ah (ah (cJ (ab 3) .no (.ex (ab 4))) (fD (.str (sS "?"))) (binop .add)) (cJ (ab 3) (.ex (ah (ab 4) (fD (.int 1)) (binop .add))) .no) (binop .add)),(ab 3),(fD (.str (sS "*"))),(ah (fD (.str (sS "?"))) (ah (fD (.int 1)) (ab 4) (binop .add)) (binop .mul))])
def wL:=bq (ah (ah (ab 5) (cN [(ah (ah (cJ (ab 3) .no (.ex (ab 4))) (fD (.str (sS "*"))) (binop .add)) (cJ (ab 3) (.ex (ah (ab 4) (fD (.int 1)) (binop .add))) .no) (binop .add)),(ah (ah (fD (.str (sS "*"))) (ah (ab 3) (ab 4) bw) (binop .add)) (fD (.str (sS "*"))) (binop .add))]) (binop .add)) (ah (ah (ab 2) (fD (.int 256)) (binop .fdiv)) (fD (.int 8)) (binop .mod)) bw)
def qT:=ao [wd,vY,wD,wa,wL]
def jq:Fn:=gm 6 qT
def u6(rec:Fn):=aR 3 (bF 1 (aE [(ab 0)]) cz)
def vu(rec:Fn):=aR 4 (ah (ab 3) (fD (.int 9)) (binop .mod))
def vp(rec:Fn):=cc (aW (ah (ab 2) (fD (.int 0)) (aG .eq))) (ao [(aR 4 (ah (ab 4) (fD (.int 5)) (binop .mod)))]) (ao [])
def u1(rec:Fn):=cc (aW (ah (ab 4) (fD (.int 5)) (aG .lt))) (ao [(aR 6 (bF 1 (aE [(ab 0)]) j0))]) (ao [])
def vf(rec:Fn):=cc (aW (ah (ab 4) (fD (.int 0)) (aG .eq))) (ao [(bq (dz [(fD (.str (sS "word"))),(ab 6),(ah (ah (ab 1) (cN [(fD (.str (sS "zz")))]) (binop .add)) (ah (ah (ab 3) (fD (.int 9)) (binop .fdiv)) (ah (dW (aE [(ab 1)]) gF) (fD (.int 1)) (binop .add)) (binop .mod)) bw)]))]) (ao [])
def vk(rec:Fn):=cc (aW (ah (ab 4) (fD (.int 1)) (aG .eq))) (ao [(bq (dz [(fD (.str (sS "like"))),(ab 6),(bF 2 (aE [(ab 0),(ab 1)]) jq)]))]) (ao [])
def uh(rec:Fn):=ah (ab 1) (ah (bF 1 (aE [(ab 0)]) cz) (ah (cN [(fD (.int 2)),(dW (aE [(ab 1)]) gF)]) (ah (ah (ab 3) (fD (.int 9)) (binop .fdiv)) (fD (.int 2)) (binop .mod)) bw) (binop .mod)) bw
def vj(rec:Fn):=cc (aW (ah (ab 4) (fD (.int 5)) (aG .lt))) (ao [(aR 7 (ah (fD (.int 1)) (ah (ah (ab 3) (fD (.int 18)) (binop .fdiv)) (ah (cN [(fD (.int 4)),(fD (.int 6))]) (ah (ah (ab 3) (fD (.int 2000)) (binop .fdiv)) (fD (.int 2)) (binop .mod)) bw) (binop .mod)) (binop .add))),(aR 8 (lS [9] (.nm 9) (kX (aE [(ab 7)]) mW) kS (uh rec))),(cc (aW (ah (ab 4) (fD (.int 2)) (aG .eq))) (ao [(bq (dz [(fD (.str (sS "row"))),(ab 6),(ab 8)]))]) (ao [])),(bq (dz [(ah (cN [(fD (.str (sS "near"))),(fD (.str (sS "chain")))]) (ah (ab 4) (fD (.int 3)) (binop .sub)) bw),(ab 6),(ah (fD (.int 1)) (ah (ah (ab 3) (fD (.int 72)) (binop .fdiv)) (ah (cN [(fD (.int 9)),(fD (.int 20))]) (ah (ah (ab 3) (fD (.int 4000)) (binop .fdiv)) (fD (.int 2)) (binop .mod)) bw) (binop .mod)) (binop .add)),(ab 8)]))]) (ao [])
def vh(rec:Fn):=cc (aW (ah (ab 4) (fD (.int 5)) (aG .eq))) (ao [(bq (dz [(fD (.str (sS "not"))),(bF 3 (aE [(ab 0),(ab 1),(ah (ab 2) (fD (.int 1)) (binop .sub))]) rec)]))]) (ao [])
def ue(rec:Fn):=bF 3 (aE [(ab 0),(ab 1),(ah (ab 2) (fD (.int 1)) (binop .sub))]) rec
def vm(rec:Fn):=aR 5 (lS [9] (.nm 9) (kX (aE [(ah (ah (ab 3) (fD (.int 9)) (binop .fdiv)) (ah (cN [(fD (.int 4)),(fD (.int 4)),(fD (.int 4)),(fD (.int 3))]) (ab 2) bw) (binop .mod))]) mW) kS (ue rec))
def ve(rec:Fn):=bq (dz [(ah (cN [(fD (.str (sS "both"))),(fD (.str (sS "one")))]) (ah (ab 4) (fD (.int 2)) (binop .mod)) bw),(ab 5)])
def pP(rec:Fn):=ao [(u6 rec),(vu rec),(vp rec),(u1 rec),(vf rec),(vk rec),(vj rec),(vh rec),(vm rec),(ve rec)]
def dk:Nat→Fn
 | 0=>fun _ _=>.stuck
 | k+1=>gm 10 (pP (dk k))
def xS:=aR 2 (fD (.str (sS "~:!&|()<>[]\"*? abz059X")))
def vW:=ao [(aR 4 (bF 1 (aE [(ab 1)]) cz)),(aR 5 (ah (ab 4) (ah (dW (aE [(ab 0)]) gF) (fD (.int 1)) (binop .add)) (binop .mod))),(aR 6 (ah (ab 2) (ah (ah (ab 4) (fD (.int 400)) (binop .fdiv)) (dW (aE [(ab 2)]) gF) (binop .mod)) bw)),(aR 7 (ah (ah (ab 4) (fD (.int 10000)) (binop .fdiv)) (fD (.int 4)) (binop .mod))),(cc (aW (ah (ab 7) (fD (.int 0)) (aG .eq))) (ao [(aR 0 (ah (cJ (ab 0) .no (.ex (ab 5))) (cJ (ab 0) (.ex (ah (ab 5) (fD (.int 1)) (binop .add))) .no) (binop .add)))]) (ao [])),(cc (aW (ah (ab 7) (fD (.int 1)) (aG .eq))) (ao [(aR 0 (ah (ah (cJ (ab 0) .no (.ex (ab 5))) (ab 6) (binop .add)) (cJ (ab 0) (.ex (ab 5)) .no) (binop .add)))]) (ao [])),(cc (aW (ah (ab 7) (fD (.int 2)) (aG .eq))) (ao [(aR 0 (ah (ah (cJ (ab 0) .no (.ex (ab 5))) (ab 6) (binop .add)) (cJ (ab 0) (.ex (ah (ab 5) (fD (.int 1)) (binop .add))) .no) (binop .add)))]) (ao [])),(cc (aW (ah (ab 7) (fD (.int 3)) (aG .eq))) (ao [(aR 8 (cJ (ab 0) (.ex (ab 5)) (.ex (ah (ah (ab 5) (fD (.int 1)) (binop .add)) (ah (ah (ab 4) (fD (.int 40000)) (binop .fdiv)) (fD (.int 9)) (binop .mod)) (binop .add))))),(aR 0 (ah (ah (cJ (ab 0) .no (.ex (ab 5))) (ab 8) (binop .add)) (cJ (ab 0) (.ex (ab 5)) .no) (binop .add)))]) (ao []))]
def wQ:=oW (.nm 3) (kX (aE [(ah (bF 1 (aE [(ab 1)]) cz) (fD (.int 4)) (binop .mod))]) mW) vW
def xi:=bq (cJ (ab 0) .no (.ex (fD (.int 400))))
def sP:=ao [xS,wQ,xi]
def iQ:Fn:=gm 9 sP
def yd(rec:Fn):=cc (aW (ah (ah (ab 0) (fD (.int 0)) bw) (fD (.str (sS "not"))) (aG .eq))) (ao [(bq (ah (fD (.str (sS "!"))) (bF 1 (aE [(ah (ab 0) (fD (.int 1)) bw)]) rec) (binop .add)))]) (ao [])
def xQ(rec:Fn):=ao [(cc (aW (ah (ab 6) (fD (.int 0)) (aG .gt))) (ao [(aR 1 (ah (ah (ah (ab 1) (fD (.str (sS " "))) (binop .add)) (ab 5) (binop .add)) (fD (.str (sS " "))) (binop .add)))]) (ao [])),(aR 1 (ah (ab 1) (bF 1 (aE [(ab 7)]) rec) (binop .add)))]
def yi(rec:Fn):=cc (jy [(aW (ah (ah (ab 0) (fD (.int 0)) bw) (fD (.str (sS "both"))) (aG .eq))),(aW (ah (ah (ab 0) (fD (.int 0)) bw) (fD (.str (sS "one"))) (aG .eq)))]) (ao [(aR 5 (ah (cN [(fD (.str (sS "|"))),(fD (.str (sS "&")))]) (dW (aE [(ah (ah (ab 0) (fD (.int 0)) bw) (fD (.str (sS "both"))) (aG .eq))]) ur) bw)),(aR 1 (fD (.str (sS "(")))),(cc (aW (ah (dW (aE [(ah (ab 0) (fD (.int 1)) bw)]) gF) (fD (.int 2)) (aG .lt))) (ao [(aR 1 (ah (ah (ab 1) (ab 5) (binop .add)) (ah (fD (.str (sS " "))) (dW (aE [(ah (ab 0) (fD (.int 1)) bw)]) gF) (binop .mul)) (binop .add)))]) (ao [])),(oW (.tp [(.nm 6),(.nm 7)]) (sD (ah (ab 0) (fD (.int 1)) bw) o8) (xQ rec)),(bq (ah (ab 1) (fD (.str (sS ")"))) (binop .add)))]) (ao [])
def y6(rec:Fn):=aR 1 (ah (ah (ab 0) (fD (.int 1)) bw) (fD (.str (sS ":"))) (binop .add))
def y5(rec:Fn):=cc (aW (ah (ah (ab 0) (fD (.int 0)) bw) (fD (.str (sS "word"))) (aG .eq))) (ao [(bq (ah (ab 1) (ah (ab 0) (fD (.int 2)) bw) (binop .add)))]) (ao [])
def yF(rec:Fn):=cc (aW (ah (ah (ab 0) (fD (.int 0)) bw) (fD (.str (sS "like"))) (aG .eq))) (ao [(bq (ah (ah (ab 1) (ah (fD (.str (sS "~"))) (dW (aE [(gU [(ah (fD (.str (sS "?"))) (ah (ab 0) (fD (.int 2)) bw) (aG .notin)),(ah (fD (.str (sS "*"))) (ah (ab 0) (fD (.int 2)) bw) (aG .notin))])]) ur) (binop .mul)) (binop .add)) (ah (ab 0) (fD (.int 2)) bw) (binop .add)))]) (ao [])
def zb(rec:Fn):=aR 2 (fD (.str (sS "")))
def xp(rec:Fn):=ao [(aR 2 (ah (ah (ab 2) (fD (.str (sS " "))) (binop .add)) (ab 3) (binop .add)))]
def yp(rec:Fn):=oW (.nm 3) (sD (ah (ab 0) (AV (fD (.int 1))) bw) itemsOf) (xp rec)
def yc(rec:Fn):=cc (aW (ah (ah (ab 0) (fD (.int 0)) bw) (fD (.str (sS "row"))) (aG .eq))) (ao [(bq (ah (ah (ah (ab 1) (fD (.str (sS "\""))) (binop .add)) (cJ (ab 2) (.ex (fD (.int 1))) .no) (binop .add)) (fD (.str (sS "\""))) (binop .add)))]) (ao [])
def yW(rec:Fn):=aR 4 (ah (cN [(fD (.str (sS "[]"))),(fD (.str (sS "<>")))]) (dW (aE [(ah (ah (ab 0) (fD (.int 0)) bw) (fD (.str (sS "near"))) (aG .eq))]) ur) bw)
def yz(rec:Fn):=bq (ah (ah (ah (ah (ab 1) (dW (aE [(ah (ab 0) (fD (.int 2)) bw)]) uz) (binop .add)) (ah (ab 4) (fD (.int 0)) bw) (binop .add)) (cJ (ab 2) (.ex (fD (.int 1))) .no) (binop .add)) (ah (ab 4) (fD (.int 1)) bw) (binop .add))
def tZ(rec:Fn):=ao [(yd rec),(yi rec),(y6 rec),(y5 rec),(yF rec),(zb rec),(yp rec),(yc rec),(yW rec),(yz rec)]
def fM:Nat→Fn
 | 0=>fun _ _=>.stuck
 | k+1=>gm 8 (tZ (fM k))
def AI(rec:Fn):=aR 1 (cJ (ab 0) .no (.ex (fD (.int 1))))
def By(rec:Fn):=aR 2 (cN [])
def AD(rec:Fn):=cc (iL [(aW (ah (ab 1) (cN [(fD (.str (sS "&"))),(fD (.str (sS "|")))]) (aG .isin))),(aW (ah (cJ (ab 0) (.ex (fD (.int 1))) (.ex (fD (.int 2)))) (fD (.str (sS ")"))) (aG .eq)))]) (ao [(bq (dz [(dz [(ah (ot [(.s (sS "&"),.str (sS "both")),(.s (sS "|"),.str (sS "one"))]) (ab 1) bw),(cN [])]),(cJ (ab 0) (.ex (fD (.int 2))) .no)]))]) (ao [])
def Ba(rec:Fn):=cc (aW (ah (ab 1) (cN [(fD (.str (sS "&"))),(fD (.str (sS "|")))]) (aG .isin))) (ao [(aR 3 (fD .non)),(cc (aW (ah (cJ (ab 0) (.ex (fD (.int 1))) (.ex (fD (.int 2)))) (fD (.str (sS " "))) (aG .eq))) (ao [(aR 3 (bF 1 (aE [(cJ (ab 0) (.ex (fD (.int 2))) .no)]) rec))]) (ao [])),(cc (jy [(aW (ah (ab 3) (fD .non) (aG .is))),(aW (ah (cJ (ah (ab 3) (fD (.int 1)) bw) .no (.ex (fD (.int 1)))) (fD (.str (sS ")"))) (aG .ne)))]) (ao [(bq (fD .non))]) (ao [])),(bq (dz [(dz [(ah (ot [(.s (sS "&"),.str (sS "both")),(.s (sS "|"),.str (sS "one"))]) (ab 1) bw),(cN [(ah (ab 3) (fD (.int 0)) bw)])]),(cJ (ah (ab 3) (fD (.int 1)) bw) (.ex (fD (.int 1))) .no)]))]) (ao [])
def Bg(rec:Fn):=aR 1 (fD (.str (sS "")))
def zV(rec:Fn):=ao [(aR 3 (bF 1 (aE [(ab 0)]) rec)),(cc (aW (ah (ab 3) (fD .non) (aG .is))) (ao [(bq (fD .non))]) (ao [])),(cV (nU "list" (ab 2) (aE [(ah (ab 3) (fD (.int 0)) bw)]) bAppend jf)),(aR 0 (ah (ab 3) (fD (.int 1)) bw)),(cc (iL [(aW (ah (cJ (ab 0) .no (.ex (fD (.int 1)))) (fD (.str (sS ")"))) (aG .eq))),(aW (ah (dW (aE [(ab 2)]) gF) (fD (.int 1)) (aG .gt)))]) (ao [(bq (dz [(dz [(ah (ot [(.s (sS "&"),.str (sS "both")),(.s (sS "|"),.str (sS "one"))]) (ab 1) bw),(ab 2)]),(cJ (ab 0) (.ex (fD (.int 1))) .no)]))]) (ao [])),(cc (jy [(aW (ah (cJ (ab 0) .no (.ex (fD (.int 3)))) (cN [(fD (.str (sS " & "))),(fD (.str (sS " | ")))]) (aG .notin))),(aW (ah (ab 1) (cN [(fD (.str (sS ""))),(ah (ab 0) (fD (.int 1)) bw)]) (aG .notin)))]) (ao [(bq (fD .non))]) (ao [])),(aR 1 (ah (ab 0) (fD (.int 1)) bw)),(aR 0 (cJ (ab 0) (.ex (fD (.int 3))) .no))]
def B4(rec:Fn):=l9 dj (aW (fD (.bl true))) (zV rec)
def wU(rec:Fn):=ao [(AI rec),(By rec),(AD rec),(Ba rec),(Bg rec),(B4 rec)]
def lO(rec:Fn):Fn:=gm 4 (wU rec)
def AY:=aR 2 (fD (.int 0))
def Ab:=ao [(aR 2 (ah (ab 2) (fD (.int 1)) (binop .add)))]
def BG:=l9 dj (iL [(aW (ah (ab 2) (dW (aE [(ab 0)]) gF) (aG .lt))),(aW (ah (ah (ab 0) (ab 2) bw) (ab 1) (aG .isin)))]) Ab
def BW:=bq (ab 2)
def xn:=ao [AY,BG,BW]
def iq:Fn:=gm 3 xn
def xP:=aR 2 (cN [])
def wH:=ao [(aR 3 (bF 2 (aE [(ab 0),(fD (.str (sS "abcdefghijklmnopqrstuvwxyz0123456789")))]) iq)),(cc (jy [(aW (ah (ab 3) (fD (.int 0)) (aG .eq))),(aW (ah (ab 3) (fD (.int 40)) (aG .gt))),(aW (ah (ab 3) (dW (aE [(ab 0)]) gF) (aG .eq)))]) (ao [(bq (fD .non))]) (ao [])),(cV (nU "list" (ab 2) (aE [(cJ (ab 0) .no (.ex (ab 3)))]) bAppend jf)),(cc (aW (ah (ah (ab 0) (ab 3) bw) (ab 1) (aG .eq))) (ao [(cc (aW (ah (dW (aE [(ab 2)]) gF) (fD (.int 6)) (aG .gt))) (ao [(bq (fD .non))]) (ao [])),(bq (dz [(ab 2),(cJ (ab 0) (.ex (ah (ab 3) (fD (.int 1)) (binop .add))) .no)]))]) (ao [])),(cc (aW (ah (ah (ab 0) (ab 3) bw) (fD (.str (sS " "))) (aG .ne))) (ao [(bq (fD .non))]) (ao [])),(aR 0 (cJ (ab 0) (.ex (ah (ab 3) (fD (.int 1)) (binop .add))) .no))]
def xT:=l9 dj (aW (fD (.bl true))) wH
def sM:=ao [xP,xT]
def hV:Fn:=gm 4 sM
def yI:=cc (aW (ah (cJ (ab 1) .no (.ex (fD (.int 1)))) (fD (.str (sS "\""))) (aG .eq))) (ao [(aR 6 (bF 2 (aE [(cJ (ab 1) (.ex (fD (.int 1))) .no),(fD (.str (sS "\"")))]) hV)),(cc (aW (ah (ab 6) (fD .non) (aG .is))) (ao [(bq (fD .non))]) (ao [])),(bq (dz [(dz [(fD (.str (sS "row"))),(ab 0),(ah (ab 6) (fD (.int 0)) bw)]),(ah (ab 6) (fD (.int 1)) bw)]))]) (ao [])
def y4:=aR 2 (dW (aE [(ah (cJ (ab 1) .no (.ex (fD (.int 1)))) (fD (.str (sS "~"))) (aG .eq))]) ur)
def yr:=aR 3 (bF 2 (aE [(cJ (ab 1) (.ex (ab 2)) .no),(fD (.str (sS "abcdefghijklmnopqrstuvwxyz0123456789?*")))]) iq)
def yT:=aR 4 (cJ (ab 1) (.ex (ab 2)) (.ex (ah (ab 2) (ab 3) (binop .add))))
def x4:=aR 1 (cJ (ab 1) (.ex (ah (ab 2) (ab 3) (binop .add))) .no)
def yl:=cc (jy [(aW (ah (ab 3) (fD (.int 0)) (aG .eq))),(aW (ah (ab 3) (fD (.int 40)) (aG .gt)))]) (ao [(bq (fD .non))]) (ao [])
def yQ:=aR 5 (k9 [(ah (fD (.str (sS "?"))) (ab 4) (aG .isin)),(ah (fD (.str (sS "*"))) (ab 4) (aG .isin))])
def xW:=dW (aE [(ab 7)]) uz
def yC:=cc (iL [(aW (ah (cJ (ab 1) .no (.ex (fD (.int 1)))) (cN [(fD (.str (sS "<"))),(fD (.str (sS "[")))]) (aG .isin))),(aW (ah (ab 2) (fD (.int 0)) (aG .eq)))]) (ao [(aR 6 (bF 2 (aE [(cJ (ab 1) (.ex (fD (.int 1))) .no),(ah (ot [(.s (sS "<"),.str (sS ">")),(.s (sS "["),.str (sS "]"))]) (ah (ab 1) (fD (.int 0)) bw) bw)]) hV)),(cc (jy [(aW (ah (ab 6) (fD .non) (aG .is))),(aW (ah (ab 4) (lS [7] (.nm 7) (kX (aE [(fD (.int 1)),(fD (.int 21))]) uQ) kS xW) (aG .notin)))]) (ao [(bq (fD .non))]) (ao [])),(bq (dz [(dz [(ah (cN [(fD (.str (sS "chain"))),(fD (.str (sS "near")))]) (dW (aE [(ah (ah (ab 1) (fD (.int 0)) bw) (fD (.str (sS "<"))) (aG .eq))]) ur) bw),(ab 0),(dW (aE [(ab 4)]) uU),(ah (ab 6) (fD (.int 0)) bw)]),(ah (ab 6) (fD (.int 1)) bw)]))]) (ao [])
def ya:=cc (iL [(aW (ah (ab 2) (fD (.int 1)) (aG .eq))),(aW (ab 5))]) (ao [(bq (fD .non))]) (ao [])
def yA:=cc (jy [(aW (ah (ab 2) (fD (.int 1)) (aG .eq))),(aW (ab 5))]) (ao [(bq (dz [(dz [(fD (.str (sS "like"))),(ab 0),(ab 4)]),(ab 1)]))]) (ao [])
def wZ:=bq (dz [(dz [(fD (.str (sS "word"))),(ab 0),(ab 4)]),(ab 1)])
def tV:=ao [yI,y4,yr,yT,x4,yl,yQ,yC,ya,yA,wZ]
def ke:Fn:=gm 8 tV
def zK(rec:Fn):=cc (aW (ah (cJ (ab 0) .no (.ex (fD (.int 1)))) (fD (.str (sS "!"))) (aG .eq))) (ao [(aR 2 (bF 1 (aE [(cJ (ab 0) (.ex (fD (.int 1))) .no)]) rec)),(cc (aW (ah (ab 2) (fD .non) (aG .is))) (ao [(bq (fD .non))]) (ao [])),(bq (dz [(dz [(fD (.str (sS "not"))),(ah (ab 2) (fD (.int 0)) bw)]),(ah (ab 2) (fD (.int 1)) bw)]))]) (ao [])
def zN(rec:Fn):=cc (aW (ah (cJ (ab 0) .no (.ex (fD (.int 1)))) (fD (.str (sS "("))) (aG .eq))) (ao [(bq (bF 1 (aE [(cJ (ab 0) (.ex (fD (.int 1))) .no)]) (lO rec)))]) (ao [])
def zM(rec:Fn):=aR 1 (fD (.int 1))
def zO(rec:Fn):=cc (aW (ah (cJ (ab 0) .no (.ex (fD (.int 1)))) (fD (.str (sS "*"))) (aG .ne))) (ao [(aR 1 (bF 2 (aE [(ab 0),(fD (.str (sS "abcdefghijklmnopqrstuvwxyz")))]) iq))]) (ao [])
def zQ(rec:Fn):=cc (jy [(aW (ah (ab 1) (fD (.int 0)) (aG .eq))),(aW (ah (ab 1) (fD (.int 12)) (aG .gt))),(aW (ah (cJ (ab 0) (.ex (ab 1)) (.ex (ah (ab 1) (fD (.int 1)) (binop .add)))) (fD (.str (sS ":"))) (aG .ne)))]) (ao [(bq (fD .non))]) (ao [])
def zP(rec:Fn):=bq (bF 2 (aE [(cJ (ab 0) .no (.ex (ab 1))),(cJ (ab 0) (.ex (ah (ab 1) (fD (.int 1)) (binop .add))) .no)]) ke)
def vR(rec:Fn):=ao [(zK rec),(zN rec),(zM rec),(zO rec),(zQ rec),(zP rec)]
def fN:Nat→Fn
 | 0=>fun _ _=>.stuck
 | k+1=>gm 3 (vR (fN k))
def zc(rec:Fn):=bF 2 (aE [(ab 5),(ah (ab 1) (fD (.int 1)) (binop .add))]) rec
def yB(rec:Fn):=ah (ab 6) (fD (.int 1)) bw
def yx(rec:Fn):=ah (ab 6) (fD (.int 0)) bw
def zW(rec:Fn):=cc (aW (ah (ah (ab 0) (fD (.int 0)) bw) (cN [(fD (.str (sS "both"))),(fD (.str (sS "one")))]) (aG .isin))) (ao [(aR 2 (lS [5] (.nm 5) (sD (ah (ab 0) (fD (.int 1)) bw) itemsOf) kS (zc rec))),(aR 3 (ah (lS [6] (.nm 6) (sD (ab 2) itemsOf) kS (yB rec)) (ab 1) uO)),(bq (dz [(ah (fD (.int 1)) (dW (aE [(lS [6] (.nm 6) (sD (ab 2) itemsOf) kS (yx rec))]) DI) (binop .add)),(ab 3)]))]) (ao [])
def zY(rec:Fn):=cc (aW (ah (ah (ab 0) (fD (.int 0)) bw) (fD (.str (sS "not"))) (aG .eq))) (ao [(Ao (.tp [(.nm 4),(.nm 3)]) (bF 2 (aE [(ah (ab 0) (fD (.int 1)) bw),(ah (ab 1) (fD (.int 1)) (binop .add))]) rec)),(bq (dz [(ah (fD (.int 1)) (ab 4) (binop .add)),(ab 3)]))]) (ao [])
def zT(rec:Fn):=bq (dz [(fD (.int 1)),(ab 1)])
def vN(rec:Fn):=ao [(zW rec),(zY rec),(zT rec)]
def gW:Nat→Fn
 | 0=>fun _ _=>.stuck
 | k+1=>gm 7 (vN (gW k))
def pC:=Aw fT "line" (ab 0) (ab 1)
def pH:=Aw fT "at" (ab 0) (fD (.int 0))
def lr:=ao [pC,pH]
def jr:Fn:=gm 2 lr
def qY:=bq (ah (cJ (kY fT "line" (ab 0)) (.ex (kY fT "at" (ab 0))) (.ex (ah (kY fT "at" (ab 0)) (dW (aE [(ab 1)]) gF) (binop .add)))) (ab 1) (aG .eq))
def mD:=ao [qY]
def bo:Fn:=gm 2 mD
def sZ:=cc (si (aW (ab 1))) (ao [(tJ "NoText")]) (ao [])
def nZ:=ao [sZ]
def fy:Fn:=gm 2 nZ
def tK:=cV (bJ bK "AskReader" "sure" 2 (ab 0) (aE [(bJ ey "AskReader" "begins" 2 (ab 0) (aE [(ab 1)]) bo)]) fy)
def tq:=oq fT "at" .add (ab 0) (dW (aE [(ab 1)]) gF)
def oS:=ao [tK,tq]
def bt:Fn:=gm 2 oS
def qJ:=aR 3 (kY fT "at" (ab 0))
def qb:=ao [(oq fT "at" .add (ab 0) (fD (.int 1)))]
def qu:=l9 dj (iL [(aW (ah (kY fT "at" (ab 0)) (dW (aE [(kY fT "line" (ab 0))]) gF) (aG .lt))),(aW (ah (ah (kY fT "line" (ab 0)) (kY fT "at" (ab 0)) bw) (ab 1) (aG .isin)))]) qb
def qt:=cV (bJ bK "AskReader" "sure" 2 (ab 0) (aE [(D2 (fD (.int 0)) (ah (kY fT "at" (ab 0)) (ab 3) (binop .sub)) (ab 2) (aG .lt) (aG .le))]) fy)
def qC:=bq (cJ (kY fT "line" (ab 0)) (.ex (ab 3)) (.ex (kY fT "at" (ab 0))))
def mx:=ao [qJ,qu,qt,qC]
def cB:Fn:=gm 4 mx
def td(rec:Fn):=aR 1 (ot [(.s (sS "&"),.str (sS "both")),(.s (sS "|"),.str (sS "one"))])
def sV(rec:Fn):=cc (jy [(aW (bJ ey "AskReader" "begins" 2 (ab 0) (aE [(fD (.str (sS "&")))]) bo)),(aW (bJ ey "AskReader" "begins" 2 (ab 0) (aE [(fD (.str (sS "|")))]) bo))]) (ao [(aR 3 (bJ bK "AskReader" "row_of" 3 (ab 0) (aE [(fD (.str (sS "&|"))),(fD (.int 1))]) cB)),(cc (aW (bJ ey "AskReader" "begins" 2 (ab 0) (aE [(fD (.str (sS ")")))]) bo)) (ao [(cV (bJ bK "AskReader" "eat" 2 (ab 0) (aE [(fD (.str (sS ")")))]) bt)),(bq (dz [(ah (ab 1) (ab 3) bw),(cN [])]))]) (ao [])),(cV (bJ bK "AskReader" "eat" 2 (ab 0) (aE [(fD (.str (sS " ")))]) bt)),(aR 2 (cN [(bJ bK "AskReader" "question" 1 (ab 0) (aE []) rec)])),(cV (bJ bK "AskReader" "eat" 2 (ab 0) (aE [(fD (.str (sS ")")))]) bt)),(bq (dz [(ah (ab 1) (ab 3) bw),(ab 2)]))]) (ao [])
def sX(rec:Fn):=aR 2 (cN [(bJ bK "AskReader" "question" 1 (ab 0) (aE []) rec)])
def sU(rec:Fn):=cV (bJ bK "AskReader" "eat" 2 (ab 0) (aE [(fD (.str (sS " ")))]) bt)
def sT(rec:Fn):=aR 3 (bJ bK "AskReader" "row_of" 3 (ab 0) (aE [(fD (.str (sS "&|"))),(fD (.int 1))]) cB)
def sR(rec:Fn):=cV (bJ bK "AskReader" "eat" 2 (ab 0) (aE [(fD (.str (sS " ")))]) bt)
def sQ(rec:Fn):=cV (nU "list" (ab 2) (aE [(bJ bK "AskReader" "question" 1 (ab 0) (aE []) rec)]) bAppend jf)
def rn(rec:Fn):=ao [(cV (bJ bK "AskReader" "eat" 2 (ab 0) (aE [(ah (ah (fD (.str (sS " "))) (ab 3) (binop .add)) (fD (.str (sS " "))) (binop .add))]) bt)),(cV (nU "list" (ab 2) (aE [(bJ bK "AskReader" "question" 1 (ab 0) (aE []) rec)]) bAppend jf))]
def sW(rec:Fn):=l9 dj (si (aW (bJ ey "AskReader" "begins" 2 (ab 0) (aE [(fD (.str (sS ")")))]) bo))) (rn rec)
def tc(rec:Fn):=cV (bJ bK "AskReader" "eat" 2 (ab 0) (aE [(fD (.str (sS ")")))]) bt)
def sY(rec:Fn):=bq (dz [(ah (ab 1) (ab 3) bw),(ab 2)])
def nX(rec:Fn):=ao [(td rec),(sV rec),(sX rec),(sU rec),(sT rec),(sR rec),(sQ rec),(sW rec),(tc rec),(sY rec)]
def ky(rec:Fn):Fn:=gm 4 (nX rec)
def rG:=aR 2 (cN [(bJ bK "AskReader" "row_of" 3 (ab 0) (aE [(ah (fD (.str (sS "abcdefghijklmnopqrstuvwxyz"))) (fD (.str (sS "0123456789"))) (binop .add)),(fD (.int 40))]) cB)])
def qE:=ao [(cV (bJ bK "AskReader" "eat" 2 (ab 0) (aE [(fD (.str (sS " ")))]) bt)),(cV (nU "list" (ab 2) (aE [(bJ bK "AskReader" "row_of" 3 (ab 0) (aE [(ah (fD (.str (sS "abcdefghijklmnopqrstuvwxyz"))) (fD (.str (sS "0123456789"))) (binop .add)),(fD (.int 40))]) cB)]) bAppend jf))]
def rp:=l9 dj (si (aW (bJ ey "AskReader" "begins" 2 (ab 0) (aE [(ab 1)]) bo))) qE
def rM:=cV (bJ bK "AskReader" "eat" 2 (ab 0) (aE [(ab 1)]) bt)
def sh:=cV (bJ bK "AskReader" "sure" 2 (ab 0) (aE [(ah (dW (aE [(ab 2)]) gF) (fD (.int 6)) (aG .le))]) fy)
def rL:=bq (ab 2)
def m8:=ao [rG,rp,rM,sh,rL]
def gY:Fn:=gm 3 m8
def rA:=cc (aW (bJ ey "AskReader" "begins" 2 (ab 0) (aE [(fD (.str (sS "\"")))]) bo)) (ao [(cV (bJ bK "AskReader" "eat" 2 (ab 0) (aE [(fD (.str (sS "\"")))]) bt)),(bq (dz [(fD (.str (sS "row"))),(ab 1),(bJ bK "AskReader" "words" 2 (ab 0) (aE [(fD (.str (sS "\"")))]) gY)]))]) (ao [])
def rH:=cc (aW (bJ ey "AskReader" "begins" 2 (ab 0) (aE [(fD (.str (sS "~")))]) bo)) (ao [(cV (bJ bK "AskReader" "eat" 2 (ab 0) (aE [(fD (.str (sS "~")))]) bt)),(bq (dz [(fD (.str (sS "like"))),(ab 1),(bJ bK "AskReader" "row_of" 3 (ab 0) (aE [(ah (fD (.str (sS "abcdefghijklmnopqrstuvwxyz"))) (fD (.str (sS "0123456789"))) (binop .add)),(fD (.int 40))]) cB)]))]) (ao [])
def sk:=aR 2 (bJ bK "AskReader" "row_of" 3 (ab 0) (aE [(ah (ah (fD (.str (sS "abcdefghijklmnopqrstuvwxyz"))) (fD (.str (sS "0123456789"))) (binop .add)) (fD (.str (sS "?*"))) (binop .add)),(fD (.int 40))]) cB)
def qR:=dW (aE [(ab 3)]) uz
def rF:=cc (jy [(aW (bJ ey "AskReader" "begins" 2 (ab 0) (aE [(fD (.str (sS "<")))]) bo)),(aW (bJ ey "AskReader" "begins" 2 (ab 0) (aE [(fD (.str (sS "[")))]) bo))]) (ao [(cV (bJ bK "AskReader" "sure" 2 (ab 0) (aE [(ah (ab 2) (lS [3] (.nm 3) (kX (aE [(fD (.int 1)),(fD (.int 21))]) uQ) kS qR) (aG .isin))]) fy)),(cc (aW (bJ ey "AskReader" "begins" 2 (ab 0) (aE [(fD (.str (sS "<")))]) bo)) (ao [(cV (bJ bK "AskReader" "eat" 2 (ab 0) (aE [(fD (.str (sS "<")))]) bt)),(bq (dz [(fD (.str (sS "near"))),(ab 1),(dW (aE [(ab 2)]) uU),(bJ bK "AskReader" "words" 2 (ab 0) (aE [(fD (.str (sS ">")))]) gY)]))]) (ao [])),(cV (bJ bK "AskReader" "eat" 2 (ab 0) (aE [(fD (.str (sS "[")))]) bt)),(bq (dz [(fD (.str (sS "chain"))),(ab 1),(dW (aE [(ab 2)]) uU),(bJ bK "AskReader" "words" 2 (ab 0) (aE [(fD (.str (sS "]")))]) gY)]))]) (ao [])
def rP:=cc (jy [(aW (ah (fD (.str (sS "?"))) (ab 2) (aG .isin))),(aW (ah (fD (.str (sS "*"))) (ab 2) (aG .isin)))]) (ao [(bq (dz [(fD (.str (sS "like"))),(ab 1),(ab 2)]))]) (ao [])
def rT:=bq (dz [(fD (.str (sS "word"))),(ab 1),(ab 2)])
def m5:=ao [rA,rH,sk,rF,rP,rT]
def jZ:Fn:=gm 4 m5
def pF(rec:Fn):=cc (aW (bJ ey "AskReader" "begins" 2 (ab 0) (aE [(fD (.str (sS "!")))]) bo)) (ao [(cV (bJ bK "AskReader" "eat" 2 (ab 0) (aE [(fD (.str (sS "!")))]) bt)),(bq (dz [(fD (.str (sS "not"))),(bJ bK "AskReader" "question" 1 (ab 0) (aE []) rec)]))]) (ao [])
def pG(rec:Fn):=cc (aW (bJ ey "AskReader" "begins" 2 (ab 0) (aE [(fD (.str (sS "(")))]) bo)) (ao [(cV (bJ bK "AskReader" "eat" 2 (ab 0) (aE [(fD (.str (sS "(")))]) bt)),(bq (bJ bK "AskReader" "many" 1 (ab 0) (aE []) (ky rec)))]) (ao [])
def pK(rec:Fn):=cc (aW (bJ ey "AskReader" "begins" 2 (ab 0) (aE [(fD (.str (sS "*")))]) bo)) (ao [(cV (bJ bK "AskReader" "eat" 2 (ab 0) (aE [(fD (.str (sS "*")))]) bt)),(aR 1 (fD (.str (sS "*"))))]) (ao [(aR 1 (bJ bK "AskReader" "row_of" 3 (ab 0) (aE [(fD (.str (sS "abcdefghijklmnopqrstuvwxyz"))),(fD (.int 12))]) cB))])
def pJ(rec:Fn):=cV (bJ bK "AskReader" "eat" 2 (ab 0) (aE [(fD (.str (sS ":")))]) bt)
def pI(rec:Fn):=bq (bJ bK "AskReader" "asked" 2 (ab 0) (aE [(ab 1)]) jZ)
def lz(rec:Fn):=ao [(pF rec),(pG rec),(pK rec),(pJ rec),(pI rec)]
def eo:Nat→Fn
 | 0=>fun _ _=>.stuck
 | k+1=>gm 2 (lz (eo k))
def vd:=aR 1 (GB ey "AskReader" 2 (aE [(ab 0)]) jr)
def vo:=aR 2 (bJ bK "AskReader" "question" 1 (ab 1) (aE []) (eo 44))
def vq:=cV (bJ bK "AskReader" "sure" 2 (ab 1) (aE [(ah (kY fT "at" (ab 1)) (dW (aE [(ab 0)]) gF) (aG .eq))]) fy)
def vr:=bq (ab 2)
def pQ:=ao [vd,vo,vq,vr]
def dY:Fn:=gm 3 pQ
def Ac:=aR 1 (cN [(js cU "NoField" (ab 0)),(js cU "NoMake" (ab 0)),(js cU "NoBytes" (ab 0))])
def Aa:=aR 1 (ah (ab 1) (cN [(js cU "NoStamp" (ab 0)),(js cU "NoPiece" (ab 0)),(js cU "NoPattern" (ab 0))]) (binop .add))
def Af:=aR 1 (ah (ab 1) (cN [(js cU "NoLine" (ab 0)),(js cU "NoDocument" (ab 0))]) (binop .add))
def zZ:=bq (gU [(ah (fD (.bl true)) (ab 1) (aG .notin)),(js cU "NoText" (ab 0)),(js cU "FindError" (ab 0))])
def vP:=ao [Ac,Aa,Af,zZ]
def iy:Fn:=gm 2 vP
def IG:=GW 1 (aR 1 (bF 1 (aE [(vO (bF 3 (aE [(ab 0),(fD (.int 1)),(fD (.int 2))]) cM))]) jQ))
def HE:=aR 2 (bF 3 (aE [(vO (bF 3 (aE [(ab 0),(fD (.int 400)),(fD (.int 40))]) cM)),(ab 1),(fD (.int 2))]) (dk 4))
def H7:=aR 3 (bF 2 (aE [(bF 1 (aE [(ab 2)]) (fM 4)),(vO (bF 3 (aE [(ab 0),(fD (.int 500)),(fD (.int 8))]) cM))]) iQ)
def HJ:=aR 4 (bF 1 (aE [(ab 3)]) (fN 44))
def Ct:=cc (iL [(aW (ah (ab 4) (fD .non) (aG .isn))),(aW (ah (ah (ab 4) (fD (.int 1)) bw) (fD (.str (sS ""))) (aG .ne)))]) (ao [(aR 4 (fD .non))]) (ao [])
def x8:=cc (aW (ah (ab 4) (fD .non) (aG .isn))) (ao [(Ao (.tp [(.nm 8),(.nm 9)]) (bF 2 (aE [(ah (ab 4) (fD (.int 0)) bw),(fD (.int 1))]) (gW 48))),(cc (jy [(aW (ah (ab 8) (fD (.int 30)) (aG .gt))),(aW (ah (ab 9) (fD (.int 8)) (aG .gt)))]) (ao [(bq (fD (.bl true)))]) (ao []))]) (ao [])
def yf:=aR 5 (fD .non)
def x3:=aR 6 (fD .non)
def oX:=ao [(aR 6 (rQ 1 (aE [(ab 3)]) dY))]
def ku:=jG cU "FindError" 7 5 oX
def jR:=cc (aW (ah (ab 4) (fD .non) (aG .is))) (ao [(bq (gU [(bF 1 (aE [(ab 5)]) iy),(js cU "ValueError" (ab 5))]))]) (ao [])
def jC:=bq (gU [(ah (ab 5) (fD .non) (aG .is)),(BV "tuple" (ab 6)),(ah (ab 6) (ah (ab 4) (fD (.int 0)) bw) (aG .eq))])
def DF:=ao [IG,HE,H7,HJ,Ct,x8,yf,x3,ku,jR,jC]
def xa:Fn:=gm 10 DF
end K82
namespace Sh
open PySem L2 PyProof.Rows Vw
def o4:State→Res Fl:=(cc (aW (ah (ab 0) (cN []) (aG .eq))) (ao [(bq (fD (.int 0)))]) (ao []))
def o6:State→Res Fl:=(bq (nU "list" (ab 0) (aE []) yH jf))
def oz:State→Res Fl:=(ao [o4,o6])
def cz:Fn:=gm 1 oz
def mO:State→Res Fl:=(aR 3 (ah (cJ (ab 0) .no (.ex (fD (.int 63)))) (cN [(ab 1)]) (binop .add)))
def mH:State→Res Fl:=(aR 4 (cN []))
def mc:State→Res RV:=(ah (ab 10) (fD (.int 100000)) (binop .fdiv))
def mm:State→Res Fl:=(ao [(aR 9 (ah (ab 5) (dW (aE [(ab 6)]) gF) (binop .mod))),(cc (aW (ah (ab 5) (ab 1) (aG .ge))) (ao [(cV (nU "list" (ab 4) (aE [(ah (ah (ab 6) (ab 9) bw) (fD (.int 2147483587)) (binop .mod))]) bAppend jf))]) (ao [])),(C4 (ab 6) (ab 9) (ah (ah (ab 6) (ab 9) bw) (fD (.int 2147483587)) (binop .fdiv)))])
def mM:State→Res Fl:=(cc (aW (ah (ah (ah (ah (ab 3) (fD (.int 0)) bw) (fD (.int 50000)) (binop .fdiv)) (fD (.int 2)) (binop .mod)) (fD (.int 1)) (aG .eq))) (ao [(aR 6 (lS [10] (.nm 10) (sD (ab 3) itemsOf) kS mc)),(oW (.nm 5) (kX (aE [(ah (ab 1) (ab 2) (binop .add))]) mW) mm),(bq (ab 4))]) (ao []))
def xm:State→Res Fl:=(ao [(aR 7 (ah (ah (ah (ah (ab 5) (ab 1) (binop .add)) (ah (ab 5) (ab 1) (binop .add)) (binop .mul)) (fD (.int 7919)) (binop .mul)) (fD (.int 104729)) (binop .add))),(aR 8 (ah (ah (ah (ah (ah (ab 3) (ah (ab 5) (dW (aE [(ab 3)]) gF) (binop .mod)) bw) (fD (.int 2147483647)) (binop .mod)) (ab 7) (binop .add)) (fD (.int 48271)) (binop .mul)) (fD (.int 2147483647)) (binop .mod))),(aR 8 (ah (ah (ah (ab 8) (ab 8) (binop .mul)) (ah (fD (.int 69621)) (ab 5) (binop .mul)) (binop .add)) (fD (.int 2147483629)) (binop .mod))),(cV (nU "list" (ab 4) (aE [(ah (ah (ab 8) (ab 8) (binop .mul)) (fD (.int 2147483587)) (binop .mod))]) bAppend jf))])
def mP:State→Res Fl:=(oW (.nm 5) (kX (aE [(ab 2)]) mW) xm)
def mF:State→Res Fl:=(bq (ab 4))
def lI:State→Res Fl:=(ao [mO,mH,mM,mP,mF])
def cM:Fn:=gm 11 lI
@[simp] theorem OO(a b:List D)(s:State):rX (.val (.d (.lst a))) (.val (.d (.lst b))) s=(if a.length+b.length≤sizeLine then .ok (.new (.lst (a.map .d++b.map .d))) s else .stuck):=by
 show(if(a.map Val.d).length+(b.map Val.d).length≤sizeLine then _ else _)=_
 rw[List.length_map,List.length_map]
@[simp] theorem HC(a b:List Nat)(s:State):rX (.val (.d (.str a))) (.val (.d (.str b))) s=(if a.length+b.length≤sizeLine then .ok (.val (.d (.str (a++b)))) s else .stuck):=id rfl
theorem jz{α:Type}(l:List α)(b:Nat):dg l none (some (b:Int))=l.take b:=by
 have h:=oJ l 0 b
 simpa [dg,HT.sIx]using h
theorem Cy{n:Nat}{i:Int}(h0:0≤i)(h1:i<n):ixN n i=some i.toNat:=by
 unfold ixN
 rw[if_pos h0,if_pos h1]
@[simp] theorem OE(l:List D):lX (.lst l) (.lst [])=l.isEmpty:=by
 show PyData.eqv (.list (gX l)) (.list (gX []))=_
 cases l<;> simp[gX,PyData.eqv,PyData.eqvAll]
end Sh
namespace Vw
open PySem L2 PyProof.Rows
def Bk(sg:Slots)(r:Res RV):Res RV:=
 match r with
 | .ok r s2=>.ok r ⟨sg,s2.st⟩
 | .exc x s2=>.exc x ⟨sg,s2.st⟩
 | .stuck=>.stuck
def JB(N:List String)(T:String)(i j:Nat)(r:Res Fl):Res Fl:=
 match r with
 | .exc x s=>match lN N x.c T with
  | some true=>.ok .nx { s with sg:=((s.sg.set i none).set j (some (.v (.d (DA x))))).set i none }
  | some false=>.exc x s
  | none=>.stuck
 | r=>r
def x7(r:Res Fl):Res Fl:=
 match r with
 | .ok .cnt s=>.ok .nx s
 | r=>r
def O0(t:Tg)(b:State→Res Fl)(v:Val)(s:State):Res Fl:=
 match ji t v s with
 | some s=>x7 (b s)
 | none=>.stuck
section
variable(sg:Slots)(st:List Ob)(s s':State)(i j n:Nat)(d d':D)(x y:Val)(o:Ob)(f g h fa fb fc fo:State→Res RV)(fs:State→Res (List RV))(r r':RV)(N:List String)(T c:String)(e:Exn)(k:Fl)(gg:Fn)(b:State→Res Fl)(t:Tg)(args:List Val)
@[simp] theorem MY:Bk sg (.ok r s)=.ok r ⟨sg,s.st⟩:=id rfl
@[simp] theorem L6:Bk sg (.exc e s)=.exc e ⟨sg,s.st⟩:=id rfl
@[simp] theorem OK:bK gg args ⟨sg,st⟩=Bk sg (gg args st):=id rfl
@[simp] theorem NF:Kq n fs gg s=(fs s).bind fun rs s=>(bE rs s).bind fun args s=>if args.length=n then bK gg args s else .stuck:=id rfl
@[simp] theorem Oz:tJ c s=.exc ⟨c,none⟩ s:=id rfl
@[simp] theorem NR:IH c f s=(ev f s).bind fun r s=>match d8 r s with
 | .ok (.d x) s=>.exc ⟨c,some x⟩ s
 | _=>.stuck:=id rfl
@[simp] theorem MZ:jG N T i j b s=JB N T i j (b s):=id rfl
@[simp] theorem OT:JB N T i j (.ok k s)=.ok k s:=id rfl
@[simp] theorem Qq:js N T f s=(ev f s).bind fun r s=>match dv s r with
 | some (.exc c _)=>(match lN N c T with
  | some b=>bp (.bl b) s
  | none=>.stuck)
 | some .non=>bp (.bl false) s
 | _=>.stuck:=id rfl
@[simp] theorem QN:Pf N f s=(ev f s).bind fun r s=>match dv s r with
 | some (.exc c [p])=>if N.contains c then bp p s else .stuck
 | _=>.stuck:=id rfl
@[simp] theorem OX:Nv r r' s=(match dv s r,dv s r' with
 | some (.bl a),some (.bl b)=>bp (.bl (decide (a=b))) s
 | _,_=>.stuck):=id rfl
@[simp] theorem Oy:MP r r' s=(match dv s r,dv s r' with
 | some (.bl a),some (.bl b)=>bp (.bl (!decide (a=b))) s
 | _,_=>.stuck):=id rfl
@[simp] theorem PR:NJ r r' s=(match lv s r,dv s r' with
 | some l,some (.int k)=>if-(2^63)≤k∧k<2^63∧l.length*k.toNat≤sizeLine then .ok (.new (.lst (List.replicate k.toNat l).flatten)) s else .stuck
 | _,_=>.stuck):=id rfl
@[simp] theorem Qd:MR f s=(ev f s).bind fun r s=>match dv s r with
 | some (.str t)=>if t.length≤sizeLine then bp (.str t.reverse) s else .stuck
 | _=>match lv s r with
  | some l=>.ok (.new (.lst l.reverse)) s
  | none=>.stuck:=id rfl
@[simp] theorem O2:AU s (.val (.d d))=(match d with
 | .non=>some "NoneType" | .bl _=>some "bool" | .int _=>some "int" | .str _=>some "str" | .lst _=>some "list" | .tup _=>some "tuple" | .dic _=>some "dict" | _=>none):=by cases d<;> rfl
@[simp] theorem Qb:MN r [r'] s=(match dv s r,(sq s r').bind strsOf with
  | some (.str a),some ys=>if(ys.map (·.length)).sum+ys.length*a.length≤16777216 then bp (.str (Gp a ys)) s else .stuck
  | _,_=>.stuck):=id rfl
@[simp] theorem PV:i0 .isin s (.val (.d (.str a))) (.val (.d (.str b')))=some (subIn a b'):=id rfl
@[simp] theorem OQ:i0 .notin s r r'=(inD s r r').map not:=id rfl
@[simp] theorem O3:i0 .isin s r r'=inD s r r':=id rfl
@[simp] theorem O4(a b:List Nat):inD s (.val (.d (.str a))) (.val (.d (.str b)))=some (subIn a b):=id rfl
@[simp] theorem P8:i0 .isn s (.val (.d d)) (.val (.d .non))=some (match d with | .non=>false | _=>true):=by cases d<;> rfl
@[simp] theorem QG:i0 .is s (.val (.d d)) (.val (.d .non))=some (match d with | .non=>true | _=>false):=by cases d<;> rfl
@[simp] theorem Qy(s:State)(r:RV):Me s r=(match dv s r with | some (.str _)=>true | _=>false):=id rfl
@[simp] theorem Pm(o x:List Nat)(s:State):bIndex (.val (.d (.str o))) [.val (.d (.str x))] s=(match Builtin.Str.occurrences (Vw.st o) (Vw.st x) 0 o.length 1 with | i::_=>.ok (.val (.d (.int (i:Nat)))) s | []=>.stuck):=id rfl
@[simp] theorem Ow(a:List Nat)(j:Int):yu (.val (.d (.str a))) (.val (.d (.int j))) s=if 0≤j∧j<1000000∧a.length*j.toNat≤1000000 then bp (.str (List.replicate j.toNat a).flatten) s else .stuck:=id rfl
@[simp] theorem OP:x7 (.ok .nx s)=.ok .nx s:=id rfl
@[simp] theorem NI:x7 (.ok .cnt s)=.ok .nx s:=id rfl
@[simp] theorem NW:x7 (.ok (.ret r) s)=.ok (.ret r) s:=id rfl
@[simp] theorem NK:x7 (.exc e s)=.exc e s:=id rfl
@[simp] theorem QF(v:Val):O0 t b v s=(match ji t v s with | some s=>x7 (b s) | none=>.stuck):=id rfl
end
@[simp] theorem QM(s:State)(a b:List Nat):xB s (.val (.d (.str a))) (.val (.d (.str b)))=some (decide (a=b)):=by
 show(if gp (.str a) (.str b)then some (lX (.str a) (.str b))else none)=_
 rw[if_pos (by rfl)]
 show some (Vw.st a==Vw.st b)=_
 by_cases h:a=b
 ·subst h;simp
 ·have h':Vw.st a≠Vw.st b:=fun z=>h (by
   have:=congrArg (fun x:Str=>x.cps.toList) z
   simpa [Vw.st]using this)
  have:(Vw.st a==Vw.st b)=false:=beq_eq_false_iff_ne.mpr h'
  rw[this];simp[h]
def FO(vs:List Nat)(r:Res Val):Res (Option Val):=
 match r with
 | .ok y s=>.ok (some y) (fE vs s)
 | _=>.stuck
def Mg(vs:List Nat)(t:Tg)(ft:State→Res Bool)(fe:State→Res RV)(v:Val)(s:State):Res (Option Val):=
 match ji t v (fE vs s)with
 | none=>.stuck
 | some s=>(ft s).bind fun b s=>if b=true then(fe s).bind fun r s=>FO vs (d8 r s)else .ok none (fE vs s)
@[simp] theorem ON(vs:List Nat)(t:Tg)(ft:State→Res Bool)(fe:State→Res RV)(v:Val)(s:State):Mg vs t ft fe v s=(match ji t v (fE vs s)with
 | none=>.stuck
 | some s=>(ft s).bind fun b s=>if b=true then(fe s).bind fun r s=>FO vs (d8 r s)else .ok none (fE vs s)):=id rfl
@[simp] theorem Ov(vs:List Nat)(y:Val)(s:State):FO vs (.ok y s)=.ok (some y) (fE vs s):=id rfl
theorem CI(i j:Int):lX (.int i) (.int j)=decide (i=j):=by
 show(i==j)=_
 by_cases h:i=j<;> simp[h]
theorem yD(a b:List Nat):lX (.str a) (.str b)=decide (a=b):=by
 show(Vw.st a==Vw.st b)=_
 by_cases h:a=b
 ·subst h;simp
 ·have h':Vw.st a≠Vw.st b:=fun z=>h (by
   have:=congrArg (fun x:Str=>x.cps.toList) z
   simpa [Vw.st]using this)
  rw[beq_eq_false_iff_ne.mpr h'];simp[h]
theorem Lc(a b:Bool):lX (.bl a) (.bl b)=decide (a=b):=by cases a<;> cases b<;> rfl
def ql(l:List D)(x:D):Option Bool:=if(pd x).plain&&PyData.plainAll (gX l)&&decide (min (PyData.depthAll (gX l)) (pd x).depth≤60)then some (l.any fun y=>lX y x)else none
def yJ(m:List Val)(x:D):Option Bool:=(toDs m).bind fun l=>ql l x
theorem wo{α:Type}[DecidableEq α](F:α→D)(l:List α)(x:α)(p:∀ y,fB (F y)=true)(q:∀ y,gR 40 (F y)=true)(e:∀ y z,lX (F y) (F z)=decide (y=z)):ql (l.map F) (F x)=some (decide (x∈l)):=by
 unfold ql
 have h1:=oI F l (fun y _=>p y)
 have h2:=qP 40 _ h1 (sm 40 F l fun y _=>q y)
 have h3:=tu 40 _ (p x) (q x)
 rw[if_pos (by simp[uZ _ (p x),ud _ h1];omega)]
 congr 1
 induction l with
 | nil=>rfl
 | cons a l ih=>
  have h1':=oI F l (fun y _=>p y)
  rw[List.map_cons,List.any_cons,ih h1' (qP 40 _ h1' (sm 40 F l fun y _=>q y)),e]
  by_cases h:a=x
  ·simp[h]
  ·have h':¬ x=a:=fun z=>h z.symm
   simp[h,h']
@[simp] theorem FU(l:List Int)(i:Int):ql (l.map .int) (.int i)=some (decide (i∈l)):=(wo D.int l i (fun _=>rfl) (fun _=>rfl) CI).trans (by congr)
@[simp] theorem Ol(l:List (List Nat))(i:List Nat):ql (l.map .str) (.str i)=some (decide (i∈l)):=(wo D.str l i (fun _=>rfl) (fun _=>rfl) yD).trans (by congr)
@[simp] theorem OB(l:List Bool)(i:Bool):ql (l.map .bl) (.bl i)=some (decide (i∈l)):=(wo D.bl l i (fun _=>rfl) (fun _=>rfl) Lc).trans (by congr)
@[simp] theorem OM(l:List Int)(i:Int):yJ (l.map vI) (.int i)=some (decide (i∈l)):=by
 unfold yJ;rw[toDs_vI];exact FU l i
@[simp] theorem PD(l:List D)(i:D):yJ (l.map .d) i=ql l i:=by
 unfold yJ;rw[toDs_map];rfl
def NS(s:State)(x:RV)(j:Nat):Option Bool:=inD s x (.own j)
@[simp] theorem PL(s:State)(x:D)(l:List D):inD s (.val (.d x)) (.val (.d (.lst l)))=ql l x:=by
 cases x<;> rfl
@[simp] theorem Qe(sg:Slots)(st:List Ob)(x:D)(j:Nat):inD ⟨sg,st⟩ (.val (.d x)) (.own j)=(match sg[j]? with | some (some (.own (.lst m)))=>yJ m x | some (some (.v (.d (.lst l))))=>ql l x | _=>NS ⟨sg,st⟩ (.val (.d x)) j):=by
 split
 ·rename_i m e
  unfold inD lj p4 vM
  simp only[DS,Dt,vS,e,Ja]
  unfold yJ
  cases e3:toDs m with
  | none=>cases x<;> simp
  | some l=>cases x<;> simp[ql]
 ·rename_i l e
  unfold inD lj p4 vM
  simp only[DS,Dt,vS,e,Ja]
  cases x<;> rfl
 ·rfl
theorem kE(c:Nat)(t:List Nat):subIn [c] t=decide (c∈t):=by
 have:=PySem.StrLaws.found_one (Vw.st t) c
 unfold subIn
 have e:(Vw.st t).length=t.length:=by simp[Vw.st,Str.length]
 rw[←e]
 have e2:Vw.st [c]=⟨#[c]⟩:=rfl
 rw[e2]
 rw[this]
 have h:c∈(Vw.st t).cps.toList↔c∈t:=by simp[Vw.st]
 by_cases hc:c∈t
 ·rw[decide_eq_true hc,decide_eq_true (h.mpr hc)]
 ·rw[decide_eq_false hc,decide_eq_false (fun z=>hc (h.mp z))]
end Vw
namespace Vw
open PySem L2
inductive M (α:Type) where
 | ok (a:α)
 | exc (x:Exn)
 | bad
def M.bind{α β:Type}:M α→(α→M β)→M β
 | .ok a,k=>k a
 | .exc x,_=>.exc x
 | .bad,_=>.bad
@[simp] theorem M.aa{α β:Type}(a:α)(k:α→M β):(M.ok a).bind k=k a:=id rfl
@[simp] theorem M.F6{α β:Type}(x:Exn)(k:α→M β):(M.exc x:M α).bind k=.exc x:=id rfl
@[simp] theorem M.Ny{α β:Type}(k:α→M β):(M.bad:M α).bind k=.bad:=id rfl
theorem M.bind_assoc{α β γ:Type}(m:M α)(k:α→M β)(l:β→M γ):(m.bind k).bind l=m.bind fun a=>(k a).bind l:=by cases m<;> rfl
def gd(b:Bool):M Unit:=if b then .ok ()else .bad
@[simp] theorem Bn:gd true=.ok ():=id rfl
abbrev Pt:=List (Option Sl)
def Fits(p:Pt)(g:Slots):Prop:=p.length=g.length∧∀ (i:Nat) (s:Sl),p[i]? =some (some s)→g[i]? =some (some s)
def gZ:Pt→Pt→Prop
 | [],[]=>True
 | none::p,_::q=>gZ p q
 | some s::p,t::q=>t=some s∧gZ p q
 | _,_=>False
theorem gZ.imp:∀ {p q:Pt},gZ p q→p.length=q.length∧∀ (i:Nat) (s:Sl),p[i]? =some (some s)→q[i]? =some (some s)
 | [],[],_=>⟨rfl,fun i s h=>by simp at h⟩
 | [],_::_,h=>by simp[gZ]at h
 | none::p,[],h=>by simp[gZ]at h
 | some s::p,[],h=>by simp[gZ]at h
 | none::p,t::q,h=>by
  have ih:=gZ.imp (p:=p) (q:=q) h
  refine⟨by simp[ih.1],fun i s e=>?_⟩
  cases i with
  | zero=>simp at e
  | succ i=>exact ih.2 i s (by simpa using e)
 | some s::p,t::q,h=>by
  have ih:=gZ.imp (p:=p) (q:=q) h.2
  refine⟨by simp[ih.1],fun i s' e=>?_⟩
  cases i with
  | zero=>simp at e ⊢;rw[h.1,e]
  | succ i=>exact ih.2 i s' (by simpa using e)
theorem Fits.weak{p q:Pt}{g:Slots}(h:Fits q g)(w:gZ p q):Fits p g:=⟨w.imp.1.trans h.1,fun i s e=>h.2 i s (w.imp.2 i s e)⟩
theorem Fits.set{p:Pt}{g:Slots}(h:Fits p g)(i:Nat)(s:Sl):Fits (p.set i (some s)) (g.set i (some s)):=by
 refine⟨by simp[h.1],fun j s' e=>?_⟩
 rw[List.getElem?_set]at e ⊢
 split at e
 ·rename_i hij
  rw[if_pos hij]
  split at e
  ·rename_i hl
   rw[if_pos (h.1▸hl)]
   exact e
  ·cases e
 ·rename_i hij
  rw[if_neg hij]
  exact h.2 j s' e
theorem Fits.wipe{p:Pt}{g:Slots}(h:Fits p g):∀ vs:List Nat,(vs.all fun v=>(p.getD v none).isNone)=true→Fits p (jB g vs)
 | [],_=>h
 | v::vs,hv=>by
  have hv:(p.getD v none).isNone=true∧(vs.all fun v=>(p.getD v none).isNone)=true:=by simpa using hv
  have ih:=Fits.wipe h vs hv.2
  refine⟨by simp[jB,ih.1],fun j s e=>?_⟩
  show((jB g vs).set v none)[j]? =_
  rw[List.getElem?_set]
  split
  ·rename_i hvj
   subst hvj
   have:=hv.1
   rw[List.getD_eq_getElem?_getD,e]at this
   cases this
  ·exact ih.2 j s e
def Rn{α T:Type}(R:List Ob→Prop)(r:Res α)(m:M T)(post:T→α×Pt×List Ob):Prop:=
 match m with
 | .ok v=>∃ sg,r=.ok (post v).1 ⟨sg,(post v).2.2⟩∧Fits (post v).2.1 sg
 | .exc x=>∃ s,r=.exc x s∧R s.st
 | .bad=>True
def Ev{α T:Type}(R:List Ob→Prop)(p:Pt)(σ:List Ob)(f:State→Res α)(m:M T)(post:T→α×Pt×List Ob):Prop:=∀ sg,Fits p sg→Rn R (f ⟨sg,σ⟩) m post
section
variable{R:List Ob→Prop}{p p':Pt}{σ σ':List Ob}{α β γ T U W:Type}
theorem Ev.bind{f:State→Res α}{k:α→State→Res β}{m:M T}{mk:T→M U}{post:T→α×Pt×List Ob}{post2:U→β×Pt×List Ob}(h:Ev R p σ f m post)(hk:∀ v,Ev R (post v).2.1 (post v).2.2 (k (post v).1) (mk v) post2):Ev R p σ (fun s=>(f s).bind k) (m.bind mk) post2:=by
 intro sg hf
 have:=h sg hf
 cases m with
 | ok v=>
  obtain⟨sg',e,hf'⟩:=this
  have h2:=hk v sg' hf'
  simp only[M.aa]
  rw[e,Res.aa]
  exact h2
 | exc x=>
  obtain⟨s,e,r⟩:=this
  refine⟨s,?_,r⟩
  show(f ⟨sg,σ⟩).bind k=_
  rw[e];rfl
 | bad=>trivial
theorem Ev.iV{f:State→Res α}{k:α→State→Res β}{a:T}{m:M U}{post:T→α×Pt×List Ob}{post2:U→β×Pt×List Ob}(h:Ev R p σ f (.ok a) post)(hk:Ev R (post a).2.1 (post a).2.2 (k (post a).1) m post2):Ev R p σ (fun s=>(f s).bind k) m post2:=by
 intro sg hf
 obtain⟨sg',e,hf'⟩:=h sg hf
 have h2:=hk sg' hf'
 dsimp only
 rw[e,Res.aa]
 exact h2
theorem Ev.pure{a:T}{r:T→α}:Ev R p σ (fun s=>.ok (r a) s) (.ok a) (fun v=>(r v,p,σ)):=fun sg hf=>⟨sg,rfl,hf⟩
theorem Ev.map{f:State→Res α}{m:M T}{post:T→α×Pt×List Ob}(φ:T→U)(post2:U→α×Pt×List Ob)(h:Ev R p σ f m post)(e:∀ v,post v=post2 (φ v)):Ev R p σ f (m.bind fun v=>.ok (φ v)) post2:=by
 intro sg hf
 have:=h sg hf
 cases m with
 | ok v=>
  obtain⟨sg',e',hf'⟩:=this
  rw[e v]at e' hf'
  exact⟨sg',e',hf'⟩
 | exc x=>exact this
 | bad=>trivial
theorem Ev.b6{f:State→Res α}{a:T}{post:T→α×Pt×List Ob}{b:U}{post2:U→α×Pt×List Ob}(h:Ev R p σ f (.ok a) post)(e:post a=post2 b):Ev R p σ f (.ok b) post2:=by
 intro sg hf
 obtain⟨sg',e',hf'⟩:=h sg hf
 rw[e]at e' hf'
 exact⟨sg',e',hf'⟩
theorem Ev.weak{f:State→Res α}{m:M T}{post:T→α×Pt×List Ob}(h:Ev R p σ f m post)(w:gZ p p'):Ev R p' σ f m post:=fun sg hf=>h sg (hf.weak w)
theorem Ev.is{f g:State→Res α}{m:M T}{post:T→α×Pt×List Ob}(h:Ev R p σ f m post)(e:∀ s,g s=f s):Ev R p σ g m post:=fun sg hf=>by rw[e];exact h sg hf
theorem Ev.bad{f:State→Res α}{post:T→α×Pt×List Ob}:Ev R p σ f .bad post:=fun _ _=>trivial
theorem Ev.at{f:State→Res α}{a:T}{r:T→α}(h:∀ sg,Fits p sg→f ⟨sg,σ⟩=.ok (r a) ⟨sg,σ⟩):Ev R p σ f (.ok a) (fun v=>(r v,p,σ)):=fun sg hf=>⟨sg,h sg hf,hf⟩
theorem Ev.gd{f:State→Res α}{a:T}{r:T→α}{b:Bool}(h:b=true→∀ sg,Fits p sg→f ⟨sg,σ⟩=.ok (r a) ⟨sg,σ⟩):Ev R p σ f ((gd b).bind fun _=>.ok a) (fun v=>(r v,p,σ)):=by
 intro sg hf
 cases b with
 | true=>exact⟨sg,h rfl sg hf,hf⟩
 | false=>trivial
theorem Ev.op{f:State→Res α}{o:Option T}{r:T→α}(h:∀ a,o=some a→∀ sg,Fits p sg→f ⟨sg,σ⟩=.ok (r a) ⟨sg,σ⟩):Ev R p σ f (match o with | some a=>.ok a | none=>.bad) (fun v=>(r v,p,σ)):=by
 intro sg hf
 cases o with
 | some a=>exact⟨sg,h a rfl sg hf,hf⟩
 | none=>trivial
end
abbrev eL{T:Type}(e:T→D):List T→D:=fun l=>.lst (l.map e)
abbrev jK{A B:Type}(a:A→D)(b:B→D):A×B→D:=fun p=>.tup [a p.1,b p.2]
abbrev eN:Unit→D:=fun _=>.non
abbrev eY:D→D:=fun d=>d
abbrev MV{T:Type}(e:T→D):List (List Nat×T)→D:=fun l=>.dic (l.map fun p=>(.s p.1,e p.2))
abbrev oL{T:Type}(e:T→D):List T→Ob:=fun l=>.lst (l.map fun x=>.d (e x))
abbrev my{T:Type}(e:T→D):List (List Nat×T)→Ob:=fun l=>.dic false (l.map fun p=>(.s p.1,.d (e p.2)))
theorem bS{T:Type}(e:T→D)(l:List T):(oL e l).toD=some (eL e l):=by
 show(toDs _).map _=_
 rw[toDs_mapF];rfl
theorem toDK_mapF{κ α:Type}(F:α→D):∀ l:List (κ×α),toDK (l.map fun p=>(p.1,Val.d (F p.2)))=some (l.map fun p=>(p.1,F p.2))
 | []=>rfl
 | (k,x)::l=>by simp[toDK,toDK_mapF F l]
theorem Ag{T:Type}(e:T→D)(l:List (List Nat×T)):(my e l).toD=some (MV e l):=by
 have h:=toDK_mapF (κ:=K0) e (l.map fun p=>(K0.s p.1,p.2))
 rw[List.map_map,List.map_map]at h
 show(toDK _).map _=_
 exact(congrArg (Option.map D.dic) h).trans rfl
def Lv{T:Type}(p:Pt)(σ:List Ob)(r:RV)(e:T→D)(l:List T):Prop:=∀ sg,Fits p sg→lv ⟨sg,σ⟩ r=some (l.map fun x=>.d (e x))∧mw ⟨sg,σ⟩ r=some (eL e l)∧tv ⟨sg,σ⟩ r=none∧∀ k,lj ⟨sg,σ⟩ r k=none
end Vw
namespace Vw
open PySem L2
section
variable{R:List Ob→Prop}{p p':Pt}{σ σ':List Ob}{α β γ T U W:Type}{i j n:Nat}
theorem ck{e:T→D}{l:List T}:Lv p σ (.val (.d (eL e l))) e l:=fun sg _=>⟨by simp[Function.comp_def],rfl,rfl,fun k=>rfl⟩
theorem mj{e:T→D}{l:List T}(h:p[i]? =some (some (.own (oL e l)))):Lv p σ (.own i) e l:=fun sg hf=>by
 have h:=hf.2 _ _ h
 refine⟨by simp[h],by simp[h,Function.comp_def],?_,fun k=>?_⟩
 ·unfold tv;simp[h]
 ·unfold lj p4 vM;simp[h]
theorem K4{e:T→D}{l:List T}(h:σ[n]? =some (oL e l)):Lv p σ (.val (.r n)) e l:=fun sg hf=>by
 refine⟨by simp[h],by simp[h,Function.comp_def],?_,fun k=>?_⟩
 ·unfold tv;simp
 ·unfold lj p4 vM;simp[h]
def Pv(p:Pt)(σ:List Ob)(r:RV)(d:D):Prop:=∀ sg,Fits p sg→mw ⟨sg,σ⟩ r=some d
theorem aT{d:D}:Pv p σ (.val (.d d)) d:=fun _ _=>rfl
theorem Lv.pv{e:T→D}{l:List T}{r:RV}(h:Lv p σ r e l):Pv p σ r (eL e l):=fun sg hf=>(h sg hf).2.1
theorem aj{a:T}{e:T→D}(h:p[i]? =some (some (.v (.d (e a))))):Ev R p σ (ab i) (.ok a) (fun v=>(.val (.d (e v)),p,σ)):=Ev.at (r:=fun v=>RV.val (Val.d (e v))) fun sg hf=>by
 rw[pM,hf.2 _ _ h]
theorem jc{a:T}{o:Ob}(h:p[i]? =some (some (.own o))):Ev R p σ (ab i) (.ok a) (fun _=>(.own i,p,σ)):=Ev.at (r:=fun _=>RV.own i) fun sg hf=>by
 rw[pM,hf.2 _ _ h]
theorem cj{a:T}(h:p[i]? =some (some (.v (.r n)))):Ev R p σ (ab i) (.ok a) (fun _=>(.val (.r n),p,σ)):=Ev.at (r:=fun _=>RV.val (Val.r n)) fun sg hf=>by
 rw[pM,hf.2 _ _ h]
theorem cD(e:T→D)(a:T):Ev R p σ (fD (e a)) (.ok a) (fun v=>(.val (.d (e v)),p,σ)):=Ev.at (r:=fun v=>RV.val (Val.d (e v))) fun sg hf=>rfl
theorem sv{f:State→Res RV}{m:M T}{x:T→Val}{P:T→Pt}{S:T→List Ob}(h:Ev R p σ f m (fun v=>(.val (x v),P v,S v))):Ev R p σ (ev f) m (fun v=>(.val (x v),P v,S v)):=fun sg hf=>by
 have:=h sg hf
 cases m with
 | ok v=>obtain⟨sg',e,hf'⟩:=this;exact⟨sg',by rw[pk,e];rfl,hf'⟩
 | exc x=>obtain⟨s,e,r⟩:=this;exact⟨s,by rw[pk,e];rfl,r⟩
 | bad=>trivial
theorem jd{f:State→Res RV}{m:M T}{P:T→Pt}{S:T→List Ob}(h:Ev R p σ f m (fun v=>(.own i,P v,S v))):Ev R p σ (ev f) m (fun v=>(.own i,P v,S v)):=fun sg hf=>by
 have:=h sg hf
 cases m with
 | ok v=>obtain⟨sg',e,hf'⟩:=this;exact⟨sg',by rw[pk,e];rfl,hf'⟩
 | exc x=>obtain⟨s,e,r⟩:=this;exact⟨s,by rw[pk,e];rfl,r⟩
 | bad=>trivial
theorem sn{f:State→Res RV}{m:M T}{o:T→Ob}{d:T→D}{P:T→Pt}{S:T→List Ob}(h:Ev R p σ f m (fun v=>(.new (o v),P v,S v)))(hd:∀ v,(o v).toD=some (d v)):Ev R p σ (ev f) m (fun v=>(.val (.d (d v)),P v,S v)):=fun sg hf=>by
 have:=h sg hf
 cases m with
 | ok v=>obtain⟨sg',e,hf'⟩:=this;exact⟨sg',by rw[pk,e,Res.aa,Nw,hd v],hf'⟩
 | exc x=>obtain⟨s,e,r⟩:=this;exact⟨s,by rw[pk,e];rfl,r⟩
 | bad=>trivial
abbrev pD(e:T→D)(p:Pt)(σ:List Ob):T→RV×Pt×List Ob:=fun v=>(.val (.d (e v)),p,σ)
abbrev MX(e:T→D)(p:Pt)(σ:List Ob):List T→RV×Pt×List Ob:=fun v=>(.new (oL e v),p,σ)
def mulM(a b:Int):M Int:=(gd (E3 a b)).bind fun _=>.ok (a*b)
def ic(a b:Int):M Int:=(gd (decide (0<b))).bind fun _=>.ok (a%b)
def BZ(a b:Int):M Int:=(gd (decide (0≤b∧b≤1000000∧a.natAbs<2^64))).bind fun _=>.ok (a^b.toNat)
theorem di{a b:Int}:Ev R p σ (binop .add (.val (.d (.int a))) (.val (.d (.int b)))) (.ok (a+b)) (pD .int p σ):=Ev.at (r:=fun v=>RV.val (Val.d (D.int v))) fun sg _=>rfl
theorem rK{a b:Int}:Ev R p σ (binop .sub (.val (.d (.int a))) (.val (.d (.int b)))) (.ok (a-b)) (pD .int p σ):=Ev.at (r:=fun v=>RV.val (Val.d (D.int v))) fun sg _=>rfl
theorem rC{a b:Int}:Ev R p σ (binop .mul (.val (.d (.int a))) (.val (.d (.int b)))) (mulM a b) (pD .int p σ):=Ev.gd (r:=fun v=>RV.val (Val.d (D.int v))) fun h sg _=>by rw[GJ,HW,if_pos h];rfl
theorem jH{a b:Int}:Ev R p σ (binop .mod (.val (.d (.int a))) (.val (.d (.int b)))) (ic a b) (pD .int p σ):=Ev.gd (r:=fun v=>RV.val (Val.d (D.int v))) fun h sg _=>by rw[CG,if_pos (of_decide_eq_true h)];rfl
theorem MF{a b:Int}:Ev R p σ (binop .pow (.val (.d (.int a))) (.val (.d (.int b)))) (BZ a b) (pD .int p σ):=Ev.gd (r:=fun v=>RV.val (Val.d (D.int v))) fun h sg _=>by rw[Hz,if_pos (of_decide_eq_true h)];rfl
theorem gy{a b:Int}(h:0<b):Ev R p σ (binop .mod (.val (.d (.int a))) (.val (.d (.int b)))) (.ok (a%b)) (pD .int p σ):=Ev.at (r:=fun v=>RV.val (Val.d (D.int v))) fun sg _=>by rw[CG,if_pos h];rfl
theorem eD{a b:Int}(h:Ff b=true):Ev R p σ (binop .fdiv (.val (.d (.int a))) (.val (.d (.int b)))) (.ok (a/b)) (pD .int p σ):=Ev.at (r:=fun v=>RV.val (Val.d (D.int v))) fun sg _=>by rw[E7,if_pos h];rfl
theorem Js{f:State→Res RV}{m:M Int}{P:Pt}{S:List Ob}(h:Ev R p σ (ev f) m (pD .int P S)):Ev R p σ (AV f) (m.bind fun a=>.ok (-a)) (pD .int P S):=Ev.bind h fun a=>Ev.at (r:=fun v=>RV.val (Val.d (D.int v))) fun sg _=>rfl
def aY(a b:List Nat):M (List Nat):=(gd (decide (a.length+b.length≤sizeLine))).bind fun _=>.ok (a++b)
def oU(a:List Nat)(j:Int):M (List Nat):=(gd (decide (0≤j∧j<1000000∧a.length*j.toNat≤1000000))).bind fun _=>.ok (List.replicate j.toNat a).flatten
def og(a b:List T):M (List T):=(gd (decide (a.length+b.length≤sizeLine))).bind fun _=>.ok (a++b)
theorem bQ{a b:List Nat}:Ev R p σ (binop .add (.val (.d (.str a))) (.val (.d (.str b)))) (aY a b) (pD .str p σ):=Ev.gd (r:=fun v=>RV.val (Val.d (D.str v))) fun h sg _=>by rw[Gk,Sh.HC,if_pos (of_decide_eq_true h)]
theorem An{a:List Nat}{b:Int}:Ev R p σ (binop .mul (.val (.d (.str a))) (.val (.d (.int b)))) (oU a b) (pD .str p σ):=Ev.gd (r:=fun v=>RV.val (Val.d (D.str v))) fun h sg _=>by
 rw[GJ]
 unfold yu
 simp only[vS]
 rw[if_pos (of_decide_eq_true h)];rfl
theorem Jp{s:State}{x y:RV}{l m:List Val}(h1:lv s x=some l)(h2:lv s y=some m):rX x y s=if l.length+m.length≤sizeLine then .ok (.new (.lst (l++m))) s else .stuck:=by
 unfold rX
 have hx:∀ d,dv s x=some d→∃ l,d=.lst l:=fun d e=>by
  rw[A8,e]at h1
  cases d<;> simp at h1
  exact⟨_,rfl⟩
 split
 ·rename_i e _;obtain⟨_,z⟩:=hx _ e;cases z
 ·rename_i e _;obtain⟨_,z⟩:=hx _ e;cases z
 ·rw[h1,h2]
theorem add_l{e:T→D}{a b:List T}{x y:RV}(hx:Lv p σ x e a)(hy:Lv p σ y e b):Ev R p σ (binop .add x y) (og a b) (MX e p σ):=Ev.gd (r:=fun v=>RV.new (oL e v)) fun h sg hf=>by
 rw[Gk,Jp (hx sg hf).1 (hy sg hf).1,if_pos (by simpa using of_decide_eq_true h),←List.map_append]
theorem wF{a b:Int}:Ev R p σ (aG .lt (.val (.d (.int a))) (.val (.d (.int b)))) (.ok (decide (a<b))) (pD .bl p σ):=Ev.at (r:=fun v=>RV.val (Val.d (D.bl v))) fun sg _=>rfl
theorem Kx{a b:Int}:Ev R p σ (aG .le (.val (.d (.int a))) (.val (.d (.int b)))) (.ok (decide (a≤b))) (pD .bl p σ):=Ev.at (r:=fun v=>RV.val (Val.d (D.bl v))) fun sg _=>rfl
theorem rR{a b:Int}:Ev R p σ (aG .gt (.val (.d (.int a))) (.val (.d (.int b)))) (.ok (decide (b<a))) (pD .bl p σ):=Ev.at (r:=fun v=>RV.val (Val.d (D.bl v))) fun sg _=>rfl
theorem Ni{a b:Int}:Ev R p σ (aG .ge (.val (.d (.int a))) (.val (.d (.int b)))) (.ok (decide (b≤a))) (pD .bl p σ):=Ev.at (r:=fun v=>RV.val (Val.d (D.bl v))) fun sg _=>rfl
def eqB{T:Type}[DecidableEq T](a b:T):Bool:=decide (a=b)
@[simp] theorem OR{T:Type}[DecidableEq T](a b:T):eqB a b=decide (a=b):=id rfl
structure EqE {T:Type} [DecidableEq T] (e:T→D) (n:Nat):Prop where
 pl:∀ x,fB (e x)=true
 dp:∀ x,gR n (e x)=true
 eq:∀ x y,lX (e x) (e y)=decide (x=y)
theorem EqE.cmp{T:Type}[DecidableEq T]{e:T→D}{n:Nat}(E:EqE e n)(h:n≤60)(x y:T):gp (e x) (e y)=true:=by
 have h1:=tu n _ (E.pl x) (E.dp x)
 unfold gp
 simp[uZ _ (E.pl x),uZ _ (E.pl y)]
 omega
theorem cW[DecidableEq T]{e:T→D}{a b:T}{x y:RV}(hx:Pv p σ x (e a))(hy:Pv p σ y (e b))(E:EqE e n)(hn:n≤60):Ev R p σ (aG .eq x y) (.ok (eqB a b)) (pD .bl p σ):=Ev.at (r:=fun v=>RV.val (Val.d (D.bl v))) fun sg hf=>by
 rw[m4,J5,Ah,hx sg hf,hy sg hf]
 dsimp only
 rw[if_pos (E.cmp hn a b),E.eq];rfl
theorem DD[DecidableEq T]{e:T→D}{a b:T}{x y:RV}(hx:Pv p σ x (e a))(hy:Pv p σ y (e b))(E:EqE e n)(hn:n≤60):Ev R p σ (aG .ne x y) (.ok (!eqB a b)) (pD .bl p σ):=Ev.at (r:=fun v=>RV.val (Val.d (D.bl v))) fun sg hf=>by
 rw[m4,IW,Ah,hx sg hf,hy sg hf]
 dsimp only
 rw[if_pos (E.cmp hn a b),E.eq];rfl
def vK(a b:D):M Bool:=if gp a b then .ok (lX a b)else .bad
theorem NO{a b:D}{x y:RV}(hx:Pv p σ x a)(hy:Pv p σ y b):Ev R p σ (aG .eq x y) (vK a b) (pD .bl p σ):=fun sg hf=>by
 unfold vK
 split
 ·rename_i h
  refine⟨sg,?_,hf⟩
  rw[m4,J5,Ah,hx sg hf,hy sg hf]
  dsimp only
  rw[if_pos h];rfl
 ·trivial
theorem Kl{a b:D}{x y:RV}(hx:Pv p σ x a)(hy:Pv p σ y b):Ev R p σ (aG .ne x y) ((vK a b).bind fun k=>.ok (!k)) (pD .bl p σ):=fun sg hf=>by
 unfold vK
 split
 ·rename_i h
  refine⟨sg,?_,hf⟩
  rw[m4,IW,Ah,hx sg hf,hy sg hf]
  dsimp only
  rw[if_pos h];rfl
 ·trivial
def dc{T:Type}[DecidableEq T](a:T)(l:List T):Bool:=decide (a∈l)
@[simp] theorem Np{T:Type}[DecidableEq T](a:T)(l:List T):dc a l=decide (a∈l):=id rfl
theorem Ej[DecidableEq T]{e:T→D}(E:EqE e n)(l:List T):cY (l.map e)=true:=oI e l fun x _=>E.pl x
theorem LP[DecidableEq T]{e:T→D}(E:EqE e n)(l:List T)(a:T):((l.map e).any fun y=>lX y (e a))=decide (a∈l):=by
 rw[List.any_map]
 have:(fun y=>lX (e y) (e a))=fun y=>decide (y=a):=funext fun y=>E.eq y a
 rw[show((fun y=>lX y (e a))∘e)=fun y=>decide (y=a)from this]
 rw[Bool.eq_iff_iff]
 simp
theorem GN[DecidableEq T]{e:T→D}{a:T}{l:List T}{x y:RV}(hx:Pv p σ x (e a))(hy:Lv p σ y e l)(E:EqE e n)(hn:n≤60){sg:Slots}(hf:Fits p sg):inD ⟨sg,σ⟩ x y=some (decide (a∈l)):=by
 obtain⟨h1,h2,h3,h4⟩:=hy sg hf
 unfold inD
 rw[h4 x]
 have hs:∀ b,dv ⟨sg,σ⟩ y≠some (.str b):=fun b e=>by rw[A8,e]at h1;cases h1
 dsimp only
 split
 ·rename_i e;exact absurd e (hs _)
 ·rw[hx sg hf,h2]
  dsimp only
  have d1:=tu n _ (E.pl a) (E.dp a)
  have d2:=ud _ (Ej E l)
  rw[if_pos (by
   simp[uZ _ (E.pl a),d2]
   omega)]
  rw[LP E]
theorem Bz[DecidableEq T]{e:T→D}{a:T}{l:List T}{x y:RV}(hx:Pv p σ x (e a))(hy:Lv p σ y e l)(E:EqE e n)(hn:n≤60):Ev R p σ (aG .isin x y) (.ok (dc a l)) (pD .bl p σ):=Ev.at (r:=fun v=>RV.val (Val.d (D.bl v))) fun sg hf=>by
 rw[m4]
 show(match inD _ _ _ with | some b=>bp (.bl b) _ | none=>Res.stuck)=_
 rw[GN hx hy E hn hf];rfl
theorem yU[DecidableEq T]{e:T→D}{a:T}{l:List T}{x y:RV}(hx:Pv p σ x (e a))(hy:Lv p σ y e l)(E:EqE e n)(hn:n≤60):Ev R p σ (aG .notin x y) (.ok (!dc a l)) (pD .bl p σ):=Ev.at (r:=fun v=>RV.val (Val.d (D.bl v))) fun sg hf=>by
 rw[m4]
 show(match (inD _ _ _).map not with | some b=>bp (.bl b) _ | none=>Res.stuck)=_
 rw[GN hx hy E hn hf];rfl
theorem yY{a b:List Nat}:Ev R p σ (aG .isin (.val (.d (.str a))) (.val (.d (.str b)))) (.ok (subIn a b)) (pD .bl p σ):=Ev.at (r:=fun v=>RV.val (Val.d (D.bl v))) fun sg hf=>rfl
theorem Cj{a b:List Nat}:Ev R p σ (aG .notin (.val (.d (.str a))) (.val (.d (.str b)))) (.ok (!subIn a b)) (pD .bl p σ):=Ev.at (r:=fun v=>RV.val (Val.d (D.bl v))) fun sg hf=>rfl
def cT(l:List T)(i:Int):M T:=match atI l i with | some a=>.ok a | none=>.bad
def fx(t:List Nat)(i:Int):M (List Nat):=(gd (decide (t.length≤sizeLine))).bind fun _=>match atI t i with | some c=>.ok [c] | none=>.bad
theorem gE{e:T→D}{l:List T}{k:Int}{x:RV}(h:Lv p σ x e l):Ev R p σ (bw x (.val (.d (.int k)))) (cT l k) (pD e p σ):=Ev.op (r:=fun v=>RV.val (Val.d (e v))) fun a h' sg hf=>by
 obtain⟨h1,h2,h3,h4⟩:=h sg hf
 unfold bw
 rw[h4]
 dsimp only
 split
 ·rename_i e' _;rw[A8,e']at h1;cases h1
 ·rename_i i e'' e'
  cases (show some (D.int k)=some (D.int i)from e'')
  rw[h1]
  dsimp only
  rw[yK,h'];rfl
 ·rename_i h5 h6
  exact absurd rfl (h5 k)
theorem nH{t:List Nat}{k:Int}:Ev R p σ (bw (.val (.d (.str t))) (.val (.d (.int k)))) (fx t k) (pD .str p σ):=fun sg hf=>by
 unfold fx
 by_cases h:t.length≤sizeLine
 ·rw[show decide (t.length≤sizeLine)=true from decide_eq_true h,Bn,M.aa,LU,if_pos h]
  cases atI t k with
  | some c=>exact⟨sg,rfl,hf⟩
  | none=>trivial
 ·rw[show decide (t.length≤sizeLine)=false from decide_eq_false h];trivial
theorem J9{l:List D}{k:Int}{a:T}{e:T→D}(h:atI l k=some (e a)):Ev R p σ (bw (.val (.d (.tup l))) (.val (.d (.int k)))) (.ok a) (pD e p σ):=Ev.at (r:=fun v=>RV.val (Val.d (e v))) fun sg hf=>by
 rw[Gj,h]
def bP(d:D)(i:Int):M D:=match d with
 | .tup l=>cT l i
 | .lst l=>cT l i
 | _=>.bad
theorem dB{d:D}{k:Int}:Ev R p σ (bw (.val (.d d)) (.val (.d (.int k)))) (bP d k) (pD eY p σ):=fun sg hf=>by
 cases d<;> try trivial
 ·rename_i l
  show Rn R _ (cT l k) _
  unfold cT
  rw[Gj]
  cases atI l k<;> first | trivial | exact⟨sg,rfl,hf⟩
 ·rename_i l
  show Rn R _ (cT l k) _
  unfold cT
  rw[Lw]
  cases atI l k<;> first | trivial | exact⟨sg,rfl,hf⟩
def ig(d:D):M (List Nat):=match d with | .str s=>.ok s | _=>.bad
def CV(d:D):M Int:=match d with | .int s=>.ok s | _=>.bad
def Nh(d:D):M (List D):=match d with | .lst l=>.ok l | _=>.bad
def qj(f:D→M T):List D→M (List T)
 | []=>.ok []
 | x::r=>(f x).bind fun a=>(qj f r).bind fun as=>.ok (a::as)
def zH(f:D→M T)(d:D):M (List T):=(Nh d).bind (qj f)
def Dec(f:D→M T)(e:T→D):Prop:=∀ d a,f d=.ok a→d=e a
def Br(f:D→M T):Prop:=∀ d x,f d≠ .exc x
theorem ir:Dec ig .str:=fun d a h=>by cases d<;> cases h;rfl
theorem Mf:Dec CV .int:=fun d a h=>by cases d<;> cases h;rfl
theorem jF:Br ig:=fun d x h=>by cases d<;> cases h
theorem Nq:Br CV:=fun d x h=>by cases d<;> cases h
theorem Df:Dec (fun d=>M.ok d) eY:=fun d a h=>by cases h;rfl
theorem FF:Br (fun d=>M.ok d):=fun d x h=>by cases h
theorem JG{f:D→M T}{e:T→D}(h:Dec f e):∀ (l:List D) (as:List T),qj f l=.ok as→l=as.map e
 | [],as,q=>by cases q;rfl
 | x::r,as,q=>by
  unfold qj at q
  cases hx:f x with
  | ok a=>
   rw[hx,M.aa]at q
   cases hr:qj f r with
   | ok bs=>rw[hr,M.aa]at q;cases q;rw[h x a hx,JG h r bs hr];rfl
   | exc x=>rw[hr]at q;cases q
   | bad=>rw[hr]at q;cases q
  | exc x=>rw[hx]at q;cases q
  | bad=>rw[hx]at q;cases q
theorem Ds{f:D→M T}{e:T→D}(h:Dec f e):Dec (zH f) (eL e):=fun d a q=>by
 cases d<;> try cases q
 exact congrArg D.lst (JG h _ _ q)
theorem Ng{f:D→M T}(h:Br f):∀ (l:List D) (x:Exn),qj f l≠ .exc x
 | [],x=>by intro q;cases q
 | d::r,x=>by
  intro q
  unfold qj at q
  cases hx:f d with
  | ok a=>
   rw[hx,M.aa]at q
   cases hr:qj f r with
   | ok bs=>rw[hr]at q;cases q
   | exc x=>exact Ng h r _ hr
   | bad=>rw[hr]at q;cases q
  | exc x=>exact h d _ hx
  | bad=>rw[hx]at q;cases q
theorem F3{f:D→M T}(h:Br f):Br (zH f):=fun d x q=>by
 cases d<;> try cases q
 exact Ng h _ _ q
theorem j7{f:State→Res RV}{m:M D}{dec:D→M T}{e:T→D}{P:Pt}{S:List Ob}(h:Ev R p σ f m (pD eY P S))(hd:Dec dec e)(hx:Br dec):Ev R p σ f (m.bind dec) (pD e P S):=fun sg hf=>by
 have:=h sg hf
 cases m with
 | ok d=>
  obtain⟨sg',e',hf'⟩:=this
  show Rn R _ (dec d) _
  cases hq:dec d with
  | ok a=>exact⟨sg',by rw[e',hd d a hq],hf'⟩
  | exc x=>exact absurd hq (hx d x)
  | bad=>trivial
 | exc x=>exact this
 | bad=>trivial
theorem toY{f:State→Res RV}{m:M T}{e:T→D}{P:Pt}{S:List Ob}(h:Ev R p σ f m (pD e P S)):Ev R p σ f (m.bind fun v=>.ok (e v)) (pD eY P S):=Ev.map e (pD eY P S) h fun v=>rfl
end
end Vw
namespace Vw
open PySem L2
section
variable{R:List Ob→Prop}{p p':Pt}{σ σ':List Ob}{α β γ T U W A B:Type}{i j n:Nat}
abbrev pB(p:Pt)(σ:List Ob):Bool→Bool×Pt×List Ob:=fun v=>(v,p,σ)
theorem tB{f:State→Res RV}{m:M T}{b:T→Bool}{P:T→Pt}{S:T→List Ob}(h:Ev R p σ (ev f) m (fun v=>(.val (.d (.bl (b v))),P v,S v))):Ev R p σ (aW f) m (fun v=>(b v,P v,S v)):=fun sg hf=>by
 have:=h sg hf
 cases m with
 | ok v=>obtain⟨sg',e,hf'⟩:=this;exact⟨sg',by rw[C7,e];rfl,hf'⟩
 | exc x=>obtain⟨s,e,r⟩:=this;exact⟨s,by rw[C7,e];rfl,r⟩
 | bad=>trivial
def andM(a b:M Bool):M Bool:=a.bind fun x=>if x=true then b else .ok false
def orM(a b:M Bool):M Bool:=a.bind fun x=>if x=true then .ok true else b
@[simp] theorem cR(x:Bool)(b:M Bool):andM (.ok x) b=if x=true then b else .ok false:=id rfl
@[simp] theorem d4(x:Bool)(b:M Bool):orM (.ok x) b=if x=true then .ok true else b:=id rfl
theorem Ax{x:Bool}{f g:State→Res α}{m1 m2:M T}{post:T→α×Pt×List Ob}(h1:x=true→Ev R p σ f m1 post)(h2:x=false→Ev R p σ g m2 post):Ev R p σ (fun s=>if x=true then f s else g s) (if x=true then m1 else m2) post:=by
 cases x with
 | true=>intro sg hf;exact h1 rfl sg hf
 | false=>intro sg hf;exact h2 rfl sg hf
theorem om{f g:State→Res Bool}{fs:List (State→Res Bool)}{m1 m2:M Bool}(h1:Ev R p σ f m1 (pB p σ))(h2:Ev R p σ (iL (g::fs)) m2 (pB p σ)):Ev R p σ (iL (f::g::fs)) (andM m1 m2) (pB p σ):=Ev.bind h1 fun x=>Ax (fun _=>h2) (fun _=>Ev.pure (r:=fun v:Bool=>v))
theorem nQ{f g:State→Res Bool}{fs:List (State→Res Bool)}{m1 m2:M Bool}(h1:Ev R p σ f m1 (pB p σ))(h2:Ev R p σ (jy (g::fs)) m2 (pB p σ)):Ev R p σ (jy (f::g::fs)) (orM m1 m2) (pB p σ):=Ev.bind h1 fun x=>Ax (fun _=>Ev.pure (r:=fun v:Bool=>v)) (fun _=>h2)
theorem lZ{f:State→Res Bool}{m1:M Bool}(h1:Ev R p σ f m1 (pB p σ)):Ev R p σ (iL [f]) m1 (pB p σ):=h1
theorem kM{f:State→Res Bool}{m1:M Bool}(h1:Ev R p σ f m1 (pB p σ)):Ev R p σ (jy [f]) m1 (pB p σ):=h1
theorem GK{f:State→Res Bool}{m:M T}{b:T→Bool}{P:T→Pt}{S:T→List Ob}(h:Ev R p σ f m (fun v=>(b v,P v,S v))):Ev R p σ (si f) m (fun v=>(!b v,P v,S v)):=fun sg hf=>by
 have:=h sg hf
 cases m with
 | ok v=>obtain⟨sg',e,hf'⟩:=this;exact⟨sg',by rw[GO,e];rfl,hf'⟩
 | exc x=>obtain⟨s,e,r⟩:=this;exact⟨s,by rw[GO,e];rfl,r⟩
 | bad=>trivial
theorem AA{f g:State→Res RV}{fs:List (State→Res RV)}{m1 m2:M Bool}(h1:Ev R p σ (ev f) m1 (pD .bl p σ))(h2:Ev R p σ (gU (g::fs)) m2 (pD .bl p σ)):Ev R p σ (gU (f::g::fs)) (andM m1 m2) (pD .bl p σ):=Ev.bind (tB (b:=fun v=>v) h1) fun x=>Ax (fun _=>h2) (fun _=>cD D.bl false)
theorem L9{f g:State→Res RV}{fs:List (State→Res RV)}{m1 m2:M Bool}(h1:Ev R p σ (ev f) m1 (pD .bl p σ))(h2:Ev R p σ (k9 (g::fs)) m2 (pD .bl p σ)):Ev R p σ (k9 (f::g::fs)) (orM m1 m2) (pD .bl p σ):=Ev.bind (tB (b:=fun v=>v) h1) fun x=>Ax (fun _=>cD D.bl true) (fun _=>h2)
theorem Ci{f:State→Res RV}{m1:M T}{post:T→RV×Pt×List Ob}(h1:Ev R p σ (ev f) m1 post):Ev R p σ (gU [f]) m1 post:=h1
theorem Kf{f:State→Res RV}{m1:M T}{post:T→RV×Pt×List Ob}(h1:Ev R p σ (ev f) m1 post):Ev R p σ (k9 [f]) m1 post:=h1
theorem ai:Ev R p σ (aE []) (.ok ()) (fun _=>(([]:List RV),p,σ)):=Ev.pure (r:=fun _=>([]:List RV))
theorem aF{f:State→Res RV}{fs:List (State→Res RV)}{m1:M A}{m2:A→M B}{r1:A→RV}{P1:A→Pt}{S1:A→List Ob}{rs:A→B→List RV}{P:A→B→Pt}{S:A→B→List Ob}(h1:Ev R p σ (ev f) m1 (fun v=>(r1 v,P1 v,S1 v)))(h2:∀ v,Ev R (P1 v) (S1 v) (aE fs) (m2 v) (fun w=>(rs v w,P v w,S v w))):Ev R p σ (aE (f::fs)) (m1.bind fun v=>(m2 v).bind fun w=>.ok (v,w)) (fun z=>(r1 z.1::rs z.1 z.2,P z.1 z.2,S z.1 z.2)):=
 Ev.bind h1 fun v=>Ev.bind (h2 v) fun w=>(Ev.pure (a:=(v,w)) (r:=fun z:A×B=>r1 z.1::rs z.1 z.2)).b6 rfl
inductive AllD:List RV→List Val→Prop
 | nil:AllD [] []
 | d {x:Val} {rs:List RV} {vs:List Val}:AllD rs vs→AllD (.val x::rs) (x::vs)
theorem AllD.d8{s:State}:∀ {rs:List RV} {vs:List Val},AllD rs vs→bE rs s=.ok vs s
 | _,_,.nil=>rfl
 | _,_,.d h=>by rw[Fh,wc,Res.aa,AllD.d8 h,Res.aa]
inductive Cap (σ:List Ob):Pt→List RV→List Val→Pt→Prop
 | nil {p:Pt}:Cap σ p [] [] p
 | d {p q:Pt} {x:Val} {rs:List RV} {vs:List Val}:Cap σ p rs vs q→Cap σ p (.val x::rs) (x::vs) q
 | o {p q:Pt} {i:Nat} {o:Ob} {d:D} {rs:List RV} {vs:List Val}:p[i]? =some (some (.own o))→o.toD=some d→Cap σ (p.set i (some (.v (.d d)))) rs vs q→Cap σ p (.own i::rs) (.d d::vs) q
theorem Cap.run{σ:List Ob}:∀ {p q:Pt} {rs:List RV} {vs:List Val},Cap σ p rs vs q→∀ sg,Fits p sg→∃ sg',bE rs ⟨sg,σ⟩=.ok vs ⟨sg',σ⟩∧Fits q sg'
 | _,_,_,_,.nil,sg,hf=>⟨sg,rfl,hf⟩
 | _,_,_,_,.d h,sg,hf=>by
  obtain⟨sg',e,hf'⟩:=Cap.run h sg hf
  exact⟨sg',by rw[Fh,wc,Res.aa,e,Res.aa],hf'⟩
 | _,_,_,_,.o h1 h2 h,sg,hf=>by
  obtain⟨sg',e,hf'⟩:=Cap.run h _ (hf.set _ _)
  refine⟨sg',?_,hf'⟩
  rw[Fh,K7,hf.2 _ _ h1]
  dsimp only
  rw[h2]
  dsimp only
  rw[Res.aa,e,Res.aa]
theorem bI{fs:List (State→Res RV)}{m:M A}{rs:A→List RV}{P:A→Pt}{S:A→List Ob}{vs:A→List Val}{Q:A→Pt}{ds:A→List D}(h:Ev R p σ (aE fs) m (fun v=>(rs v,P v,S v)))(hc:∀ v,Cap (S v) (P v) (rs v) (vs v) (Q v))(hd:∀ v,toDs (vs v)=some (ds v))(hl:∀ v,Nat.ble (vs v).length 1000=true):Ev R p σ (dz fs) m (fun v=>(.val (.d (.tup (ds v))),Q v,S v)):=fun sg hf=>by
 have:=h sg hf
 cases m with
 | ok v=>
  obtain⟨sg',e,hf'⟩:=this
  obtain⟨sg2,e2,hf2⟩:=(hc v).run sg' hf'
  refine⟨sg2,?_,hf2⟩
  rw[G0,e,Res.aa,JU]
  dsimp only
  rw[e2,Res.aa,if_pos (small _ (by have:=Nat.le_of_ble_eq_true (hl v);omega)),Ic,hd v]
 | exc x=>obtain⟨s,e,r⟩:=this;exact⟨s,by rw[G0,e];rfl,r⟩
 | bad=>trivial
theorem bH{fs:List (State→Res RV)}{m:M A}{rs:A→List RV}{P:A→Pt}{S:A→List Ob}{vs:A→List Val}{Q:A→Pt}{e:T→D}{l:A→List T}(h:Ev R p σ (aE fs) m (fun v=>(rs v,P v,S v)))(hc:∀ v,Cap (S v) (P v) (rs v) (vs v) (Q v))(hd:∀ v,vs v=(l v).map fun x=>.d (e x))(hl:∀ v,Nat.ble (vs v).length 1000=true):Ev R p σ (cN fs) m (fun v=>(.new (oL e (l v)),Q v,S v)):=fun sg hf=>by
 have:=h sg hf
 cases m with
 | ok v=>
  obtain⟨sg',e,hf'⟩:=this
  obtain⟨sg2,e2,hf2⟩:=(hc v).run sg' hf'
  refine⟨sg2,?_,hf2⟩
  rw[Gv,e,Res.aa,JK]
  dsimp only
  rw[e2,Res.aa,if_pos (small _ (by have:=Nat.le_of_ble_eq_true (hl v);omega)),hd v]
 | exc x=>obtain⟨s,e,r⟩:=this;exact⟨s,by rw[Gv,e];rfl,r⟩
 | bad=>trivial
theorem pn:Ev R p σ (l0 .no) (.ok ()) (fun _=>((none:Option Int),p,σ)):=Ev.pure (r:=fun _=>(none:Option Int))
theorem pe{f:State→Res RV}{m:M Int}(h:Ev R p σ (ev f) m (pD .int p σ)):Ev R p σ (l0 (.ex f)) m (fun v=>(some v,p,σ)):=fun sg hf=>by
 have:=h sg hf
 cases m with
 | ok v=>obtain⟨sg',e,hf'⟩:=this;exact⟨sg',by rw[GF,e];rfl,hf'⟩
 | exc x=>obtain⟨s,e,r⟩:=this;exact⟨s,by rw[GF,e];rfl,r⟩
 | bad=>trivial
theorem Fg{f:State→Res RV}{lo hi:Par}{m:M T}{rx:T→RV}{Px:T→Pt}{Sx:T→List Ob}{ml:M A}{mh:M B}{lo':A→Option Int}{hi':B→Option Int}{mk:T→Option Int→Option Int→M U}{post:U→RV×Pt×List Ob}(h:Ev R p σ (ev f) m (fun v=>(rx v,Px v,Sx v)))(hl:∀ x,Ev R (Px x) (Sx x) (l0 lo) ml (fun v=>(lo' v,(Px x),(Sx x))))(hh:∀ x,Ev R (Px x) (Sx x) (l0 hi) mh (fun v=>(hi' v,(Px x),(Sx x))))(hk:∀ x l h,Ev R (Px x) (Sx x) (wO (rx x) l h) (mk x l h) post):Ev R p σ (cJ f lo hi) (m.bind fun x=>ml.bind fun l=>mh.bind fun h=>mk x (lo' l) (hi' h)) post:=Ev.bind h fun x=>Ev.bind (hl x) fun l=>Ev.bind (hh x) fun k=>hk x (lo' l) (hi' k)
def bc(t:List Nat)(lo hi:Option Int):M (List Nat):=(gd (decide (t.length≤sizeLine))).bind fun _=>.ok (dg t lo hi)
theorem cn{t:List Nat}{lo hi:Option Int}:Ev R p σ (wO (.val (.d (.str t))) lo hi) (bc t lo hi) (pD .str p σ):=Ev.gd (r:=fun v=>RV.val (Val.d (D.str v))) fun h sg _=>by
 show(if t.length≤sizeLine then _ else _)=_
 rw[if_pos (of_decide_eq_true h)];rfl
theorem Jo{e:T→D}{l:List T}{r:RV}{lo hi:Option Int}(h:Lv p σ r e l):Ev R p σ (wO r lo hi) (.ok (dg l lo hi)) (MX e p σ):=Ev.at (r:=fun v=>RV.new (oL e v)) fun sg hf=>by
 obtain⟨h1,h2,h3,h4⟩:=h sg hf
 rw[MI]
 split
 ·rename_i e';rw[A8,e']at h1;cases h1
 ·rw[h1]
  dsimp only
  rw[FT]
theorem oa{fs:List (State→Res RV)}{b:List RV→State→Res RV}{m:M A}{rs:A→List RV}{P:A→Pt}{S:A→List Ob}{mk:A→M T}{post:T→RV×Pt×List Ob}(h:Ev R p σ (aE fs) m (fun v=>(rs v,P v,S v)))(hb:∀ v,Ev R (P v) (S v) (b (rs v)) (mk v) post):Ev R p σ (dW (aE fs) b) (m.bind mk) post:=Ev.bind h hb
def i9(t:List Nat):M Int:=(gd (decide (t.length≤sizeLine))).bind fun _=>.ok t.length
theorem ox{t:List Nat}:Ev R p σ (gF [.val (.d (.str t))]) (i9 t) (pD .int p σ):=Ev.gd (r:=fun v=>RV.val (Val.d (D.int v))) fun h sg _=>by
 show(if t.length≤sizeLine then _ else _)=_
 rw[if_pos (of_decide_eq_true h)];rfl
theorem Lv.sq{e:T→D}{l:List T}{r:RV}(h:Lv p σ r e l){sg:Slots}(hf:Fits p sg):Vw.sq ⟨sg,σ⟩ r=some (l.map fun x=>.d (e x)):=by rw[Oh,(h sg hf).1]
theorem oh{e:T→D}{l:List T}{r:RV}(h:Lv p σ r e l):Ev R p σ (gF [r]) (.ok (l.length:Int)) (pD .int p σ):=Ev.at (r:=fun v=>RV.val (Val.d (D.int v))) fun sg hf=>by
 have h1:=(h sg hf).1
 rw[Lu]
 split
 ·rename_i e';rw[A8,e']at h1;cases h1
 ·rw[h.sq hf];simp
theorem wC:∀ l:List Int,intsOf (l.map fun x=>.d (.int x))=some l
 | []=>rfl
 | x::r=>by simp[intsOf,wC r]
theorem LZ{l:List Int}{r:RV}(h:Lv p σ r .int l):Ev R p σ (DI [r]) (.ok l.sum) (pD .int p σ):=Ev.at (r:=fun v=>RV.val (Val.d (D.int v))) fun sg hf=>by
 show(match (lv _ r).bind intsOf with | some ns=>bp (.int ns.sum) _ | _=>Res.stuck)=_
 rw[(h sg hf).1,Option.bind_some,wC];rfl
def p9(i:Int):M (List Nat):=(gd (decide (i.natAbs.log2<1920))).bind fun _=>.ok (gN i)
theorem C1{a:Int}:Ev R p σ (uz [.val (.d (.int a))]) (p9 a) (pD .str p σ):=Ev.gd (r:=fun v=>RV.val (Val.d (D.str v))) fun h sg _=>by
 show(if a.natAbs.log2<1920 then _ else _)=_
 rw[if_pos (of_decide_eq_true h)];rfl
theorem xj{a:Bool}:Ev R p σ (ur [.val (.d (.bl a))]) (.ok (if a=true then 1 else 0)) (pD .int p σ):=Ev.at (r:=fun v=>RV.val (Val.d (D.int v))) fun sg _=>rfl
theorem wM{e:T→D}{l:List T}{r:RV}(h:Lv p σ r e l){sg:Slots}(hf:Fits p sg):jf ⟨sg,σ⟩ r=true:=by rw[Lz,(h sg hf).1];rfl
def iN(l:List T)(x:T):M (List T):=(gd (decide (l.length<sizeLine))).bind fun _=>.ok (l++[x])
theorem uA{e:T→D}{l:List T}{x:T}(h:p[i]? =some (some (.own (oL e l)))):Ev R p σ (bAppend (.own i) [.val (.d (e x))]) (iN l x) (fun v=>(.val (.d .non),p.set i (some (.own (oL e v))),σ)):=fun sg hf=>by
 unfold iN
 by_cases hl:l.length<sizeLine
 ·rw[show decide (l.length<sizeLine)=true from decide_eq_true hl,Bn,M.aa]
  refine⟨_,?_,hf.set i _⟩
  have h:=hf.2 _ _ h
  simp[h,hl,oL]
 ·rw[show decide (l.length<sizeLine)=false from decide_eq_false hl];trivial
def BX(l:List T):M (T×List T):=match l[l.length- 1]? with
  | some y=>.ok (y,l.dropLast)
  | none=>.bad
theorem LS{e:T→D}{l:List T}{S:List T→List Ob}(h:σ[n]? =some (oL e l))(hs:∀ l',σ.set n (oL e l')=S l'):Ev R p σ (yH (.val (.r n)) []) (BX l) (fun v=>(.val (.d (e v.1)),p,S v.2)):=fun sg hf=>by
 unfold BX
 cases h2:l[l.length- 1]? with
 | none=>trivial
 | some y=>
  refine⟨sg,?_,hf⟩
  dsimp only
  rw[←hs]
  simp[h,h2,List.map_dropLast,oL]
end
end Vw
namespace Vw
open PySem L2
def nox{T:Type}:M T→M T
 | .ok a=>.ok a
 | _=>.bad
@[simp] theorem cg{T:Type}(a:T):nox (.ok a)=.ok a:=id rfl
@[simp] theorem OI{T:Type}:nox (.bad:M T)=.bad:=id rfl
def fQ{T:Type}(R:List Ob→Prop)(g:Fn)(args:List Val)(σ:List Ob)(m:M T)(post:T→RV×List Ob):Prop:=
 match m with
 | .ok v=>g args σ=.ok (post v).1 ⟨[],(post v).2⟩
 | .exc x=>∃ s,g args σ=.exc x s∧R s.st
 | .bad=>True
section
variable{R R':List Ob→Prop}{p p':Pt}{σ σ':List Ob}{α β γ T U W A B C:Type}{i j n:Nat}
theorem fQ.up{g:Fn}{args:List Val}{m:M T}{post:T→RV×List Ob}(h:fQ R g args σ m post)(w:∀ s,R s→R' s):fQ R' g args σ m post:=by
 cases m with
 | ok v=>exact h
 | exc x=>obtain⟨s,e,r⟩:=h;exact⟨s,e,w _ r⟩
 | bad=>trivial
theorem hG{k:Nat}{fs:List (State→Res RV)}{g:Fn}{mA:M A}{rs:A→List RV}{P:A→Pt}{S:A→List Ob}{vs:A→List Val}{Q:A→Pt}{mg:A→M T}{pg:A→T→RV×List Ob}{post:T→RV×Pt×List Ob}(h:Ev R p σ (aE fs) mA (fun v=>(rs v,P v,S v)))(hc:∀ v,Cap (S v) (P v) (rs v) (vs v) (Q v))(hl:∀ v,(vs v).length=k)(hg:∀ v,fQ R' g (vs v) (S v) (mg v) (pg v))(hp:∀ v w,post w=((pg v w).1,Q v,(pg v w).2)):Ev R p σ (bF k (aE fs) g) (mA.bind fun v=>nox (mg v)) post:=by
 refine Ev.bind h fun v sg hf=>?_
 obtain⟨sg2,e2,hf2⟩:=(hc v).run sg hf
 have hg:=hg v
 show Rn R ((bE (rs v) ⟨sg,S v⟩).bind fun args s=>if args.length=k then ey g args s else .stuck) (nox (mg v)) post
 rw[e2,Res.aa,if_pos (hl v),Cr]
 cases hm:mg v with
 | ok w=>
  rw[hm]at hg
  rw[show g (vs v) (S v)=_ from hg,Bb]
  exact⟨sg2,by rw[hp v w],by rw[hp v w];exact hf2⟩
 | exc x=>trivial
 | bad=>trivial
def yX(p:Pt)(σ:List Ob)(x:Val)(c m:String):Prop:=∃ fl,(∀ sg,Fits p sg→xc ⟨sg,σ⟩ (.val x)=some (c,fl))∧fl.contains m=false
theorem bg{c m:String}{fs:List (String×Val)}(hσ:σ[n]? =some (.ins c fs))(h:(fs.map (·.1)).contains m=false):yX p σ (.r n) c m:=⟨_,fun sg hf=>by
 unfold xc
 simp[hσ],h⟩
theorem J1{c m:String}{k:Nat}{fo:State→Res RV}{fs:List (State→Res RV)}{g:Fn}{mo:M B}{xo:B→Val}{Po:B→Pt}{So:B→List Ob}{mA:B→M A}{rs:B→A→List RV}{P:B→A→Pt}{S:B→A→List Ob}{vs:B→A→List Val}{Q:B→A→Pt}{mg:B→A→M T}{pg:B→A→T→RV×List Ob}{post:T→RV×Pt×List Ob}(ho:Ev R p σ (ev fo) mo (fun b=>(.val (xo b),Po b,So b)))(hi:∀ b,yX (Po b) (So b) (xo b) c m)(h:∀ b,Ev R (Po b) (So b) (aE fs) (mA b) (fun v=>(rs b v,P b v,S b v)))(hc:∀ b v,Cap (S b v) (P b v) (rs b v) (vs b v) (Q b v))(hl:∀ b v,(vs b v).length+1=k)(hg:∀ b v,fQ R' g (xo b::vs b v) (S b v) (mg b v) (pg b v))(hp:∀ b v w,post w=((pg b v w).1,Q b v,(pg b v w).2)):Ev R p σ (bJ ey c m k fo (aE fs) g) (mo.bind fun b=>(mA b).bind fun v=>nox (mg b v)) post:=by
 refine Ev.bind ho fun b sg hf=>?_
 obtain⟨fl,hi,hfl⟩:=hi b
 dsimp only
 rw[hi sg hf]
 dsimp only
 rw[if_pos ⟨rfl,hfl⟩]
 refine Ev.bind (h b) (fun v sg hf=>?_) sg hf
 obtain⟨sg2,e2,hf2⟩:=(hc b v).run sg hf
 have hg:=hg b v
 show Rn R ((bE (rs b v) ⟨sg,S b v⟩).bind fun args s=>if args.length+1=k then ey g (xo b::args) s else .stuck) (nox (mg b v)) post
 rw[e2,Res.aa,if_pos (hl b v),Cr]
 cases hm:mg b v with
 | ok w=>
  rw[hm]at hg
  rw[show g (xo b::vs b v) (S b v)=_ from hg,Bb]
  exact⟨sg2,by rw[hp b v w],by rw[hp b v w];exact hf2⟩
 | exc x=>trivial
 | bad=>trivial
theorem Er{c m:String}{k:Nat}{fo:State→Res RV}{fs:List (State→Res RV)}{g:Fn}{mo:M B}{xo:B→Val}{Po:B→Pt}{So:B→List Ob}{mA:B→M A}{rs:B→A→List RV}{P:B→A→Pt}{S:B→A→List Ob}{vs:B→A→List Val}{Q:B→A→Pt}{mg:B→A→M T}{pg:B→A→T→RV×List Ob}{post:T→RV×Pt×List Ob}(ho:Ev R p σ (ev fo) mo (fun b=>(.val (xo b),Po b,So b)))(hi:∀ b,yX (Po b) (So b) (xo b) c m)(h:∀ b,Ev R (Po b) (So b) (aE fs) (mA b) (fun v=>(rs b v,P b v,S b v)))(hc:∀ b v,Cap (S b v) (P b v) (rs b v) (vs b v) (Q b v))(hl:∀ b v,(vs b v).length+1=k)(hg:∀ b v,fQ R g (xo b::vs b v) (S b v) (mg b v) (pg b v))(hp:∀ b v w,post w=((pg b v w).1,Q b v,(pg b v w).2)):Ev R p σ (bJ bK c m k fo (aE fs) g) (mo.bind fun b=>(mA b).bind fun v=>mg b v) post:=by
 refine Ev.bind ho fun b sg hf=>?_
 obtain⟨fl,hi,hfl⟩:=hi b
 dsimp only
 rw[hi sg hf]
 dsimp only
 rw[if_pos ⟨rfl,hfl⟩]
 refine Ev.bind (h b) (fun v sg hf=>?_) sg hf
 obtain⟨sg2,e2,hf2⟩:=(hc b v).run sg hf
 have hg:=hg b v
 show Rn R ((bE (rs b v) ⟨sg,S b v⟩).bind fun args s=>if args.length+1=k then bK g (xo b::args) s else .stuck) (mg b v) post
 rw[e2,Res.aa,if_pos (hl b v)]
 show Rn R (match g (xo b::vs b v) (S b v)with | .ok r s2=>.ok r ⟨sg2,s2.st⟩ | .exc x s2=>.exc x ⟨sg2,s2.st⟩ | .stuck=>.stuck) (mg b v) post
 cases hm:mg b v with
 | ok w=>
  rw[hm]at hg
  rw[show g (xo b::vs b v) (S b v)=_ from hg]
  exact⟨sg2,by rw[hp b v w],by rw[hp b v w];exact hf2⟩
 | exc x=>
  rw[hm]at hg
  obtain⟨s,e,r⟩:=hg
  rw[e]
  exact⟨_,rfl,r⟩
 | bad=>trivial
abbrev pS(E:T→Val)(p:Pt)(σ:List Ob):List T→List Val×Pt×List Ob:=fun l=>(l.map E,p,σ)
def rq(l:List T):List (Int×T):=l.mapIdx fun i x=>((i:Int),x)
theorem Fq{f:State→Res RV}{m:M (List T)}{e:T→D}{P:Pt}{S:List Ob}(h:Ev R p σ (ev f) m (pD (eL e) P S)):Ev R p σ (sD f itemsOf) m (pS (fun x=>.d (e x)) P S):=fun sg hf=>by
 have:=h sg hf
 cases m with
 | ok v=>obtain⟨sg',e1,hf'⟩:=this;exact⟨sg',by rw[BL,e1,Res.aa];simp[Function.comp_def],hf'⟩
 | exc x=>obtain⟨s,e,r⟩:=this;exact⟨s,by rw[BL,e];rfl,r⟩
 | bad=>trivial
theorem Fy{sg:Slots}{st:List Ob}{o:Ob}{d:D}(h:sg[i]? =some (some (.own o)))(hd:o.toD=some d):nR (.own i) ⟨sg,st⟩=.ok d ⟨sg.set i (some (.v (.d d))),st⟩:=by
 rw[EG,K7,h]
 dsimp only
 rw[hd]
theorem Hc{l:List T}{e:T→D}(h:p[i]? =some (some (.own (oL e l)))):Ev R p σ (sD (ab i) itemsOf) (.ok l) (pS (fun x=>.d (e x)) (p.set i (some (.v (.d (eL e l))))) σ):=fun sg hf=>by
 refine⟨_,?_,hf.set i _⟩
 have h:=hf.2 _ _ h
 rw[BL,pk,pM,h]
 dsimp only
 rw[Res.aa,NN,Res.aa,Fy h (bS e l),Res.aa]
 simp[Function.comp_def]
theorem JS{f:State→Res RV}{m:M (List T)}{e:T→D}{P:Pt}{S:List Ob}(h:Ev R p σ (ev f) m (pD (eL e) P S)):Ev R p σ (sD f o8) (m.bind fun l=>.ok (rq l)) (pS (fun x=>.d (jK .int e x)) P S):=fun sg hf=>by
 have:=h sg hf
 cases m with
 | ok v=>
  obtain⟨sg',e1,hf'⟩:=this
  refine⟨sg',?_,hf'⟩
  rw[BL,e1,Res.aa]
  simp only[EG,wc,Res.aa,Kk]
  congr 1
  unfold rq
  apply List.ext_getElem?
  intro i
  simp only[List.getElem?_mapIdx,List.getElem?_map]
  cases v[i]? <;> rfl
 | exc x=>obtain⟨s,e,r⟩:=this;exact⟨s,by rw[BL,e];rfl,r⟩
 | bad=>trivial
end
end Vw
namespace Vw
open PySem L2
section
variable{R R':List Ob→Prop}{p p':Pt}{σ σ':List Ob}{α β γ T U W A B C:Type}{i j n:Nat}
def j3(lo hi:Int):M (List Int):=(gd (decide (-(2^62)≤lo∧lo<2^62∧ -(2^62)≤hi∧hi<2^62))).bind fun _=>.ok ((List.range (hi-lo).toNat).map fun(i:Nat)=>lo+(i:Int))
theorem EE{lo hi:Int}:Ev R p σ (pU lo hi) (j3 lo hi) (pS (fun x=>.d (.int x)) p σ):=fun sg hf=>by
 unfold j3 pU
 by_cases h: -(2^62)≤lo∧lo<2^62∧ -(2^62)≤hi∧hi<2^62
 ·rw[decide_eq_true h,Bn,M.aa,if_pos h]
  exact⟨sg,by simp[Function.comp_def],hf⟩
 ·rw[decide_eq_false h];trivial
theorem IT{fs:List (State→Res RV)}{b:List RV→State→Res (List Val)}{m:M A}{rs:A→List RV}{P:A→Pt}{S:A→List Ob}{mk:A→M T}{post:T→List Val×Pt×List Ob}(h:Ev R p σ (aE fs) m (fun v=>(rs v,P v,S v)))(hb:∀ v,Ev R (P v) (S v) (b (rs v)) (mk v) post):Ev R p σ (kX (aE fs) b) (m.bind mk) post:=Ev.bind h hb
theorem yO{a:Int}:Ev R p σ (mW [.val (.d (.int a))]) (j3 0 a) (pS (fun x=>.d (.int x)) p σ):=EE
theorem Jb{a b:Int}:Ev R p σ (uQ [.val (.d (.int a)),.val (.d (.int b))]) (j3 a b) (pS (fun x=>.d (.int x)) p σ):=EE
def vB(p:Pt)(t:Tg)(v:Val)(q:Pt):Prop:=∀ sg σ,Fits p sg→∃ sg',ji t v ⟨sg,σ⟩=some ⟨sg',σ⟩∧Fits q sg'
def DQ(p:Pt)(t:List Tg)(v:List Val)(q:Pt):Prop:=∀ sg σ,Fits p sg→∃ sg',n6 t v ⟨sg,σ⟩=some ⟨sg',σ⟩∧Fits q sg'
theorem jD{v:Val}:vB p (.nm i) v (p.set i (some (.v v))):=fun sg σ hf=>⟨_,rfl,hf.set i _⟩
theorem Fc{ts:List Tg}{l:List D}{vs:List Val}{q:Pt}(hv:vs=l.map .d)(hl:l.length=ts.length)(h:DQ p ts vs q):vB p (.tp ts) (.d (.tup l)) q:=fun sg σ hf=>by
 obtain⟨sg',e,hf'⟩:=h sg σ hf
 refine⟨sg',?_,hf'⟩
 subst hv
 rw[HR,L5]
 dsimp only
 rw[if_pos (by simpa using hl)]
 exact e
theorem Du:DQ p [] [] p:=fun sg σ hf=>⟨sg,rfl,hf⟩
theorem uT{t:Tg}{ts:List Tg}{v:Val}{vs:List Val}{q q':Pt}(h1:vB p t v q)(h2:DQ q ts vs q'):DQ p (t::ts) (v::vs) q':=fun sg σ hf=>by
 obtain⟨sg1,e1,hf1⟩:=h1 sg σ hf
 obtain⟨sg2,e2,hf2⟩:=h2 sg1 σ hf1
 exact⟨sg2,by rw[IF,e1];exact e2,hf2⟩
def oj(mt:T→M Bool)(me:T→M U):List U→List T→M (List U)
 | acc,[]=>.ok acc
 | acc,x::l=>(mt x).bind fun b=>if b=true then(me x).bind fun y=>(gd (decide (acc.length<sizeLine))).bind fun _=>oj mt me (acc++[y]) l else oj mt me acc l
def kr(mt:T→M Bool)(me:T→M U)(l:List T):M (List U):=nox (oj mt me [] l)
theorem qi{f:State→Res RV}{m:M T}{e:T→D}{P:T→Pt}{S:T→List Ob}(h:Ev R p σ f m (fun v=>(.val (.d (e v)),P v,S v))):Ev R p σ (fun s=>(f s).bind d8) m (fun v=>(Val.d (e v),P v,S v)):=fun sg hf=>by
 have:=h sg hf
 cases m with
 | ok v=>obtain⟨sg',e,hf'⟩:=this;exact⟨sg',by show(f _).bind d8=_;rw[e];rfl,hf'⟩
 | exc x=>obtain⟨s,e,r⟩:=this;exact⟨s,by show(f _).bind d8=_;rw[e];rfl,r⟩
 | bad=>trivial
def ka(mt:T→C→M Bool)(me:T→C→M (U×C)):List U→List T→C→M (List U×C)
 | acc,[],c=>.ok (acc,c)
 | acc,x::l,c=>(mt x c).bind fun b=>if b=true then(me x c).bind fun y=>(gd (decide (acc.length<sizeLine))).bind fun _=>ka mt me (acc++[y.1]) l y.2 else ka mt me acc l c
def kL(mt:T→C→M Bool)(me:T→C→M (U×C))(l:List T)(c:C):M (List U×C):=nox (ka mt me [] l c)
theorem yh{vs:List Nat}{t:Tg}{ft:State→Res Bool}{fe:State→Res RV}{E:T→Val}{e:U→D}{S:C→List Ob}{mt:T→C→M Bool}{me:T→C→M (U×C)}{p2 p3:T→Pt}(hv:(vs.all fun v=>(p.getD v none).isNone)=true)
  (hb:∀ x c,vB p t (E x) (p2 x)∧Ev R (p2 x) (S c) ft (mt x c) (fun b=>(b,p2 x,S c))∧Ev R (p2 x) (S c) (fun s=>(fe s).bind d8) (me x c) (fun y=>(.d (e y.1),p3 x,S y.2))) (hw2:∀ x,gZ p (p2 x)) (hw3:∀ x,gZ p (p3 x)):
  ∀ (l:List T) (acc:List U) (c:C) (sg:Slots),Fits p sg→match ka mt me acc l c with
   | .ok r=>∃ sg',sL vs t ft fe (l.map E) (acc.map fun x=>.d (e x)) ⟨sg,S c⟩=.ok (r.1.map fun x=>.d (e x)) ⟨sg',S r.2⟩∧Fits p sg'
   | _=>True
 | [],acc,c,sg,hf=>⟨sg,rfl,hf⟩
 | x::l,acc,c,sg,hf=>by
  obtain⟨h1,h2,h3⟩:=hb x c
  have ew:fE vs ⟨sg,S c⟩=⟨jB sg vs,S c⟩:=rfl
  obtain⟨sg1,e1,f1⟩:=h1 _ (S c) (hf.wipe vs hv)
  have h2:=h2 sg1 f1
  unfold ka
  rw[List.map_cons]
  have step:sL vs t ft fe (E x::l.map E) (acc.map fun x=>.d (e x)) ⟨sg,S c⟩=(match ft ⟨sg1,S c⟩with
   | .ok true s=>match fe s with
    | .ok rv s=>match d8 rv s with
     | .ok y s=>if(acc.map fun x=>Val.d (e x)).length<sizeLine then sL vs t ft fe (l.map E) ((acc.map fun x=>Val.d (e x))++[y]) (fE vs s)else .stuck
     | _=>.stuck
    | _=>.stuck
   | .ok false s=>sL vs t ft fe (l.map E) (acc.map fun x=>.d (e x)) (fE vs s)
   | _=>.stuck):=by
   show(match ji t (E x) (fE vs ⟨sg,S c⟩)with | none=>Res.stuck | some s=>_)=_
   rw[ew,e1]
   try rfl
  rw[step]
  cases hm:mt x c with
  | ok b=>
   rw[hm]at h2
   obtain⟨sg2,e2,f2⟩:=h2
   rw[M.aa,e2]
   cases b with
   | true=>
    have h3:=h3 sg2 f2
    rw[if_pos rfl]
    cases hy:me x c with
    | ok y=>
     rw[hy]at h3
     obtain⟨sg3,e3,f3⟩:=h3
     rw[M.aa]
     by_cases ha:acc.length<sizeLine
     ·rw[decide_eq_true ha,Bn,M.aa]
      have e3:(fe ⟨sg2,S c⟩).bind d8=.ok (.d (e y.1)) ⟨sg3,S y.2⟩:=e3
      cases hfe:fe ⟨sg2,S c⟩with
      | ok rv s=>
       rw[hfe,Res.aa]at e3
       dsimp only
       rw[hfe]
       dsimp only
       rw[e3]
       dsimp only
       rw[if_pos (by simpa using ha)]
       have ih:=yh hv hb hw2 hw3 l (acc++[y.1]) y.2 (jB sg3 vs) ((f3.weak (hw3 x)).wipe vs hv)
       rw[List.map_append]at ih
       exact ih
      | exc z s=>rw[hfe]at e3;cases e3
      | stuck=>rw[hfe]at e3;cases e3
     ·rw[decide_eq_false ha];trivial
    | exc z=>trivial
    | bad=>trivial
   | false=>
    rw[if_neg (by simp)]
    dsimp only
    exact yh hv hb hw2 hw3 l acc c (jB sg2 vs) ((f2.weak (hw2 x)).wipe vs hv)
  | exc z=>trivial
  | bad=>trivial
theorem wX{vs:List Nat}{t:Tg}{src:State→Res (List Val)}{ft:State→Res Bool}{fe:State→Res RV}{ml:M A}{lA:A→List T}{E:T→Val}{q:Pt}{e:U→D}{S:C→List Ob}{cA:A→C}{mt:T→C→M Bool}{me:T→C→M (U×C)}{p2 p3:T→Pt}(hs:Ev R p σ src ml (fun a=>((lA a).map E,q,S (cA a))))(hv:(vs.all fun v=>(q.getD v none).isNone)=true)
  (hb:∀ x c,vB q t (E x) (p2 x)∧Ev R (p2 x) (S c) ft (mt x c) (fun b=>(b,p2 x,S c))∧Ev R (p2 x) (S c) (fun s=>(fe s).bind d8) (me x c) (fun y=>(.d (e y.1),p3 x,S y.2))) (hw2:∀ x,gZ q (p2 x)) (hw3:∀ x,gZ q (p3 x)):
  Ev R p σ (lS vs t src ft fe) (ml.bind fun a=>kL mt me (lA a) (cA a)) (fun r=>(.new (oL e r.1),q,S r.2)):=Ev.bind hs fun a sg hf=>by
 have:=yh (R:=R) (fe:=fe) (ft:=ft) (me:=me) (mt:=mt) hv hb hw2 hw3 (lA a) [] (cA a) (jB sg vs) (hf.wipe vs hv)
 unfold kL
 cases hc:ka mt me [] (lA a) (cA a)with
 | ok r=>
  rw[hc]at this
  obtain⟨sg',e1,f1⟩:=this
  refine⟨sg',?_,f1⟩
  have e1:sL vs t ft fe ((lA a).map E) [] (fE vs ⟨sg,S (cA a)⟩)=_:=e1
  show(sL vs t ft fe ((lA a).map E) [] (fE vs ⟨sg,S (cA a)⟩)).bind DV=_
  rw[e1];rfl
 | exc x=>trivial
 | bad=>trivial
theorem yG(mt:T→M Bool)(me:T→M U):∀ (l:List T) (acc:List U),ka (C:=Unit) (fun x _=>mt x) (fun x _=>(me x).bind fun y=>.ok (y,())) acc l ()=(oj mt me acc l).bind fun r=>.ok (r,())
 | [],acc=>rfl
 | x::l,acc=>by
  unfold ka oj
  cases mt x with
  | ok b=>
   cases b with
   | true=>
    simp only[M.aa,if_pos]
    cases me x with
    | ok y=>
     simp only[M.aa]
     cases decide (acc.length<sizeLine)with
     | true=>simp only[Bn,M.aa];exact yG mt me l _
     | false=>rfl
    | exc z=>rfl
    | bad=>rfl
   | false=>
    simp only[M.aa]
    exact yG mt me l acc
  | exc z=>rfl
  | bad=>rfl
theorem Ap{vs:List Nat}{t:Tg}{src:State→Res (List Val)}{ft:State→Res Bool}{fe:State→Res RV}{ml:M (List T)}{E:T→Val}{q:Pt}{τ:List Ob}{e:U→D}{mt:T→M Bool}{me:T→M U}{p2 p3:T→Pt}(hs:Ev R p σ src ml (fun l=>(l.map E,q,τ)))(hv:(vs.all fun v=>(q.getD v none).isNone)=true)
  (hb:∀ x,vB q t (E x) (p2 x)∧Ev R (p2 x) τ ft (mt x) (fun b=>(b,p2 x,τ))∧Ev R (p2 x) τ (fun s=>(fe s).bind d8) (me x) (fun y=>(.d (e y),p3 x,τ))) (hw2:∀ x,gZ q (p2 x)) (hw3:∀ x,gZ q (p3 x)):
  Ev R p σ (lS vs t src ft fe) (ml.bind fun l=>kr mt me l) (fun r=>(.new (oL e r),q,τ)):=by
 have h:=wX (R:=R) (C:=Unit) (S:=fun _=>τ) (cA:=fun _=>()) (lA:=fun l=>l) (mt:=fun x _=>mt x) (me:=fun x _=>(me x).bind fun y=>.ok (y,())) (e:=e) (p3:=p3) hs hv (fun x c=>⟨(hb x).1,(hb x).2.1,Ev.map (fun y=>(y,())) _ (hb x).2.2 fun v=>rfl⟩) hw2 hw3
 intro sg hf
 have h:=h sg hf
 cases ml with
 | ok l=>
  show Rn R _ (kr mt me l) _
  have h:Rn R _ (kL (C:=Unit) (fun x _=>mt x) (fun x _=>(me x).bind fun y=>.ok (y,())) l ()) _:=h
  unfold kL at h
  unfold kr
  rw[yG]at h
  revert h
  cases oj mt me [] l<;> intro h<;> exact h
 | exc x=>exact h
 | bad=>trivial
theorem kH:Ev R p σ kS (.ok true) (pB p σ):=Ev.pure (r:=fun v:Bool=>v)
end
end Vw
namespace Vw
open PySem L2
@[simp] theorem M.bind_pure{α:Type}(m:M α):(m.bind fun v=>.ok v)=m:=by cases m<;> rfl
inductive OutS where
 | nx (p:Pt) (σ:List Ob)
 | go (p:Pt) (σ:List Ob)
 | brk (p:Pt) (σ:List Ob)
 | ret (rv:RV) (σ:List Ob)
def G6(r:Res Fl):OutS→Prop
 | .nx p σ=>∃ sg,r=.ok .nx ⟨sg,σ⟩∧Fits p sg
 | .go p σ=>∃ sg,(r=.ok .nx ⟨sg,σ⟩∨r=.ok .cnt ⟨sg,σ⟩)∧Fits p sg
 | .brk p σ=>∃ sg,r=.ok .brk ⟨sg,σ⟩∧Fits p sg
 | .ret rv σ=>∃ r0 sg,r=.ok (.ret r0) ⟨sg,σ⟩∧o3 ⟨sg,σ⟩ r0=some rv
def Sg{T:Type}(w:Bool)(R:List Ob→Prop)(p:Pt)(σ:List Ob)(b:State→Res Fl)(m:M T)(post:T→OutS):Prop:=∀ sg,Fits p sg→match m with
 | .ok v=>G6 (b ⟨sg,σ⟩) (post v)∧(w=true→∀ s,b ⟨sg,σ⟩≠ .ok .nx s)
 | .exc x=>∃ s,b ⟨sg,σ⟩=.exc x s∧R s.st
 | .bad=>True
inductive Lp (C Q:Type) where
 | go (c:C)
 | brk (c:C)
 | ret (q:Q)
def foldM{C T:Type}(f:C→T→M C):C→List T→M C
 | c,[]=>.ok c
 | c,x::l=>(f c x).bind fun c=>foldM f c l
def G8{C T Q:Type}(f:C→T→M (Lp C Q)):C→List T→M (C ⊕ Q)
 | c,[]=>.ok (.inl c)
 | c,x::l=>(f c x).bind fun o=>match o with
  | .go c=>G8 f c l
  | .brk c=>.ok (.inl c)
  | .ret q=>.ok (.inr q)
def lq{C:Type}(t:C→M Bool)(f:C→M C):Nat→C→M C
 | 0,_=>.bad
 | n+1,c=>(t c).bind fun b=>if b=true then(f c).bind fun c=>lq t f n c else .ok c
@[simp] theorem Nc{C T:Type}(f:C→T→M C)(c:C):foldM f c []=.ok c:=id rfl
@[simp] theorem kj{C T:Type}(f:C→T→M C)(c:C)(x:T)(l:List T):foldM f c (x::l)=(f c x).bind fun c=>foldM f c l:=id rfl
@[simp] theorem M6{C T Q:Type}(f:C→T→M (Lp C Q))(c:C):G8 f c []=.ok (.inl c):=id rfl
def wI{C Q U:Type}(k:C→M U)(ι:Q→U):C ⊕ Q→M U
 | .inl c=>k c
 | .inr q=>.ok (ι q)
@[simp] theorem IL{C Q U:Type}(k:C→M U)(ι:Q→U)(c:C):wI k ι (.inl c)=k c:=id rfl
@[simp] theorem JN{C Q U:Type}(k:C→M U)(ι:Q→U)(q:Q):wI k ι (.inr q)=.ok (ι q):=id rfl
section
variable{R R':List Ob→Prop}{p p' q:Pt}{σ σ':List Ob}{α β γ T U W A B C Q:Type}{i j n:Nat}{w:Bool}
theorem iu{v:T}{post:T→OutS}(hp:post v=.nx p' σ)(hw:gZ p' p):Sg false R p σ (ao []) (.ok v) post:=fun sg hf=>⟨by rw[hp];exact⟨sg,rfl,hf.weak hw⟩,fun h=>by cases h⟩
theorem qk{v:T}{post:T→OutS}(hp:post v=.go p' σ)(hw:gZ p' p):Sg false R p σ (ao []) (.ok v) post:=fun sg hf=>⟨by rw[hp];exact⟨sg,.inl rfl,hf.weak hw⟩,fun h=>by cases h⟩
theorem qh{s:State→Res Fl}{rest:List (State→Res Fl)}{m:M A}{P:A→Pt}{S:A→List Ob}{k:A→M T}{post:T→OutS}(hs:Ev R p σ s m (fun v=>(.nx,P v,S v)))(hr:∀ v,Sg w R (P v) (S v) (ao rest) (k v) post):Sg w R p σ (ao (s::rest)) (m.bind k) post:=fun sg hf=>by
 have:=hs sg hf
 cases m with
 | ok v=>
  obtain⟨sg',e,f⟩:=this
  have h2:=hr v sg' f
  rw[M.aa,t8 e]
  exact h2
 | exc x=>
  obtain⟨s',e,r⟩:=this
  exact⟨s',by rw[lR,e,BJ],r⟩
 | bad=>trivial
theorem EY{r:Res Fl}{k:State→Res Fl}(h:∀ s,r≠ .ok .nx s):pb r k=r:=by
 cases r with
 | ok f s=>
  cases f with
  | nx=>exact absurd rfl (h s)
  | ret r=>rfl
  | brk=>rfl
  | cnt=>rfl
 | exc x s=>rfl
 | stuck=>rfl
theorem aV{s:State→Res Fl}{rest:List (State→Res Fl)}{m:M T}{post:T→OutS}(hs:Sg true R p σ s m post):Sg w R p σ (ao (s::rest)) m post:=fun sg hf=>by
 have:=hs sg hf
 cases m with
 | ok v=>
  have h2:=this.2 rfl
  rw[lR,EY h2]
  exact⟨this.1,fun _=>h2⟩
 | exc x=>
  obtain⟨s',e,r⟩:=this
  exact⟨s',by rw[lR,e,BJ],r⟩
 | bad=>trivial
theorem Sg.weak{b:State→Res Fl}{m:M T}{post:T→OutS}(h:Sg true R p σ b m post):Sg w R p σ b m post:=fun sg hf=>by
 have:=h sg hf
 cases m with
 | ok v=>exact⟨this.1,fun _=>this.2 rfl⟩
 | exc x=>exact this
 | bad=>trivial
theorem fm{f:State→Res RV}{m:M A}{x:A→Val}{P:A→Pt}{S:A→List Ob}{φ:A→T}{post:T→OutS}(h:Ev R p σ f m (fun v=>(.val (x v),P v,S v)))(hp:∀ v,post (φ v)=.ret (.val (x v)) (S v)):Sg true R p σ (bq f) (m.bind fun v=>.ok (φ v)) post:=fun sg hf=>by
 have:=h sg hf
 cases m with
 | ok v=>
  obtain⟨sg',e,f⟩:=this
  refine⟨?_,fun _ s h=>?_⟩
  ·rw[hp]
   exact⟨.val (x v),sg',by rw[n4,e];rfl,rfl⟩
  ·rw[n4,e]at h
   cases h
 | exc x=>
  obtain⟨s',e,r⟩:=this
  exact⟨s',by rw[n4,e];rfl,r⟩
 | bad=>trivial
theorem Nb{f:State→Res RV}{m:M A}{x:A→Ob}{P:A→Pt}{S:A→List Ob}{φ:A→T}{post:T→OutS}(h:Ev R p σ f m (fun v=>(.new (x v),P v,S v)))(hp:∀ v,post (φ v)=.ret (.new (x v)) (S v)):Sg true R p σ (bq f) (m.bind fun v=>.ok (φ v)) post:=fun sg hf=>by
 have:=h sg hf
 cases m with
 | ok v=>
  obtain⟨sg',e,f⟩:=this
  refine⟨?_,fun _ s h=>?_⟩
  ·rw[hp]
   exact⟨.new (x v),sg',by rw[n4,e];rfl,rfl⟩
  ·rw[n4,e]at h
   cases h
 | exc x=>
  obtain⟨s',e,r⟩:=this
  exact⟨s',by rw[n4,e];rfl,r⟩
 | bad=>trivial
theorem Pk{o:Ob}{a:T}{post:T→OutS}(h:p[i]? =some (some (.own o)))(hp:post a=.ret (.new o) σ):Sg true R p σ (bq (ab i)) (.ok a) post:=fun sg hf=>by
 have h:=hf.2 _ _ h
 refine⟨?_,fun _ s h'=>?_⟩
 ·rw[hp]
  exact⟨.own i,sg,by rw[n4,pM,h];rfl,by rw[Ks,h]⟩
 ·rw[n4,pM,h]at h'
  cases h'
theorem Ip{c:String}{post:T→OutS}(hr:R σ):Sg true R p σ (tJ c) (.exc ⟨c,none⟩) post:=fun sg hf=>⟨_,rfl,hr⟩
theorem A3{as bs:List (State→Res Fl)}{s:State}:pb (ao as s) (ao bs)=ao (as++bs) s:=by
 induction as generalizing s with
 | nil=>rfl
 | cons a as ih=>
  rw[List.cons_append,lR,lR]
  cases a s with
  | ok f s'=>
   cases f with
   | nx=>rw[uX,uX];exact ih
   | ret r=>rfl
   | brk=>rfl
   | cnt=>rfl
  | exc x s'=>rfl
  | stuck=>rfl
theorem gu{t:State→Res Bool}{As Bs rest:List (State→Res Fl)}{mt:M A}{b:A→Bool}{P:A→Pt}{S:A→List Ob}{mA mB:A→M T}{post:T→OutS}(ht:Ev R p σ t mt (fun v=>(b v,P v,S v)))(hA:∀ v,Sg w R (P v) (S v) (ao (As++rest)) (mA v) post)(hB:∀ v,Sg w R (P v) (S v) (ao (Bs++rest)) (mB v) post):Sg w R p σ (ao (cc t (ao As) (ao Bs)::rest)) (mt.bind fun v=>if b v=true then mA v else mB v) post:=fun sg hf=>by
 have:=ht sg hf
 cases mt with
 | ok v=>
  obtain⟨sg',e,f⟩:=this
  rw[M.aa,lR,BR,e,Res.aa]
  dsimp only
  by_cases hb:b v=true
  ·have h2:=hA v sg' f
   simp only[if_pos hb,A3]
   exact h2
  ·have h2:=hB v sg' f
   simp only[if_neg hb,A3]
   exact h2
 | exc x=>
  obtain⟨s',e,r⟩:=this
  exact⟨s',by rw[lR,BR,e];rfl,r⟩
 | bad=>trivial
theorem uE{t:State→Res Bool}{As Bs rest:List (State→Res Fl)}{mt:M A}{b:A→Bool}{P:A→Pt}{S:A→List Ob}{mA mB:A→M C}{Pc:C→Pt}{Sc:C→List Ob}{k:C→M T}{post:T→OutS}(ht:Ev R p σ t mt (fun v=>(b v,P v,S v)))(hA:∀ v,Sg false R (P v) (S v) (ao As) (mA v) (fun c=>.nx (Pc c) (Sc c)))(hB:∀ v,Sg false R (P v) (S v) (ao Bs) (mB v) (fun c=>.nx (Pc c) (Sc c)))(hr:∀ c,Sg w R (Pc c) (Sc c) (ao rest) (k c) post):Sg w R p σ (ao (cc t (ao As) (ao Bs)::rest)) ((mt.bind fun v=>if b v=true then mA v else mB v).bind k) post:=by
 refine qh (P:=Pc) (S:=Sc) (fun sg hf=>?_) hr
 have:=ht sg hf
 cases mt with
 | ok v=>
  obtain⟨sg',e,f⟩:=this
  rw[M.aa,BR,e,Res.aa]
  dsimp only
  by_cases hb:b v=true
  ·have h2:=hA v sg' f
   simp only[if_pos hb]
   cases hm:mA v with
   | ok c=>rw[hm]at h2;exact h2.1
   | exc x=>rw[hm]at h2;exact h2
   | bad=>trivial
  ·have h2:=hB v sg' f
   simp only[if_neg hb]
   cases hm:mB v with
   | ok c=>rw[hm]at h2;exact h2.1
   | exc x=>rw[hm]at h2;exact h2
   | bad=>trivial
 | exc x=>
  obtain⟨s',e,r⟩:=this
  exact⟨s',by rw[BR,e];rfl,r⟩
 | bad=>trivial
theorem bY{f:State→Res RV}{m:M A}{x:A→Val}{P:A→Pt}{S:A→List Ob}(h:Ev R p σ f m (fun v=>(.val (x v),P v,S v))):Ev R p σ (aR i f) m (fun v=>(.nx,(P v).set i (some (.v (x v))),S v)):=fun sg hf=>by
 have:=h sg hf
 cases m with
 | ok v=>obtain⟨sg',e,f⟩:=this;exact⟨_,by rw[xM,e];rfl,f.set i _⟩
 | exc x=>obtain⟨s',e,r⟩:=this;exact⟨s',by rw[xM,e];rfl,r⟩
 | bad=>trivial
theorem nV{f:State→Res RV}{m:M A}{x:A→Ob}{P:A→Pt}{S:A→List Ob}(h:Ev R p σ f m (fun v=>(.new (x v),P v,S v))):Ev R p σ (aR i f) m (fun v=>(.nx,(P v).set i (some (.own (x v))),S v)):=fun sg hf=>by
 have:=h sg hf
 cases m with
 | ok v=>obtain⟨sg',e,f⟩:=this;exact⟨_,by rw[xM,e];rfl,f.set i _⟩
 | exc x=>obtain⟨s',e,r⟩:=this;exact⟨s',by rw[xM,e];rfl,r⟩
 | bad=>trivial
theorem M9{t:Tg}{f:State→Res RV}{m:M A}{x:A→Val}{P:A→Pt}{Q:A→Pt}{S:A→List Ob}(h:Ev R p σ (ev f) m (fun v=>(.val (x v),P v,S v)))(ht:∀ v,vB (P v) t (x v) (Q v)):Ev R p σ (Ao t f) m (fun v=>(.nx,Q v,S v)):=fun sg hf=>by
 have:=h sg hf
 cases m with
 | ok v=>
  obtain⟨sg',e,f'⟩:=this
  obtain⟨sg2,e2,f2⟩:=ht v sg' (S v) f'
  refine⟨sg2,?_,f2⟩
  show(ev _ _).bind _=_
  rw[e,Res.aa]
  dsimp only[wc]
  rw[wc]
  dsimp only
  rw[e2];rfl
 | exc x=>obtain⟨s',e,r⟩:=this;exact⟨s',by show(ev _ _).bind _=_;rw[e];rfl,r⟩
 | bad=>trivial
theorem je{f:State→Res RV}{m:M A}{r:A→RV}{P:A→Pt}{S:A→List Ob}(h:Ev R p σ f m (fun v=>(r v,P v,S v))):Ev R p σ (cV f) m (fun v=>(.nx,P v,S v)):=fun sg hf=>by
 have:=h sg hf
 cases m with
 | ok v=>obtain⟨sg',e,f⟩:=this;exact⟨sg',by rw[D4,e];rfl,f⟩
 | exc x=>obtain⟨s',e,r⟩:=this;exact⟨s',by rw[D4,e];rfl,r⟩
 | bad=>trivial
theorem BU{t:Tg}{b:State→Res Fl}{E:T→Val}{P:C→Pt}{S:C→List Ob}{p2:C→T→Pt}{mb:C→T→M C}(ht:∀ c x,vB (P c) t (E x) (p2 c x))(hb:∀ c x,Sg false R (p2 c x) (S c) b (mb c x) (fun c'=>.go (P c') (S c'))):
  ∀ (l:List T) (c:C) (sg:Slots),Fits (P c) sg→Rn R (lP t b (l.map E) ⟨sg,S c⟩) (foldM mb c l) (fun c'=>(.nx,P c',S c'))
 | [],c,sg,hf=>⟨sg,rfl,hf⟩
 | x::l,c,sg,hf=>by
  obtain⟨sg1,e1,f1⟩:=ht c x sg (S c) hf
  have h:=hb c x sg1 f1
  rw[List.map_cons,KS,e1,kj]
  dsimp only
  cases hm:mb c x with
  | ok c'=>
   rw[hm]at h
   obtain⟨⟨sg2,e2,f2⟩,_⟩:=h
   have ih:=BU ht hb l c' sg2 f2
   rw[M.aa]
   rcases e2 with e2 | e2
   ·rw[e2,HA];exact ih
   ·rw[e2,F1];exact ih
  | exc z=>
   rw[hm]at h
   obtain⟨s',e,r⟩:=h
   exact⟨s',by rw[e];rfl,r⟩
  | bad=>trivial
theorem Am{t:Tg}{src:State→Res (List Val)}{b:State→Res Fl}{ml:M A}{lA:A→List T}{E:T→Val}{q:A→Pt}{S0:A→List Ob}{c0:A→C}{P:C→Pt}{S:C→List Ob}{p2:C→T→Pt}{mb:C→T→M C}(hs:Ev R p σ src ml (fun a=>((lA a).map E,q a,S0 a)))(hw:∀ a,gZ (P (c0 a)) (q a))(hS:∀ a,S0 a=S (c0 a))(ht:∀ c x,vB (P c) t (E x) (p2 c x))(hb:∀ c x,Sg false R (p2 c x) (S c) b (mb c x) (fun c'=>.go (P c') (S c'))):Ev R p σ (oW t src b) (ml.bind fun a=>foldM mb (c0 a) (lA a)) (fun c'=>(.nx,P c',S c')):=Ev.bind hs fun a sg hf=>by
 dsimp only at hf ⊢
 rw[hS a]
 exact BU ht hb (lA a) (c0 a) sg (hf.weak (hw a))
theorem Eb{t:State→Res Bool}{b:State→Res Fl}{P:C→Pt}{S:C→List Ob}{mt:C→M Bool}{mb:C→M C}(ht:∀ c,Ev R (P c) (S c) t (mt c) (fun v=>(v,P c,S c)))(hb:∀ c,Sg false R (P c) (S c) b (mb c) (fun c'=>.go (P c') (S c'))):∀ (n:Nat) (c:C) (sg:Slots),Fits (P c) sg→Rn R (l9 n t b ⟨sg,S c⟩) (lq mt mb n c) (fun c'=>(.nx,P c',S c'))
 | 0,c,sg,hf=>trivial
 | n+1,c,sg,hf=>by
  have h1:=ht c sg hf
  unfold lq l9
  cases hm:mt c with
  | ok v=>
   rw[hm]at h1
   obtain⟨sg1,e1,f1⟩:=h1
   rw[e1,Res.aa,M.aa]
   cases v with
   | false=>
    rw[if_neg (by simp),if_neg (by simp)]
    exact⟨sg1,rfl,f1⟩
   | true=>
    rw[if_pos rfl,if_pos rfl]
    have h2:=hb c sg1 f1
    cases hb':mb c with
    | ok c'=>
     rw[hb']at h2
     obtain⟨⟨sg2,e2,f2⟩,_⟩:=h2
     have ih:=Eb ht hb n c' sg2 f2
     dsimp only
     rw[M.aa]
     rcases e2 with e2 | e2
     ·rw[e2];exact ih
     ·rw[e2];exact ih
    | exc z=>
     rw[hb']at h2
     obtain⟨s',e,r⟩:=h2
     exact⟨s',by dsimp only;rw[e],r⟩
    | bad=>trivial
  | exc z=>
   rw[hm]at h1
   obtain⟨s',e,r⟩:=h1
   exact⟨s',by rw[e];rfl,r⟩
  | bad=>trivial
theorem C3{N:Nat}{t:State→Res Bool}{b:State→Res Fl}{P:C→Pt}{S:C→List Ob}{mt:C→M Bool}{mb:C→M C}{c0:C}(hw:gZ (P c0) p)(hS:σ=S c0)(ht:∀ c,Ev R (P c) (S c) t (mt c) (fun v=>(v,P c,S c)))(hb:∀ c,Sg false R (P c) (S c) b (mb c) (fun c'=>.go (P c') (S c'))):Ev R p σ (l9 N t b) (lq mt mb N c0) (fun c'=>(.nx,P c',S c')):=fun sg hf=>by
 subst hS
 exact Eb ht hb N c0 sg (hf.weak hw)
theorem gq{N:Nat}{b:State→Res Fl}{args:List Val}{m:M T}{post:T→RV×List Ob}(h:Sg true R (args.map (fun x=>some (.v x))++List.replicate (N-args.length) none) σ b m (fun v=>.ret (post v).1 (post v).2)):fQ R (gm N b) args σ m post:=by
 have h:=h _ ⟨rfl,fun _ _ h=>h⟩
 cases m with
 | ok v=>
  obtain⟨⟨r0,sg,e,f⟩,_⟩:=h
  show gm N b args σ=_
  rw[wR,e,II,f]
 | exc x=>
  obtain⟨s,e,r⟩:=h
  exact⟨⟨[],s.st⟩,by rw[wR,e,CU],r⟩
 | bad=>trivial
theorem Ky{N:Nat}{b:State→Res Fl}{args:List Val}{m:M T}{P:T→Pt}{post:T→RV×List Ob}(h:Sg w R (args.map (fun x=>some (.v x))++List.replicate (N-args.length) none) σ b m (fun v=>.nx (P v) (post v).2))(hp:∀ v,(post v).1=.val (.d .non)):fQ R (gm N b) args σ m post:=by
 have h:=h _ ⟨rfl,fun _ _ h=>h⟩
 cases m with
 | ok v=>
  obtain⟨⟨sg,e,f⟩,_⟩:=h
  show gm N b args σ=_
  rw[wR,e,Jk,hp]
 | exc x=>
  obtain⟨s,e,r⟩:=h
  exact⟨⟨[],s.st⟩,by rw[wR,e,CU],r⟩
 | bad=>trivial
end
end Vw
namespace Vw
open PySem L2
section
variable{R R':List Ob→Prop}{p p':Pt}{σ σ':List Ob}{α β γ T U W A B C:Type}{i j n:Nat}{w:Bool}
theorem au{fa fb:State→Res RV}{k:RV→RV→State→Res RV}{a:T}{b:U}{m:M W}{ra:T→RV}{Pa:T→Pt}{Sa:T→List Ob}{rb:U→RV}{Pb:U→Pt}{Sb:U→List Ob}{post:W→RV×Pt×List Ob}(ha:Ev R p σ (ev fa) (.ok a) (fun v=>(ra v,Pa v,Sa v)))(hb:Ev R (Pa a) (Sa a) (ev fb) (.ok b) (fun v=>(rb v,Pb v,Sb v)))(hk:Ev R (Pb b) (Sb b) (k (ra a) (rb b)) m post):Ev R p σ (ah fa fb k) m post:=Ev.iV ha (Ev.iV hb hk)
theorem cC{fa fb:State→Res RV}{k:RV→RV→State→Res RV}{a:T}{mb:M U}{mk:U→M W}{ra:T→RV}{Pa:T→Pt}{Sa:T→List Ob}{rb:U→RV}{Pb:U→Pt}{Sb:U→List Ob}{post:W→RV×Pt×List Ob}(ha:Ev R p σ (ev fa) (.ok a) (fun v=>(ra v,Pa v,Sa v)))(hb:Ev R (Pa a) (Sa a) (ev fb) mb (fun v=>(rb v,Pb v,Sb v)))(hk:∀ b,Ev R (Pb b) (Sb b) (k (ra a) (rb b)) (mk b) post):Ev R p σ (ah fa fb k) (mb.bind fun b=>mk b) post:=Ev.iV ha (Ev.bind hb hk)
theorem bV{fa fb:State→Res RV}{k:RV→RV→State→Res RV}{ma:M T}{b:T→U}{mk:T→M W}{ra:T→RV}{Pa:T→Pt}{Sa:T→List Ob}{rb:T→U→RV}{Pb:T→U→Pt}{Sb:T→U→List Ob}{post:W→RV×Pt×List Ob}(ha:Ev R p σ (ev fa) ma (fun v=>(ra v,Pa v,Sa v)))(hb:∀ a,Ev R (Pa a) (Sa a) (ev fb) (.ok (b a)) (fun v=>(rb a v,Pb a v,Sb a v)))(hk:∀ a,Ev R (Pb a (b a)) (Sb a (b a)) (k (ra a) (rb a (b a))) (mk a) post):Ev R p σ (ah fa fb k) (ma.bind fun a=>mk a) post:=Ev.bind ha fun a=>Ev.iV (hb a) (hk a)
theorem iM{fa fb:State→Res RV}{k:RV→RV→State→Res RV}{ma:M T}{mb:T→M U}{mk:T→U→M W}{ra:T→RV}{Pa:T→Pt}{Sa:T→List Ob}{rb:T→U→RV}{Pb:T→U→Pt}{Sb:T→U→List Ob}{post:W→RV×Pt×List Ob}(ha:Ev R p σ (ev fa) ma (fun v=>(ra v,Pa v,Sa v)))(hb:∀ a,Ev R (Pa a) (Sa a) (ev fb) (mb a) (fun v=>(rb a v,Pb a v,Sb a v)))(hk:∀ a b,Ev R (Pb a b) (Sb a b) (k (ra a) (rb a b)) (mk a b) post):Ev R p σ (ah fa fb k) (ma.bind fun a=>(mb a).bind fun b=>mk a b) post:=Ev.bind ha fun a=>Ev.bind (hb a) fun b=>hk a b
theorem NZ{f:State→Res RV}{a:Int}(h:Ev R p σ (ev f) (.ok a) (pD .int p σ)):Ev R p σ (AV f) (.ok (-a)) (pD .int p σ):=Js h
theorem af{f:State→Res RV}{fs:List (State→Res RV)}{a:A}{m2:M B}{r1:A→RV}{P1:A→Pt}{S1:A→List Ob}{rs:B→List RV}{P:B→Pt}{S:B→List Ob}(h1:Ev R p σ (ev f) (.ok a) (fun v=>(r1 v,P1 v,S1 v)))(h2:Ev R (P1 a) (S1 a) (aE fs) m2 (fun w=>(rs w,P w,S w))):Ev R p σ (aE (f::fs)) m2 (fun z=>(r1 a::rs z,P z,S z)):=
 Ev.iV h1 (by
  intro sg hf
  have:=h2 sg hf
  cases m2 with
  | ok v=>
   obtain⟨sg',e,f⟩:=this
   exact⟨sg',by dsimp only;rw[e];rfl,f⟩
  | exc x=>
   obtain⟨s,e,r⟩:=this
   exact⟨s,by dsimp only;rw[e];rfl,r⟩
  | bad=>trivial)
theorem eC{fs:List (State→Res RV)}{b:List RV→State→Res RV}{a:A}{rs:A→List RV}{P:A→Pt}{S:A→List Ob}{m:M T}{post:T→RV×Pt×List Ob}(h:Ev R p σ (aE fs) (.ok a) (fun v=>(rs v,P v,S v)))(hb:Ev R (P a) (S a) (b (rs a)) m post):Ev R p σ (dW (aE fs) b) m post:=Ev.iV h hb
theorem BP{fs:List (State→Res RV)}{b:List RV→State→Res (List Val)}{a:A}{rs:A→List RV}{P:A→Pt}{S:A→List Ob}{m:M T}{post:T→List Val×Pt×List Ob}(h:Ev R p σ (aE fs) (.ok a) (fun v=>(rs v,P v,S v)))(hb:Ev R (P a) (S a) (b (rs a)) m post):Ev R p σ (kX (aE fs) b) m post:=Ev.iV h hb
theorem cq{k:Nat}{fs:List (State→Res RV)}{g:Fn}{a:A}{rs:A→List RV}{P:A→Pt}{S:A→List Ob}{vs:List Val}{Q:Pt}{mg:M T}{pg:T→RV×List Ob}{post:T→RV×Pt×List Ob}(h:Ev R p σ (aE fs) (.ok a) (fun v=>(rs v,P v,S v)))(hc:Cap (S a) (P a) (rs a) vs Q)(hl:vs.length=k)(hg:fQ R' g vs (S a) mg pg)(hp:∀ w,post w=((pg w).1,Q,(pg w).2)):Ev R p σ (bF k (aE fs) g) (nox mg) post:=
 hG (R':=R') (mA:=M.ok a) (vs:=fun _=>vs) (Q:=fun _=>Q) (mg:=fun _=>mg) (pg:=fun _=>pg) (rs:=fun _=>rs a) (P:=fun _=>P a) (S:=fun _=>S a) (Ev.b6 h rfl) (fun _=>hc) (fun _=>hl) (fun _=>hg) (fun _=>hp)
theorem hE{c m:String}{k:Nat}{fo:State→Res RV}{fs:List (State→Res RV)}{g:Fn}{b:B}{xo:B→Val}{Po:B→Pt}{So:B→List Ob}{a:A}{rs:A→List RV}{P:A→Pt}{S:A→List Ob}{vs:List Val}{Q:Pt}{mg:M T}{pg:T→RV×List Ob}{post:T→RV×Pt×List Ob}(ho:Ev R p σ (ev fo) (.ok b) (fun b=>(.val (xo b),Po b,So b)))(hi:yX (Po b) (So b) (xo b) c m)(h:Ev R (Po b) (So b) (aE fs) (.ok a) (fun v=>(rs v,P v,S v)))(hc:Cap (S a) (P a) (rs a) vs Q)(hl:vs.length+1=k)(hg:fQ R' g (xo b::vs) (S a) mg pg)(hp:∀ w,post w=((pg w).1,Q,(pg w).2)):Ev R p σ (bJ ey c m k fo (aE fs) g) (nox mg) post:=
 J1 (R':=R') (mo:=M.ok b) (xo:=fun _=>xo b) (Po:=fun _=>Po b) (So:=fun _=>So b) (mA:=fun _=>M.ok a) (vs:=fun _ _=>vs) (Q:=fun _ _=>Q) (mg:=fun _ _=>mg) (pg:=fun _ _=>pg) (rs:=fun _ _=>rs a) (P:=fun _ _=>P a) (S:=fun _ _=>S a) (Ev.b6 ho rfl) (fun _=>hi) (fun _=>Ev.b6 h rfl) (fun _ _=>hc) (fun _ _=>hl) (fun _ _=>hg) (fun _ _=>hp)
theorem bX{c m:String}{k:Nat}{fo:State→Res RV}{fs:List (State→Res RV)}{g:Fn}{b:B}{xo:B→Val}{Po:B→Pt}{So:B→List Ob}{a:A}{rs:A→List RV}{P:A→Pt}{S:A→List Ob}{vs:List Val}{Q:Pt}{mg:M T}{pg:T→RV×List Ob}{post:T→RV×Pt×List Ob}(ho:Ev R p σ (ev fo) (.ok b) (fun b=>(.val (xo b),Po b,So b)))(hi:yX (Po b) (So b) (xo b) c m)(h:Ev R (Po b) (So b) (aE fs) (.ok a) (fun v=>(rs v,P v,S v)))(hc:Cap (S a) (P a) (rs a) vs Q)(hl:vs.length+1=k)(hg:fQ R g (xo b::vs) (S a) mg pg)(hp:∀ w,post w=((pg w).1,Q,(pg w).2)):Ev R p σ (bJ bK c m k fo (aE fs) g) mg post:=
 Er (mo:=M.ok b) (xo:=fun _=>xo b) (Po:=fun _=>Po b) (So:=fun _=>So b) (mA:=fun _=>M.ok a) (vs:=fun _ _=>vs) (Q:=fun _ _=>Q) (mg:=fun _ _=>mg) (pg:=fun _ _=>pg) (rs:=fun _ _=>rs a) (P:=fun _ _=>P a) (S:=fun _ _=>S a) (Ev.b6 ho rfl) (fun _=>hi) (fun _=>Ev.b6 h rfl) (fun _ _=>hc) (fun _ _=>hl) (fun _ _=>hg) (fun _ _=>hp)
theorem JR{f g:State→Res Bool}{fs:List (State→Res Bool)}{a b:Bool}(h1:Ev R p σ f (.ok a) (pB p σ))(h2:Ev R p σ (iL (g::fs)) (.ok b) (pB p σ)):Ev R p σ (iL (f::g::fs)) (.ok (a&&b)) (pB p σ):=by
 have:=om h1 h2
 rw[cR]at this
 cases a with
 | true=>exact this
 | false=>exact this
theorem DH{f g:State→Res Bool}{fs:List (State→Res Bool)}{a b:Bool}(h1:Ev R p σ f (.ok a) (pB p σ))(h2:Ev R p σ (jy (g::fs)) (.ok b) (pB p σ)):Ev R p σ (jy (f::g::fs)) (.ok (a||b)) (pB p σ):=by
 have:=nQ h1 h2
 rw[d4]at this
 cases a with
 | true=>exact this
 | false=>exact this
theorem Mo{f g:State→Res RV}{fs:List (State→Res RV)}{a b:Bool}(h1:Ev R p σ (ev f) (.ok a) (pD .bl p σ))(h2:Ev R p σ (k9 (g::fs)) (.ok b) (pD .bl p σ)):Ev R p σ (k9 (f::g::fs)) (.ok (a||b)) (pD .bl p σ):=by
 have:=L9 h1 h2
 rw[d4]at this
 cases a with
 | true=>exact this
 | false=>exact this
theorem xO{T':String}{fo:State→Res RV}{fs:List (State→Res RV)}{b:RV→List RV→State→Res RV}{ty:State→RV→Bool}{a:A}{ro:A→RV}{Po:A→Pt}{So:A→List Ob}{m:M B}{rs:B→List RV}{P:B→Pt}{S:B→List Ob}{mk:B→M T}{post:T→RV×Pt×List Ob}(ho:Ev R p σ (ev fo) (.ok a) (fun v=>(ro v,Po v,So v)))(ht:∀ sg,Fits (Po a) sg→ty ⟨sg,So a⟩ (ro a)=true)(h:Ev R (Po a) (So a) (aE fs) m (fun v=>(rs v,P v,S v)))(hb:∀ v,Ev R (P v) (S v) (b (ro a) (rs v)) (mk v) post):Ev R p σ (nU T' fo (aE fs) b ty) (m.bind fun v=>mk v) post:=fun sg hf=>by
 obtain⟨sg',e,hf'⟩:=ho sg hf
 have h2:=Ev.bind h hb sg' hf'
 rw[IU,e,Res.aa,ht sg' hf',if_pos rfl]
 exact h2
theorem D3{T':String}{fo:State→Res RV}{fs:List (State→Res RV)}{b:RV→List RV→State→Res RV}{ty:State→RV→Bool}{a:A}{ro:A→RV}{Po:A→Pt}{So:A→List Ob}{v:B}{rs:B→List RV}{P:B→Pt}{S:B→List Ob}{m:M T}{post:T→RV×Pt×List Ob}(ho:Ev R p σ (ev fo) (.ok a) (fun v=>(ro v,Po v,So v)))(ht:∀ sg,Fits (Po a) sg→ty ⟨sg,So a⟩ (ro a)=true)(h:Ev R (Po a) (So a) (aE fs) (.ok v) (fun v=>(rs v,P v,S v)))(hb:Ev R (P v) (S v) (b (ro a) (rs v)) m post):Ev R p σ (nU T' fo (aE fs) b ty) m post:=fun sg hf=>by
 obtain⟨sg',e,hf'⟩:=ho sg hf
 have h2:=Ev.iV h hb sg' hf'
 rw[IU,e,Res.aa,ht sg' hf',if_pos rfl]
 exact h2
theorem bL{f:State→Res RV}{lo hi:Par}{x:T}{rx:T→RV}{Px:T→Pt}{Sx:T→List Ob}{a:A}{b:B}{lo':A→Option Int}{hi':B→Option Int}{m:M U}{post:U→RV×Pt×List Ob}(h:Ev R p σ (ev f) (.ok x) (fun v=>(rx v,Px v,Sx v)))(hl:Ev R (Px x) (Sx x) (l0 lo) (.ok a) (fun v=>(lo' v,(Px x),(Sx x))))(hh:Ev R (Px x) (Sx x) (l0 hi) (.ok b) (fun v=>(hi' v,(Px x),(Sx x))))(hk:Ev R (Px x) (Sx x) (wO (rx x) (lo' a) (hi' b)) m post):Ev R p σ (cJ f lo hi) m post:=Ev.iV h (Ev.iV hl (Ev.iV hh hk))
theorem MD{f:State→Res RV}{lo hi:Par}{x:T}{rx:T→RV}{Px:T→Pt}{Sx:T→List Ob}{ml:M A}{mh:M B}{lo':A→Option Int}{hi':B→Option Int}{mk:Option Int→Option Int→M U}{post:U→RV×Pt×List Ob}(h:Ev R p σ (ev f) (.ok x) (fun v=>(rx v,Px v,Sx v)))(hl:Ev R (Px x) (Sx x) (l0 lo) ml (fun v=>(lo' v,(Px x),(Sx x))))(hh:Ev R (Px x) (Sx x) (l0 hi) mh (fun v=>(hi' v,(Px x),(Sx x))))(hk:∀ l h,Ev R (Px x) (Sx x) (wO (rx x) l h) (mk l h) post):Ev R p σ (cJ f lo hi) (ml.bind fun l=>mh.bind fun h=>mk (lo' l) (hi' h)) post:=Ev.iV h (Ev.bind hl fun l=>Ev.bind hh fun k=>hk (lo' l) (hi' k))
theorem gj{t:State→Res Bool}{As Bs rest:List (State→Res Fl)}{c:Bool}{mA mB:M T}{post:T→OutS}(ht:Ev R p σ t (.ok c) (pB p σ))(hA:Sg w R p σ (ao (As++rest)) mA post)(hB:Sg w R p σ (ao (Bs++rest)) mB post):Sg w R p σ (ao (cc t (ao As) (ao Bs)::rest)) (if c=true then mA else mB) post:=
 gu (b:=fun v:Bool=>v) (P:=fun _=>p) (S:=fun _=>σ) (mA:=fun _=>mA) (mB:=fun _=>mB) ht (fun _=>hA) (fun _=>hB)
theorem qO{t:State→Res Bool}{As Bs rest:List (State→Res Fl)}{b:Bool}{mA mB:M C}{Pc:C→Pt}{Sc:C→List Ob}{k:C→M T}{post:T→OutS}(ht:Ev R p σ t (.ok b) (pB p σ))(hA:Sg false R p σ (ao As) mA (fun c=>.nx (Pc c) (Sc c)))(hB:Sg false R p σ (ao Bs) mB (fun c=>.nx (Pc c) (Sc c)))(hr:∀ c,Sg w R (Pc c) (Sc c) (ao rest) (k c) post):Sg w R p σ (ao (cc t (ao As) (ao Bs)::rest)) ((if b=true then mA else mB).bind k) post:=
 uE (b:=fun v:Bool=>v) (P:=fun _=>p) (S:=fun _=>σ) (mA:=fun _=>mA) (mB:=fun _=>mB) ht (fun _=>hA) (fun _=>hB) hr
theorem G1{s:State→Res Fl}{rest:List (State→Res Fl)}{a:A}{P:A→Pt}{S:A→List Ob}{m:M T}{post:T→OutS}(hs:Ev R p σ s (.ok a) (fun v=>(.nx,P v,S v)))(hr:Sg w R (P a) (S a) (ao rest) m post):Sg w R p σ (ao (s::rest)) m post:=fun sg hf=>by
 obtain⟨sg',e,f⟩:=hs sg hf
 have h2:=hr sg' f
 rw[t8 e]
 exact h2
theorem il{f:State→Res RV}{a:A}{x:A→Val}{P:A→Pt}{S:A→List Ob}{v:T}{post:T→OutS}(h:Ev R p σ f (.ok a) (fun v=>(.val (x v),P v,S v)))(hp:post v=.ret (.val (x a)) (S a)):Sg true R p σ (bq f) (.ok v) post:=
 fm (m:=M.ok a) (x:=fun _=>x a) (P:=fun _=>P a) (S:=fun _=>S a) (φ:=fun _=>v) (Ev.b6 h rfl) (fun _=>hp)
theorem N6{f:State→Res RV}{a:A}{x:A→Ob}{P:A→Pt}{S:A→List Ob}{v:T}{post:T→OutS}(h:Ev R p σ f (.ok a) (fun v=>(.new (x v),P v,S v)))(hp:post v=.ret (.new (x a)) (S a)):Sg true R p σ (bq f) (.ok v) post:=
 Nb (m:=M.ok a) (x:=fun _=>x a) (P:=fun _=>P a) (S:=fun _=>S a) (φ:=fun _=>v) (Ev.b6 h rfl) (fun _=>hp)
theorem Dc{vs:List Nat}{t:Tg}{src:State→Res (List Val)}{ft:State→Res Bool}{fe:State→Res RV}{l:List T}{E:T→Val}{q:Pt}{τ:List Ob}{e:U→D}{mt:T→M Bool}{me:T→M U}{p2 p3:T→Pt}(hs:Ev R p σ src (.ok l) (fun l=>(l.map E,q,τ)))(hv:(vs.all fun v=>(q.getD v none).isNone)=true)
  (hb:∀ x,vB q t (E x) (p2 x)∧Ev R (p2 x) τ ft (mt x) (fun b=>(b,p2 x,τ))∧Ev R (p2 x) τ (fun s=>(fe s).bind d8) (me x) (fun y=>(.d (e y),p3 x,τ))) (hw2:∀ x,gZ q (p2 x)) (hw3:∀ x,gZ q (p3 x)):
  Ev R p σ (lS vs t src ft fe) (kr mt me l) (fun r=>(.new (oL e r),q,τ)):=Ap hs hv hb hw2 hw3
theorem dU{f:State→Res RV}{a:Bool}(h:Ev R p σ (ev f) (.ok a) (pD .bl p σ)):Ev R p σ (aW f) (.ok a) (pB p σ):=tB (b:=fun v=>v) h
theorem KD{f:State→Res Bool}{a:Bool}(h:Ev R p σ f (.ok a) (pB p σ)):Ev R p σ (si f) (.ok (!a)) (pB p σ):=(GK (b:=fun v=>v) h).b6 rfl
theorem Et{f:State→Res Bool}{m:M Bool}(h:Ev R p σ f m (pB p σ)):Ev R p σ (si f) (m.bind fun v=>.ok (!v)) (pB p σ):=Ev.map (fun v=> !v) (pB p σ) (GK (b:=fun v=>v) h) (fun _=>rfl)
end
theorem EqE.mono{T:Type}[DecidableEq T]{e:T→D}{n m:Nat}(E:EqE e n)(h:n≤m):EqE e m:=by
 have up:∀ (n m:Nat),n≤m→(∀ d,gR n d=true→gR m d=true)∧(∀ l,jV n l=true→jV m l=true):=by
  intro n
  induction n with
  | zero=>
   intro m _
   have hd:∀ d,gR 0 d=true→gR m d=true:=fun d h=>by
    cases d<;> first | (simp[gR]at h;done) | (cases m<;> simp[gR])
   refine⟨hd,fun l=>?_⟩
   induction l with
   | nil=>intro _;simp[jV]
   | cons x l ih=>intro h;simp[jV]at h ⊢;exact⟨hd x h.1,ih h.2⟩
  | succ n ih=>
   intro m hm
   obtain⟨k,rfl⟩:∃ k,m=k+1:=⟨m- 1,by omega⟩
   have ihk:=ih k (by omega)
   have hd:∀ d,gR (n+1) d=true→gR (k+1) d=true:=fun d h=>by
    cases d<;> first | (simp[gR]at h ⊢;exact ihk.2 _ h) | simp[gR]
   refine⟨hd,fun l=>?_⟩
   induction l with
   | nil=>intro _;simp[jV]
   | cons x l ih=>intro h;simp[jV]at h ⊢;exact⟨hd x h.1,ih h.2⟩
 exact⟨E.pl,fun x=>(up n m h).1 _ (E.dp x),E.eq⟩
theorem qI:EqE D.int 0:=⟨fun _=>rfl,fun _=>rfl,CI⟩
theorem qS:EqE D.str 0:=⟨fun _=>rfl,fun _=>rfl,yD⟩
theorem xX{T:Type}[DecidableEq T]{e:T→D}{n:Nat}(E:EqE e n):∀ a b:List T,PyData.eqvAll (gX (a.map e)) (gX (b.map e))=decide (a=b)
 | [],[]=>by simp[gX,PyData.eqvAll]
 | [],_::_=>by simp[gX,PyData.eqvAll]
 | _::_,[]=>by simp[gX,PyData.eqvAll]
 | x::a,y::b=>by
  have h:PyData.eqv (pd (e x)) (pd (e y))=decide (x=y):=E.eq x y
  simp[gX,PyData.eqvAll,xX E a b,h]
theorem qL{T:Type}[DecidableEq T]{e:T→D}{n:Nat}(E:EqE e n):EqE (eL e) (n+1) where
 pl l:=by show cY (l.map e)=true;exact oI e l fun x _=>E.pl x
 dp l:=by show jV n (l.map e)=true;exact sm n e l fun x _=>E.dp x
 eq a b:=by
  show PyData.eqv (.list (gX (a.map e))) (.list (gX (b.map e)))=_
  rw[←xX E]
  simp[PyData.eqv]
end Vw
namespace Vw
open PySem L2
abbrev pN{T:Type}(o:T→Ob)(p:Pt)(σ:List Ob):T→RV×Pt×List Ob:=fun v=>(.new (o v),p,σ)
abbrev pE{T C:Type}(e:T→D)(p:Pt)(S:C→List Ob):T×C→RV×Pt×List Ob:=fun v=>(.val (.d (e v.1)),p,S v.2)
abbrev CT{T C:Type}(o:T→Ob)(p:Pt)(S:C→List Ob):T×C→RV×Pt×List Ob:=fun v=>(.new (o v.1),p,S v.2)
abbrev Pw{T C:Type}(E:T→Val)(p:Pt)(S:C→List Ob):List T×C→List Val×Pt×List Ob:=fun v=>(v.1.map E,p,S v.2)
abbrev KR{T C:Type}(i:Nat)(o:T→Ob)(p:Pt)(S:C→List Ob):T×C→RV×Pt×List Ob:=fun v=>(.val (.d .non),p.set i (some (.own (o v.1))),S v.2)
section
variable{R R':List Ob→Prop}{p p':Pt}{σ σ':List Ob}{α β γ T U W A B C:Type}{i j n:Nat}{w:Bool}
theorem OY{fa fb fc:State→Res RV}{g g':RV→RV→State→Res RV}{a b c:Int}{k1 k2:Bool}(ha:Ev R p σ (ev fa) (.ok a) (pD .int p σ))(hb:Ev R p σ (ev fb) (.ok b) (pD .int p σ))(hc:Ev R p σ (ev fc) (.ok c) (pD .int p σ))(h1:Ev R p σ (g (.val (.d (.int a))) (.val (.d (.int b)))) (.ok k1) (pD .bl p σ))(h2:Ev R p σ (g' (.val (.d (.int b))) (.val (.d (.int c)))) (.ok k2) (pD .bl p σ)):Ev R p σ (D2 fa fb fc g g') (.ok (k1&&k2)) (pD .bl p σ):=Ev.iV ha (Ev.iV hb (Ev.iV h1 (by
 intro sg hf
 show Rn R ((zC (.val (.d (.bl k1))) ⟨sg,σ⟩).bind fun k s=>if k=true then(ev fc s).bind fun w s=>g' (.val (.d (.int b))) w s else bp (.bl false) s) _ _
 rw[L7]
 simp only[vS,Res.aa]
 cases k1 with
 | true=>
  rw[if_pos rfl]
  exact Ev.iV hc h2 sg hf
 | false=>exact⟨sg,rfl,hf⟩)))
def setM(l:List T)(k:Int)(x:T):M (List T):=match ixN l.length k with | some j=>.ok (l.set j x) | none=>.bad
theorem KA{e:T→D}{l:List T}{fv fi:State→Res RV}{mv:M T}{mi:M Int}(h:p[i]? =some (some (.own (oL e l))))(hv:Ev R p σ (ev fv) mv (pD e p σ))(hi:∀ v:T,Ev R p σ (ev fi) mi (pD .int p σ)):Ev R p σ (C4 (ab i) fi fv) (mv.bind fun a=>mi.bind fun k=>setM l k a) (fun v:List T=>(Fl.nx,p.set i (some (.own (oL e v))),σ)):=Ev.bind hv fun a=>Ev.iV (jd (jc (a:=l) h)) (Ev.bind (hi a) fun k sg hf=>by
 unfold setM
 have h:=hf.2 _ _ h
 cases hk:ixN l.length k with
 | none=>trivial
 | some q=>
  refine⟨_,?_,hf.set i _⟩
  dsimp only[wc]
  rw[wc]
  dsimp only
  rw[Le,h]
  simp[hk,oL])
def G2(p:Pt)(σ:List Ob)(r:RV)(e:T→D)(l:List (List Nat×T)):Prop:=∀ sg,Fits p sg→p4 ⟨sg,σ⟩ r=some (l.map fun p=>(K0.s p.1,Val.d (e p.2)))
theorem Li(l:List (K0×D))(s:State):p4 s (.val (.d (.dic l)))=some (l.map fun p=>(p.1,Val.d p.2)):=rfl
theorem Aq{e:T→D}{l:List (List Nat×T)}:G2 p σ (.val (.d (MV e l))) e l:=fun sg _=>by rw[Li,List.map_map];rfl
theorem Mv{s:State}{k:Bool}{l:List (K0×Val)}(h:s.sg[i]? =some (some (.own (.dic k l)))):p4 s (.own i)=some l:=by
 obtain⟨sg,st⟩:=s
 unfold p4
 simp only[DS,Dt]
 rw[h]
theorem DM{e:T→D}{l:List (List Nat×T)}(h:p[i]? =some (some (.own (my e l)))):G2 p σ (.own i) e l:=fun sg hf=>Mv (hf.2 _ _ h)
theorem EN{κ κ' α β:Type}[DecidableEq κ][DecidableEq κ'](F:κ→κ')(hF:∀ a b,F a=F b→a=b)(G:α→β)(l:List (κ×α))(k:κ):nG (l.map fun p=>(F p.1,G p.2)) (F k)=(nG l k).map G:=by
 induction l with
 | nil=>rfl
 | cons p l ih=>
  unfold nG at ih ⊢
  rw[List.map_cons,List.find?_cons,List.find?_cons]
  by_cases h:p.1=k
  ·simp[h]
  ·have:¬ F p.1=F k:=fun z=>h (hF _ _ z)
   simp only[h,this,decide_false]
   exact ih
theorem JE:∀ a b:List Nat,K0.s a=K0.s b→a=b:=fun _ _ h=>by cases h;rfl
theorem Jf{e:T→D}{l:List (List Nat×T)}{r:RV}{k:List Nat}(h:G2 p σ r e l){sg:Slots}(hf:Fits p sg):lj ⟨sg,σ⟩ r (.val (.d (.str k)))=some ((nG l k).map fun x=>.d (e x)):=by
 unfold lj
 rw[h sg hf]
 exact congrArg some (EN K0.s JE (fun x=>Val.d (e x)) l k)
def i8{κ:Type}[DecidableEq κ](l:List (κ×T))(k:κ):M T:=match nG l k with | some a=>.ok a | none=>.bad
theorem rB{e:T→D}{l:List (List Nat×T)}{k:List Nat}{r:RV}(h:G2 p σ r e l):Ev R p σ (bw r (.val (.d (.str k)))) (i8 l k) (pD e p σ):=Ev.op (r:=fun v=>RV.val (Val.d (e v))) fun a h' sg hf=>by
 unfold bw
 rw[Jf h hf,h'];rfl
end
end Vw
namespace Vw
open PySem L2
section
variable{R R':List Ob→Prop}{p p':Pt}{σ σ':List Ob}{α β γ T U W A B C:Type}{i j n:Nat}{w:Bool}
theorem jJ{Tf:List (String×String)}{f c:String}{fs:List (String×Val)}{a:T}{e:T→Val}(h:p[i]? =some (some (.v (.r n))))(hσ:σ[n]? =some (.ins c fs))(hT:Tf.contains (c,f)=true)(hk:t5 fs f=some (e a)):Ev R p σ (kY Tf f (ab i)) (.ok a) (fun v=>(.val (e v),p,σ)):=Ev.at (r:=fun v=>RV.val (e v)) fun sg hf=>by
 have h:=hf.2 _ _ h
 show(ev (ab i) ⟨sg,σ⟩).bind _=_
 rw[pk,pM,h]
 dsimp only
 rw[Res.aa,Kg,Res.aa]
 simp only[LX,CY,hσ]
 rw[if_pos hT,hk]
theorem Eo{Tf:List (String×String)}{f c:String}{op:Bop}{g:Int→Int→Int}{fv:State→Res RV}{fs:List (String×Val)}{a:Int}{mv:M Int}{φ:Int→U}{S:U→List Ob}(hg:DE op=some g)(h:p[i]? =some (some (.v (.r n))))(hσ:σ[n]? =some (.ins c fs))(hT:(Tf.contains (c,f)&&decide (fs.length<1000))=true)(hk:t5 fs f=some (.d (.int a)))(hv:Ev R p σ (ev fv) mv (pD .int p σ))(hs:∀ b,σ.set n (.ins c (xt f (.d (.int (g a b))) fs))=S (φ b)):Ev R p σ (oq Tf f op (ab i) fv) (mv.bind fun b=>.ok (φ b)) (fun v:U=>(Fl.nx,p,S v)):=fun sg hf=>by
 have h:=hf.2 _ _ h
 have hl:fs.length<1000:=by simpa using (Bool.and_eq_true_iff.mp hT).2
 have e0:oq Tf f op (ab i) fv ⟨sg,σ⟩=(ev fv ⟨sg,σ⟩).bind fun y s=>match dv s y,ob s (.val (.r n))with
    | some (.int b),some (.ins c' fs')=>if c'=c∧fs'.length<1000 then .ok .nx (wr (.val (.r n)) (.ins c (xt f (.d (.int (g a b))) fs')) s)else .stuck
    | _,_=>.stuck:=by
  unfold oq
  rw[hg]
  dsimp only
  rw[pk,pM,h]
  dsimp only
  rw[Res.aa,Kg,Res.aa]
  simp only[CY,hσ]
  rw[if_pos hT,hk]
  try rfl
 rw[e0]
 have:=hv sg hf
 cases mv with
 | ok b=>
  obtain⟨sg',e,f'⟩:=this
  refine⟨sg',?_,f'⟩
  rw[e,Res.aa]
  simp only[vS,CY,hσ]
  rw[if_pos ⟨trivial,hl⟩,Ma,hs]
 | exc x=>obtain⟨s',e,r⟩:=this;exact⟨s',by rw[e];rfl,r⟩
 | bad=>trivial
theorem lC{c m:String}{k:Nat}{fo:State→Res RV}{fs:List (State→Res RV)}{g:Fn}{b:B}{xo:B→Val}{Po:B→Pt}{So:B→List Ob}{mA:M A}{rs:A→List RV}{P:A→Pt}{S:A→List Ob}{vs:A→List Val}{Q:A→Pt}{mg:A→M T}{pg:A→T→RV×List Ob}{post:T→RV×Pt×List Ob}(ho:Ev R p σ (ev fo) (.ok b) (fun b=>(.val (xo b),Po b,So b)))(hi:yX (Po b) (So b) (xo b) c m)(h:Ev R (Po b) (So b) (aE fs) mA (fun v=>(rs v,P v,S v)))(hc:∀ v,Cap (S v) (P v) (rs v) (vs v) (Q v))(hl:∀ v,(vs v).length+1=k)(hg:∀ v,fQ R g (xo b::vs v) (S v) (mg v) (pg v))(hp:∀ v w,post w=((pg v w).1,Q v,(pg v w).2)):Ev R p σ (bJ bK c m k fo (aE fs) g) (mA.bind fun v=>mg v) post:=
 Er (mo:=M.ok b) (xo:=fun _=>xo b) (Po:=fun _=>Po b) (So:=fun _=>So b) (mA:=fun _=>mA) (vs:=fun _=>vs) (Q:=fun _=>Q) (mg:=fun _=>mg) (pg:=fun _=>pg) (rs:=fun _=>rs) (P:=fun _=>P) (S:=fun _=>S) (Ev.b6 ho rfl) (fun _=>hi) (fun _=>h) (fun _=>hc) (fun _=>hl) (fun _=>hg) (fun _=>hp)
end
section
variable{R R':List Ob→Prop}{p p':Pt}{σ σ':List Ob}{α β γ T U W A B C Q:Type}{i j n:Nat}{w:Bool}
def jh:D→Bool
 | .non=>true
 | _=>false
theorem rZ{d:D}:Ev R p σ (aG .is (.val (.d d)) (.val (.d .non))) (.ok (jh d)) (pD .bl p σ):=Ev.at (r:=fun v=>RV.val (Val.d (D.bl v))) fun sg hf=>by
 rw[m4,show ∀ (s:State) (x y:RV),i0 .is s x y=zi s x y from fun _ _ _=>rfl]
 unfold zi
 simp only[vS]
 cases d<;> rfl
theorem xu{d:D}:Ev R p σ (aG .isn (.val (.d d)) (.val (.d .non))) (.ok (!jh d)) (pD .bl p σ):=Ev.at (r:=fun v=>RV.val (Val.d (D.bl v))) fun sg hf=>by
 rw[m4,show ∀ (s:State) (x y:RV),i0 .isn s x y=(zi s x y).map not from fun _ _ _=>rfl]
 unfold zi
 simp only[vS]
 cases d<;> rfl
def tL{C Q:Type}(t:C→M Bool)(f:C→M (Lp C Q)):Nat→C→M (C ⊕ Q)
 | 0,_=>.bad
 | n+1,c=>(t c).bind fun b=>if b=true then(f c).bind fun o=>match o with
  | .go c=>tL t f n c
  | .brk c=>.ok (.inl c)
  | .ret q=>.ok (.inr q)else .ok (.inl c)
theorem Cn{t:State→Res Bool}{b:State→Res Fl}{P:C→Pt}{S:C→List Ob}{mt:C→M Bool}{mb:C→M (Lp C Q)}{rv:Q→RV}{Sr:Q→List Ob}(ht:∀ c,Ev R (P c) (S c) t (mt c) (fun v=>(v,P c,S c)))(hb:∀ c,Sg false R (P c) (S c) b (mb c) (fun o=>match o with | .go c=>.go (P c) (S c) | .brk c=>.brk (P c) (S c) | .ret q=>.ret (rv q) (Sr q))):∀ (n:Nat) (c:C) (sg:Slots),Fits (P c) sg→match tL mt mb n c with
   | .ok o=>G6 (l9 n t b ⟨sg,S c⟩) (match o with | .inl c=>.nx (P c) (S c) | .inr q=>.ret (rv q) (Sr q))
   | .exc x=>∃ s,l9 n t b ⟨sg,S c⟩=.exc x s∧R s.st
   | .bad=>True
 | 0,c,sg,hf=>trivial
 | n+1,c,sg,hf=>by
  have h1:=ht c sg hf
  unfold tL l9
  cases hm:mt c with
  | ok v=>
   rw[hm]at h1
   obtain⟨sg1,e1,f1⟩:=h1
   rw[e1,Res.aa,M.aa]
   cases v with
   | false=>
    rw[if_neg (by simp),if_neg (by simp)]
    exact⟨sg1,rfl,f1⟩
   | true=>
    rw[if_pos rfl,if_pos rfl]
    have h2:=hb c sg1 f1
    cases hb':mb c with
    | ok o=>
     rw[hb']at h2
     rw[M.aa]
     cases o with
     | go c'=>
      obtain⟨⟨sg2,e2,f2⟩,_⟩:=h2
      have ih:=Cn ht hb n c' sg2 f2
      dsimp only
      rcases e2 with e2 | e2
      ·rw[e2];exact ih
      ·rw[e2];exact ih
     | brk c'=>
      obtain⟨⟨sg2,e2,f2⟩,_⟩:=h2
      exact⟨sg2,by dsimp only;rw[e2],f2⟩
     | ret q=>
      obtain⟨⟨r0,sg2,e2,f2⟩,_⟩:=h2
      exact⟨r0,sg2,by dsimp only;rw[e2],f2⟩
    | exc z=>
     rw[hb']at h2
     obtain⟨s',e,r⟩:=h2
     exact⟨s',by dsimp only;rw[e],r⟩
    | bad=>trivial
  | exc z=>
   rw[hm]at h1
   obtain⟨s',e,r⟩:=h1
   exact⟨s',by rw[e];rfl,r⟩
  | bad=>trivial
theorem Gu{N:Nat}{t:State→Res Bool}{b:State→Res Fl}{rest:List (State→Res Fl)}{c0:C}{P:C→Pt}{S:C→List Ob}{mt:C→M Bool}{mb:C→M (Lp C Q)}{rv:Q→RV}{Sr:Q→List Ob}{k:C→M U}{ι:Q→U}{post:U→OutS}(hw:gZ (P c0) p)(hS:σ=S c0)(ht:∀ c,Ev R (P c) (S c) t (mt c) (fun v=>(v,P c,S c)))(hb:∀ c,Sg false R (P c) (S c) b (mb c) (fun o=>match o with | .go c=>.go (P c) (S c) | .brk c=>.brk (P c) (S c) | .ret q=>.ret (rv q) (Sr q)))(hι:∀ q,post (ι q)=.ret (rv q) (Sr q))(hr:∀ c,Sg w R (P c) (S c) (ao rest) (k c) post):Sg w R p σ (ao (l9 N t b::rest)) ((tL mt mb N c0).bind (wI k ι)) post:=fun sg hf=>by
 subst hS
 have h:=Cn ht hb N c0 sg (hf.weak hw)
 rw[lR]
 cases hl:tL mt mb N c0 with
 | ok o=>
  rw[hl]at h
  rw[M.aa]
  cases o with
  | inl c=>
   obtain⟨sg2,e2,f2⟩:=h
   rw[e2,uX,IL]
   exact hr c sg2 f2
  | inr z=>
   obtain⟨r0,sg2,e2,f2⟩:=h
   rw[e2,BB,JN]
   exact⟨by rw[hι];exact⟨r0,sg2,rfl,f2⟩,fun _ s h=>by cases h⟩
 | exc x=>
  rw[hl]at h
  obtain⟨s',e2,r⟩:=h
  exact⟨s',by rw[e2];rfl,r⟩
 | bad=>trivial
end
end Vw
namespace Vw
open PySem L2
section
variable{R:List Ob→Prop}{p:Pt}{σ:List Ob}{T A:Type}{w:Bool}
theorem aL{s:State→Res Fl}{rest:List (State→Res Fl)}{m:M A}(Q:A→Pt){P:A→Pt}{S:A→List Ob}{k:A→M T}{post:T→OutS}(hs:Ev R p σ s m (fun v=>(.nx,P v,S v)))(he:∀ v,P v=Q v)(hr:∀ v,Sg w R (Q v) (S v) (ao rest) (k v) post):Sg w R p σ (ao (s::rest)) (m.bind k) post:=
 qh hs fun v=>by rw[he v];exact hr v
theorem eB{s:State→Res Fl}{rest:List (State→Res Fl)}{a:A}(Q:Pt){P:A→Pt}{S:A→List Ob}{m:M T}{post:T→OutS}(hs:Ev R p σ s (.ok a) (fun v=>(.nx,P v,S v)))(he:P a=Q)(hr:Sg w R Q (S a) (ao rest) m post):Sg w R p σ (ao (s::rest)) m post:=
 G1 hs (by rw[he];exact hr)
end
end Vw
namespace Vw
open PySem L2
def MU(r:RV):Prop:=match r with
 | .val (.d _)=>True
 | .new o=>o.toD.isSome=true
 | _=>False
def Gm{T:Type}(g:Fn)(ds:List D)(m:M T)(rv:T→RV):Prop:=
 match m with
 | .ok v=>(∃ s,g (ds.map .d) []=.ok (rv v) s)∧MU (rv v)
 | .exc x=>∃ s,g (ds.map .d) []=.exc x s
 | .bad=>True
section
variable{R R':List Ob→Prop}{p p':Pt}{σ σ':List Ob}{α β γ T U W A B C Q:Type}{i j n:Nat}{w:Bool}
theorem EL(ds:List D):rE (ds.map .d)=some ds:=by
 induction ds with
 | nil=>rfl
 | cons d r ih=>rw[List.map_cons,rE,ih];rfl
theorem IA{k:Nat}{fs:List (State→Res RV)}{g:Fn}{mA:M A}{rs:A→List RV}{P:A→Pt}{S:A→List Ob}{ds:A→List D}{Q:A→Pt}{mg:A→M T}{rv:A→T→RV}{post:T→RV×Pt×List Ob}(h:Ev R p σ (aE fs) mA (fun v=>(rs v,P v,S v)))(hc:∀ v,Cap (S v) (P v) (rs v) ((ds v).map .d) (Q v))(hl:∀ v,(ds v).length=k)(hg:∀ v,Gm g (ds v) (mg v) (rv v))(hp:∀ v w,post w=(rv v w,Q v,S v))(hR:∀ v,R (S v)):Ev R p σ (rQ k (aE fs) g) (mA.bind fun v=>mg v) post:=by
 refine Ev.bind h fun v sg hf=>?_
 obtain⟨sg2,e2,hf2⟩:=(hc v).run sg hf
 have hg:=hg v
 show Rn R ((bE (rs v) ⟨sg,S v⟩).bind fun args s=>match rE args with
  | some ds=>if ds.length=k then yk (g (ds.map .d) []) s else .stuck
  | none=>.stuck) (mg v) post
 rw[e2,Res.aa,EL]
 dsimp only
 rw[if_pos (hl v)]
 cases hm:mg v with
 | ok w=>
  rw[hm]at hg
  obtain⟨⟨s1,e1⟩,hr⟩:=hg
  refine⟨sg2,?_,by rw[hp v w];exact hf2⟩
  rw[hp v w,e1]
  show yk (.ok (rv v w) s1) _=_
  unfold yk
  revert hr
  cases rv v w with
  | val x=>cases x<;> intro hr<;> first | rfl | exact hr.elim
  | own i=>intro hr;exact hr.elim
  | new o=>
   intro hr
   have hr:o.toD.isSome=true:=hr
   dsimp only
   rw[if_pos hr]
 | exc x=>
  rw[hm]at hg
  obtain⟨s,e⟩:=hg
  rw[e]
  exact⟨_,rfl,hR v⟩
 | bad=>trivial
theorem F5{k:Nat}{fs:List (State→Res RV)}{g:Fn}{a:A}{rs:A→List RV}{P:A→Pt}{S:A→List Ob}{ds:List D}{Q:Pt}{mg:M T}{rv:T→RV}{post:T→RV×Pt×List Ob}(h:Ev R p σ (aE fs) (.ok a) (fun v=>(rs v,P v,S v)))(hc:Cap (S a) (P a) (rs a) (ds.map .d) Q)(hl:ds.length=k)(hg:Gm g ds mg rv)(hp:∀ w,post w=(rv w,Q,S a))(hR:R (S a)):Ev R p σ (rQ k (aE fs) g) mg post:=
 IA (mA:=M.ok a) (ds:=fun _=>ds) (Q:=fun _=>Q) (mg:=fun _=>mg) (rv:=fun _=>rv) (rs:=fun _=>rs a) (P:=fun _=>P a) (S:=fun _=>S a) (Ev.b6 h rfl) (fun _=>hc) (fun _=>hl) (fun _=>hg) (fun _=>hp) (fun _=>hR)
theorem Nx{f:State→Res RV}{m:M T}{o:T→Ob}{P:T→Pt}{S:T→List Ob}(h:Ev R p σ f m (fun v=>(.new (o v),P v,S v)))(hg:∀ v,o v≠ .gone):Ev R p σ (vO f) m (fun v=>(.val (.r (S v).length),P v,S v++[o v])):=fun sg hf=>by
 have:=h sg hf
 cases m with
 | ok v=>
  obtain⟨sg',e,hf'⟩:=this
  refine⟨sg',?_,hf'⟩
  rw[IM,e,Res.aa]
  unfold Hk
  have:=hg v
  revert this
  dsimp only
  cases o v<;> intro h<;> first | rfl | exact absurd rfl h
 | exc x=>obtain⟨s,e,r⟩:=this;exact⟨s,by rw[IM,e];rfl,r⟩
 | bad=>trivial
theorem Mm{e:T→D}(l:List T):oL e l≠ .gone:=fun h=>by cases h
theorem LR{c:String}{k:Nat}{fs:List (State→Res RV)}{g:Fn}{m:M A}{rs:A→List RV}{P:A→Pt}{S:A→List Ob}{vs:A→List Val}{Q:A→Pt}{o:A→Ob}(h:Ev R p σ (aE fs) m (fun v=>(rs v,P v,S v)))(hc:∀ v,Cap (S v) (P v) (rs v) (vs v) (Q v))(hl:∀ v,(vs v).length+1=k)(hg:∀ v,g (.r (S v).length::vs v) (S v++[.ins c []])=.ok (.val (.d .non)) ⟨[],S v++[o v]⟩):Ev R p σ (GB ey c k (aE fs) g) m (fun v=>(.val (.r (S v).length),Q v,S v++[o v])):=fun sg hf=>by
 have:=h sg hf
 cases m with
 | ok v=>
  obtain⟨sg1,e1,f1⟩:=this
  obtain⟨sg2,e2,f2⟩:=(hc v).run sg1 f1
  refine⟨sg2,?_,f2⟩
  show(aE fs ⟨sg,σ⟩).bind (fun rs s=>(bE rs s).bind fun args s=>if args.length+1=k then IK s.st.length (ey g (.r s.st.length::args) ⟨s.sg,s.st++[.ins c []]⟩)else .stuck)=_
  rw[e1,Res.aa]
  dsimp only
  rw[e2,Res.aa,if_pos (hl v)]
  dsimp only
  unfold ey
  dsimp only
  rw[hg v]
  rfl
 | exc x=>obtain⟨s,e,r⟩:=this;exact⟨s,by show(aE fs ⟨sg,σ⟩).bind _=_;rw[e];rfl,r⟩
 | bad=>trivial
theorem blt{a b:Nat}(h:Nat.blt a b=true):a<b:=Nat.blt_eq.mp h
theorem Of{s:State→Res Fl}{m:M A}{o:A→Ob}{d:A→D}{P:A→Pt}{S:A→List Ob}(hs:Ev R p σ s m (fun v=>(.nx,(P v).set i (some (.own (o v))),S v)))(hd:∀ v,(o v).toD=some (d v))(hi:∀ v,i<(P v).length):Ev R p σ (GW i s) m (fun v=>(.nx,(P v).set i (some (.v (.d (d v)))),S v)):=fun sg hf=>by
 have:=hs sg hf
 cases m with
 | ok v=>
  obtain⟨sg',e,f⟩:=this
  have e1:sg'[i]? =some (some (.own (o v))):=f.2 _ _ (by rw[List.getElem?_set_self (hi v)])
  refine⟨sg'.set i (some (.v (.d (d v)))),?_,?_⟩
  ·show(match s ⟨sg,σ⟩with | .ok Fl.nx s'=>Res.ok Fl.nx (AJ i s') | r=>r)=_
   rw[e]
   show Res.ok Fl.nx (AJ i ⟨sg',S v⟩)=_
   unfold AJ lb
   dsimp only
   rw[e1]
   dsimp only
   rw[hd v]
  ·have f2:=f.set i (.v (.d (d v)))
   rw[List.set_set]at f2
   exact f2
 | exc x=>
  obtain⟨s',e,r⟩:=this
  exact⟨s',by show(match s ⟨sg,σ⟩with | .ok Fl.nx s'=>Res.ok Fl.nx (AJ i s') | r=>r)=_;rw[e],r⟩
 | bad=>trivial
theorem t4{s:State→Res Fl}{rest:List (State→Res Fl)}{a:A}(Q:Pt)(S':List Ob){P:A→Pt}{S:A→List Ob}{m:M T}{post:T→OutS}(hs:Ev R p σ s (.ok a) (fun v=>(.nx,P v,S v)))(he:P a=Q)(hS:S a=S')(hr:Sg w R Q S' (ao rest) m post):Sg w R p σ (ao (s::rest)) m post:=
 G1 hs (by rw[he,hS];exact hr)
theorem fQ.toI{g:Fn}{ds:List D}{m:M (T×List Ob)}{rv:T→RV}(h:fQ R g (ds.map .d) [] m (fun v=>(rv v.1,v.2)))(hr:∀ v,MU (rv v)):Gm g ds (m.bind fun v=>.ok v.1) rv:=by
 cases m with
 | ok v=>exact⟨⟨_,h⟩,hr v.1⟩
 | exc x=>obtain⟨s,e,_⟩:=h;exact⟨s,e⟩
 | bad=>trivial
end
end Vw
namespace Vw
open PySem L2
end Vw
namespace Vw
open PySem L2
section
variable{R R':List Ob→Prop}{p p':Pt}{σ σ':List Ob}{α β γ T U W A B C Q:Type}{i j n:Nat}{w:Bool}
theorem Ak{f:State→Res RV}{e:T→D}:Ev R p σ f (M.bad:M T) (pD e p σ):=fun _ _=>trivial
end
end Vw
namespace Vw
open PySem L2
end Vw
namespace Vw
open PySem L2
end Vw
namespace Vw
open PySem L2
end Vw
namespace Vw
open PySem L2
end Vw
namespace Vw
open PySem L2
end Vw
namespace Vw
open PySem L2
end Vw
namespace K82
open PySem L2 PyProof.Rows Vw
def lL(p5:Int)(cI:Int):M Int:=((((((mulM cI cI).bind fun a1=>mulM a1 (7919:Int)).bind fun a2=>M.ok ((p5%(2147483647:Int))+a2)).bind fun a3=>M.ok (a3+(104729:Int))).bind fun a4=>mulM a4 (48271:Int)).bind fun a5=>M.ok (a5%(2147483647:Int))).bind fun mU=>(((mulM mU mU).bind fun a7=>(mulM (69621:Int) cI).bind fun a8=>M.ok (a7+a8)).bind fun a9=>M.ok (a9%(2147483629:Int))).bind fun v10=>M.ok (v10)
theorem DC{R:List Ob→Prop}{σ:List Ob}{p5:Int}{cI:Int}:fQ R lV [.d (D.int p5),.d (D.int cI)] σ (lL p5 cI) (fun v=>(.val (.d (D.int v)),σ)):=(gq (aL (fun mU=>[some (.v (.d (D.int p5))),some (.v (.d (D.int cI))),some (.v (.d (D.int mU)))]) (bY (bV (sv (bV (sv (bV (sv (cC (sv (au (sv (aj (a:=p5) (e:=D.int) rfl)) (sv (cD D.int (2147483647:Int))) (gy (a:=p5) (b:=(2147483647:Int)) (by decide)))) (sv (bV (sv (au (sv (aj (a:=cI) (e:=D.int) rfl)) (sv (aj (a:=cI) (e:=D.int) rfl)) rC)) (fun a1=>(sv (cD D.int (7919:Int)))) fun a1=>rC)) fun a2=>di)) (fun a3=>(sv (cD D.int (104729:Int)))) fun a3=>di)) (fun a4=>(sv (cD D.int (48271:Int)))) fun a4=>rC)) (fun a5=>(sv (cD D.int (2147483647:Int)))) fun a5=>(gy (a:=a5) (b:=(2147483647:Int)) (by decide)))) (fun _=>rfl) fun mU=>(aV (fm (φ:=fun v10=>v10) (bV (sv (iM (sv (au (sv (aj (a:=mU) (e:=D.int) rfl)) (sv (aj (a:=mU) (e:=D.int) rfl)) rC)) (fun a7=>(sv (au (sv (cD D.int (69621:Int))) (sv (aj (a:=cI) (e:=D.int) rfl)) rC))) fun a7 a8=>di)) (fun a9=>(sv (cD D.int (2147483629:Int)))) fun a9=>(gy (a:=a9) (b:=(2147483629:Int)) (by decide))) fun _=>rfl))))
def iG(er:List Int)(cI:Int)(iw:Int):M ((List Int)):=(og (dg er (none:Option Int) (some (63:Int))) [cI]).bind fun du=>(kr (fun(kT:Int)=>M.ok true) (fun(kT:Int)=>M.ok (kT/(100000:Int))) du).bind fun qZ=>((j3 0 (cI+iw)).bind fun a4=>foldM (fun(c5:List Int×List Int) (k6:Int)=>(ic k6 (du.length:Int)).bind fun at_7=>(((cT du at_7).bind fun a8=>(M.ok ()).bind fun w9=>M.ok (a8,w9)).bind fun z10=>nox (lL z10.1 k6)).bind fun jb=>(((mulM jb jb).bind fun a12=>(mulM (7:Int) k6).bind fun a13=>M.ok (a12+a13)).bind fun a14=>M.ok (a14%(2147483587:Int))).bind fun mV=>(((andM ((cT du at_7).bind fun a16=>(BZ (10:Int) (18:Int)).bind fun a17=>M.ok (decide (a17≤a16))) ((cT c5.1 at_7).bind fun a18=>M.ok (decide ((0:Int)<a18)))).bind fun b19=>if b19=true then(((cT c5.1 at_7).bind fun a27=>M.ok (a27%(2147483587:Int))).bind fun lp=>(((cT c5.1 at_7).bind fun a29=>M.ok (a29/(2147483587:Int))).bind fun a31=>(M.ok at_7).bind fun a32=>setM c5.1 a32 a31).bind fun oF=>M.ok (oF,lp))else(M.ok (c5.1,mV))):M (List Int×Int)).bind fun j26=>(iN c5.2 j26.2).bind fun oG=>M.ok (j26.1,oG)) (qZ,([]:List Int)) a4).bind fun r34=>M.ok ((dg r34.2 (some cI) (none:Option Int)))
theorem B0{R:List Ob→Prop}{σ:List Ob}{er:List Int}{cI:Int}{iw:Int}:fQ R cM [.d ((eL D.int) er),.d (D.int cI),.d (D.int iw)] σ (iG er cI iw) (fun v=>(.new ((oL D.int) v),σ)):=(gq (aL (fun du=>[some (.v (.d ((eL D.int) er))),some (.v (.d (D.int cI))),some (.v (.d (D.int iw))),some (.own ((oL D.int) du)),none,none,none,none,none,none]) (nV (au (sn (bL (sv (aj (a:=er) (e:=(eL D.int)) rfl)) pn (pe (sv (cD D.int (63:Int)))) (Jo ck)) (fun v=>bS _ v)) (sn (Ev.b6 (post2:=(pN (oL D.int) _ _)) (bH (l:=fun _=>([cI]:List Int)) (e:=D.int) (af (sv (aj (a:=cI) (e:=D.int) rfl)) ai) (fun _=>(.d .nil)) (fun _=>rfl) (fun _=>rfl)) rfl) (fun v=>bS _ v)) (add_l ck ck))) (fun _=>rfl) fun du=>(aL (fun qZ=>[some (.v (.d ((eL D.int) er))),some (.v (.d (D.int cI))),some (.v (.d (D.int iw))),some (.v (.d ((eL D.int) du))),some (.own ((oL D.int) qZ)),none,none,none,none,none]) (nV (Dc (q:=[some (.v (.d ((eL D.int) er))),some (.v (.d (D.int cI))),some (.v (.d (D.int iw))),some (.v (.d ((eL D.int) du))),none,none,none,none,none,none]) (p2:=fun(kT:Int)=>[some (.v (.d ((eL D.int) er))),some (.v (.d (D.int cI))),some (.v (.d (D.int iw))),some (.v (.d ((eL D.int) du))),none,none,none,none,none,some (.v (.d (D.int kT)))]) (p3:=fun(kT:Int)=>[some (.v (.d ((eL D.int) er))),some (.v (.d (D.int cI))),some (.v (.d (D.int iw))),some (.v (.d ((eL D.int) du))),none,none,none,none,none,some (.v (.d (D.int kT)))]) (mt:=(fun(kT:Int)=>M.ok true)) (me:=(fun(kT:Int)=>M.ok (kT/(100000:Int)))) (e:=D.int) (Hc rfl) rfl (fun(kT:Int)=>⟨jD,kH,(qi (au (sv (aj (a:=kT) (e:=D.int) rfl)) (sv (cD D.int (100000:Int))) (eD (a:=kT) (b:=(100000:Int)) (iF (by decide) (by decide)))))⟩) (fun _=>by(repeat' (first | exact trivial | refine And.intro rfl ?_))) (fun _=>by(repeat' (first | exact trivial | refine And.intro rfl ?_))))) (fun _=>rfl) fun qZ=>(eB [some (.v (.d ((eL D.int) er))),some (.v (.d (D.int cI))),some (.v (.d (D.int iw))),some (.v (.d ((eL D.int) du))),some (.own ((oL D.int) qZ)),some (.own ((oL D.int) ([]:List Int))),none,none,none,none] (nV (Ev.b6 (post2:=(pN (oL D.int) _ _)) (bH (l:=fun _=>([]:List Int)) (e:=D.int) ai (fun _=>.nil) (fun _=>rfl) (fun _=>rfl)) rfl)) rfl (qh (Am (P:=fun(c5:List Int×List Int)=>[some (.v (.d ((eL D.int) er))),some (.v (.d (D.int cI))),some (.v (.d (D.int iw))),some (.v (.d ((eL D.int) du))),some (.own ((oL D.int) c5.1)),some (.own ((oL D.int) c5.2)),none,none,none,none]) (S:=fun(c5:List Int×List Int)=>σ) (lA:=(fun(a4:List Int)=>a4)) (c0:=fun(a4:List Int)=>(qZ,([]:List Int))) (mb:=(fun(c5:List Int×List Int) (k6:Int)=>(ic k6 (du.length:Int)).bind fun at_7=>(((cT du at_7).bind fun a8=>(M.ok ()).bind fun w9=>M.ok (a8,w9)).bind fun z10=>nox (lL z10.1 k6)).bind fun jb=>(((mulM jb jb).bind fun a12=>(mulM (7:Int) k6).bind fun a13=>M.ok (a12+a13)).bind fun a14=>M.ok (a14%(2147483587:Int))).bind fun mV=>(((andM ((cT du at_7).bind fun a16=>(BZ (10:Int) (18:Int)).bind fun a17=>M.ok (decide (a17≤a16))) ((cT c5.1 at_7).bind fun a18=>M.ok (decide ((0:Int)<a18)))).bind fun b19=>if b19=true then(((cT c5.1 at_7).bind fun a27=>M.ok (a27%(2147483587:Int))).bind fun lp=>(((cT c5.1 at_7).bind fun a29=>M.ok (a29/(2147483587:Int))).bind fun a31=>(M.ok at_7).bind fun a32=>setM c5.1 a32 a31).bind fun oF=>M.ok (oF,lp))else(M.ok (c5.1,mV))):M (List Int×Int)).bind fun j26=>(iN c5.2 j26.2).bind fun oG=>M.ok (j26.1,oG))) (BP (af (sv (au (sv (aj (a:=cI) (e:=D.int) rfl)) (sv (aj (a:=iw) (e:=D.int) rfl)) di)) ai) yO) (fun _=>by(repeat' (first | exact trivial | refine And.intro rfl ?_))) (fun _=>rfl) (fun c5 k6=>jD) (fun c5 k6=>(aL (fun at_7=>[some (.v (.d ((eL D.int) er))),some (.v (.d (D.int cI))),some (.v (.d (D.int iw))),some (.v (.d ((eL D.int) du))),some (.own ((oL D.int) c5.1)),some (.own ((oL D.int) c5.2)),some (.v (.d (D.int k6))),some (.v (.d (D.int at_7))),none,none]) (bY (au (sv (aj (a:=k6) (e:=D.int) rfl)) (sv (eC (af (sv (aj (a:=du) (e:=(eL D.int)) rfl)) ai) (oh ck))) jH)) (fun _=>rfl) fun at_7=>(aL (fun jb=>[some (.v (.d ((eL D.int) er))),some (.v (.d (D.int cI))),some (.v (.d (D.int iw))),some (.v (.d ((eL D.int) du))),some (.own ((oL D.int) c5.1)),some (.own ((oL D.int) c5.2)),some (.v (.d (D.int k6))),some (.v (.d (D.int at_7))),some (.v (.d (D.int jb))),none]) (bY (hG (R':=R) (post:=(pD D.int _ _)) (aF (sv (au (sv (aj (a:=du) (e:=(eL D.int)) rfl)) (sv (aj (a:=at_7) (e:=D.int) rfl)) (gE ck))) fun a8=>(af (sv (aj (a:=k6) (e:=D.int) rfl)) ai)) (fun _=>(.d (.d .nil))) (fun _=>rfl) (fun z10=>(DC (p5:=z10.1) (cI:=k6))) (fun _ _=>rfl))) (fun _=>rfl) fun jb=>(aL (fun mV=>[some (.v (.d ((eL D.int) er))),some (.v (.d (D.int cI))),some (.v (.d (D.int iw))),some (.v (.d ((eL D.int) du))),some (.own ((oL D.int) c5.1)),some (.own ((oL D.int) c5.2)),some (.v (.d (D.int k6))),some (.v (.d (D.int at_7))),some (.v (.d (D.int mV))),none]) (bY (bV (sv (iM (sv (au (sv (aj (a:=jb) (e:=D.int) rfl)) (sv (aj (a:=jb) (e:=D.int) rfl)) rC)) (fun a12=>(sv (au (sv (cD D.int (7:Int))) (sv (aj (a:=k6) (e:=D.int) rfl)) rC))) fun a12 a13=>di)) (fun a14=>(sv (cD D.int (2147483587:Int)))) fun a14=>(gy (a:=a14) (b:=(2147483587:Int)) (by decide)))) (fun _=>rfl) fun mV=>(uE (b:=fun v=>v) (Pc:=fun(j26:List Int×Int)=>[some (.v (.d ((eL D.int) er))),some (.v (.d (D.int cI))),some (.v (.d (D.int iw))),some (.v (.d ((eL D.int) du))),some (.own ((oL D.int) j26.1)),some (.own ((oL D.int) c5.2)),some (.v (.d (D.int k6))),some (.v (.d (D.int at_7))),some (.v (.d (D.int j26.2))),none]) (Sc:=fun(j26:List Int×Int)=>σ) (om (tB (b:=fun v=>v) (sv (iM (sv (au (sv (aj (a:=du) (e:=(eL D.int)) rfl)) (sv (aj (a:=at_7) (e:=D.int) rfl)) (gE ck))) (fun a16=>(sv (au (sv (cD D.int (10:Int))) (sv (cD D.int (18:Int))) MF))) fun a16 a17=>Ni))) (lZ (tB (b:=fun v=>v) (sv (bV (sv (au (jd (jc (a:=c5.1) rfl)) (sv (aj (a:=at_7) (e:=D.int) rfl)) (gE (mj rfl)))) (fun a18=>(sv (cD D.int (0:Int)))) fun a18=>rR))))) (fun b19=>(aL (fun lp=>[some (.v (.d ((eL D.int) er))),some (.v (.d (D.int cI))),some (.v (.d (D.int iw))),some (.v (.d ((eL D.int) du))),some (.own ((oL D.int) c5.1)),some (.own ((oL D.int) c5.2)),some (.v (.d (D.int k6))),some (.v (.d (D.int at_7))),some (.v (.d (D.int lp))),none]) (bY (bV (sv (au (jd (jc (a:=c5.1) rfl)) (sv (aj (a:=at_7) (e:=D.int) rfl)) (gE (mj rfl)))) (fun a27=>(sv (cD D.int (2147483587:Int)))) fun a27=>(gy (a:=a27) (b:=(2147483587:Int)) (by decide)))) (fun _=>rfl) fun lp=>(aL (fun oF=>[some (.v (.d ((eL D.int) er))),some (.v (.d (D.int cI))),some (.v (.d (D.int iw))),some (.v (.d ((eL D.int) du))),some (.own ((oL D.int) oF)),some (.own ((oL D.int) c5.2)),some (.v (.d (D.int k6))),some (.v (.d (D.int at_7))),some (.v (.d (D.int lp))),none]) (KA rfl (sv (bV (sv (au (jd (jc (a:=c5.1) rfl)) (sv (aj (a:=at_7) (e:=D.int) rfl)) (gE (mj rfl)))) (fun a29=>(sv (cD D.int (2147483587:Int)))) fun a29=>(eD (a:=a29) (b:=(2147483587:Int)) (iF (by decide) (by decide))))) (fun _=>(sv (aj (a:=at_7) (e:=D.int) rfl)))) (fun _=>rfl) fun oF=>(iu rfl (by(repeat' (first | exact trivial | refine And.intro rfl ?_))))))) (fun b19=>(iu rfl (by(repeat' (first | exact trivial | refine And.intro rfl ?_))))) fun j26=>(aL (fun oG=>[some (.v (.d ((eL D.int) er))),some (.v (.d (D.int cI))),some (.v (.d (D.int iw))),some (.v (.d ((eL D.int) du))),some (.own ((oL D.int) j26.1)),some (.own ((oL D.int) oG)),some (.v (.d (D.int k6))),some (.v (.d (D.int at_7))),some (.v (.d (D.int j26.2))),none]) (je (D3 (jd (jc (a:=c5.2) rfl)) (fun _ hf=>wM (mj rfl) hf) (af (sv (aj (a:=j26.2) (e:=D.int) rfl)) ai) (uA rfl))) (fun _=>rfl) fun oG=>(qk rfl (by(repeat' (first | exact trivial | refine And.intro rfl ?_))))))))))) fun r34=>(aV (N6 (bL (jd (jc (a:=r34.2) rfl)) (pe (sv (aj (a:=cI) (e:=D.int) rfl))) pn (Jo (mj rfl))) rfl)))))))
def dy(aX:List Int):M (Int×List Int):=(if(eqB aX ([]:List Int))=true then(M.ok (((0:Int),aX)))else((BX aX).bind fun v1=>M.ok (v1)))
theorem iZ{R:List Ob→Prop}{S:(List Int)→List Ob}{n:Nat}(hr:∀ d,(S d)[n]? =some ((oL D.int) d))(hw:∀ d d',(S d).set n ((oL D.int) d')=S d'){aX:List Int}:fQ R cz [.r n] (S aX) (dy aX) (fun v=>(.val (.d (D.int v.1)),S v.2)):=(gq (gj (dU (sv (au (sv (cj (a:=aX) rfl)) (sn (Ev.b6 (post2:=(pN (oL D.int) _ _)) (bH (l:=fun _=>([]:List Int)) (e:=D.int) ai (fun _=>.nil) (fun _=>rfl) (fun _=>rfl)) rfl) (fun v=>bS _ v)) (cW (K4 (hr _)).pv aT (qL qI) (by decide))))) (aV (il (cD D.int (0:Int)) rfl)) (aV (fm (φ:=fun v1=>v1) (D3 (sv (cj (a:=aX) rfl)) (fun _ hf=>wM (K4 (hr _)) hf) ai (LS (hr _) (hw _))) fun _=>rfl))))
def mY(aX:List Int):M ((List (List Nat))×List Int):=(nox (dy aX)).bind fun ar=>((bc (sS "abc1b2acb") (some (ar.1%(7:Int))) (none:Option Int)).bind fun a2=>(M.ok ()).bind fun l3=>(M.ok ((ar.1/(7:Int))%(3:Int))).bind fun h4=>bc a2 (none:Option Int) (some h4)).bind fun kv=>((((aY kv (sS "a")).bind fun a6=>((aY kv (sS "b")).bind fun a7=>((aY kv (sS "ab")).bind fun a8=>((aY (sS "a") kv).bind fun a9=>(M.ok ()).bind fun w10=>M.ok (a9,w10)).bind fun w11=>M.ok (a8,w11)).bind fun w12=>M.ok (a7,w12)).bind fun w13=>M.ok (a6,w13)).bind fun z14=>M.ok [z14.1,z14.2.1,z14.2.2.1,z14.2.2.2.1,(sS "c0")]).bind fun a15=>(((((cT [(1:Int),(2:Int),(3:Int),(12:Int)] ((ar.1/(21:Int))%(4:Int))).bind fun a16=>oU (sS "abc") a16).bind fun a17=>aY kv a17).bind fun a18=>(M.ok ()).bind fun w19=>M.ok (a18,w19)).bind fun z20=>M.ok [z20.1]).bind fun a21=>og a15 a21).bind fun v22=>M.ok ((v22,ar.2))
theorem B7{R:List Ob→Prop}{S:(List Int)→List Ob}{n:Nat}(hr:∀ d,(S d)[n]? =some ((oL D.int) d))(hw:∀ d d',(S d).set n ((oL D.int) d')=S d'){aX:List Int}:fQ R jQ [.r n] (S aX) (mY aX) (fun v=>(.new ((oL D.str) v.1),S v.2)):=(gq (aL (fun ar=>[some (.v (.r n)),some (.v (.d (D.int ar.1))),none]) (bY (cq (R':=R) (post:=(pE D.int _ S)) (af (sv (cj (a:=aX) rfl)) ai) (.d .nil) rfl (iZ (aX:=aX) hr hw) (fun _=>rfl))) (fun _=>rfl) fun ar=>(aL (fun kv=>[some (.v (.r n)),some (.v (.d (D.int ar.1))),some (.v (.d (D.str kv)))]) (bY (Fg (lo':=(fun _=>none)) (hi':=some) (mk:=fun a2 l h=>bc a2 l h) (sv (bL (sv (cD D.str (sS "abc1b2acb"))) (pe (sv (au (sv (aj (a:=ar.1) (e:=D.int) rfl)) (sv (cD D.int (7:Int))) (gy (a:=ar.1) (b:=(7:Int)) (by decide))))) pn cn)) (fun _=>pn) (fun _=>(pe (sv (au (sv (au (sv (aj (a:=ar.1) (e:=D.int) rfl)) (sv (cD D.int (7:Int))) (eD (a:=ar.1) (b:=(7:Int)) (iF (by decide) (by decide))))) (sv (cD D.int (3:Int))) (gy (a:=(ar.1/(7:Int))) (b:=(3:Int)) (by decide)))))) (fun _ _ _=>cn))) (fun _=>rfl) fun kv=>(aV (Nb (φ:=fun v22=>(v22,ar.2)) (iM (sn (Ev.map (fun(z14:List Nat×(List Nat×(List Nat×(List Nat×Unit))))=>[z14.1,z14.2.1,z14.2.2.1,z14.2.2.2.1,(sS "c0")]) (pN (oL D.str) _ _) (bH (l:=fun z14=>([z14.1,z14.2.1,z14.2.2.1,z14.2.2.2.1,(sS "c0")]:List (List Nat))) (e:=D.str) (aF (sv (au (sv (aj (a:=kv) (e:=D.str) rfl)) (sv (cD D.str (sS "a"))) bQ)) fun a6=>(aF (sv (au (sv (aj (a:=kv) (e:=D.str) rfl)) (sv (cD D.str (sS "b"))) bQ)) fun a7=>(aF (sv (au (sv (aj (a:=kv) (e:=D.str) rfl)) (sv (cD D.str (sS "ab"))) bQ)) fun a8=>(aF (sv (au (sv (cD D.str (sS "a"))) (sv (aj (a:=kv) (e:=D.str) rfl)) bQ)) fun a9=>(af (sv (cD D.str (sS "c0"))) ai))))) (fun _=>(.d (.d (.d (.d (.d .nil)))))) (fun _=>rfl) (fun _=>rfl)) fun _=>rfl) (fun v=>bS _ v)) (fun a15=>(sn (Ev.map (fun(z20:List Nat×Unit)=>[z20.1]) (pN (oL D.str) _ _) (bH (l:=fun z20=>([z20.1]:List (List Nat))) (e:=D.str) (aF (sv (cC (sv (aj (a:=kv) (e:=D.str) rfl)) (sv (cC (sv (cD D.str (sS "abc"))) (sv (au (sn (Ev.b6 (post2:=(pN (oL D.int) _ _)) (bH (l:=fun _=>([(1:Int),(2:Int),(3:Int),(12:Int)]:List Int)) (e:=D.int) (af (sv (cD D.int (1:Int))) (af (sv (cD D.int (2:Int))) (af (sv (cD D.int (3:Int))) (af (sv (cD D.int (12:Int))) ai)))) (fun _=>(.d (.d (.d (.d .nil))))) (fun _=>rfl) (fun _=>rfl)) rfl) (fun v=>bS _ v)) (sv (au (sv (au (sv (aj (a:=ar.1) (e:=D.int) rfl)) (sv (cD D.int (21:Int))) (eD (a:=ar.1) (b:=(21:Int)) (iF (by decide) (by decide))))) (sv (cD D.int (4:Int))) (gy (a:=(ar.1/(21:Int))) (b:=(4:Int)) (by decide)))) (gE ck))) fun a16=>An)) fun a17=>bQ)) fun a18=>ai) (fun _=>(.d .nil)) (fun _=>rfl) (fun _=>rfl)) fun _=>rfl) (fun v=>bS _ v))) fun a15 a21=>(add_l ck ck)) fun _=>rfl)))))
def lG(aX:List Int):M (List Nat×List Int):=(((nox (dy aX)).bind fun a1=>M.ok ((a1.1%(6:Int)),a1.2)).bind fun a2=>(cT [(sS "title"),(sS "body"),(sS "h"),(sS "*"),(sS "*"),(sS "zz")] a2.1).bind fun v=>M.ok (v,a2.2)).bind fun v3=>M.ok (v3)
theorem Bx{R:List Ob→Prop}{S:(List Int)→List Ob}{n:Nat}(hr:∀ d,(S d)[n]? =some ((oL D.int) d))(hw:∀ d d',(S d).set n ((oL D.int) d')=S d'){aX:List Int}:fQ R j0 [.r n] (S aX) (lG aX) (fun v=>(.val (.d (D.str v.1)),S v.2)):=(gq (aV (fm (φ:=fun v3=>v3) (cC (sn (Ev.b6 (post2:=(pN (oL D.str) _ _)) (bH (l:=fun _=>([(sS "title"),(sS "body"),(sS "h"),(sS "*"),(sS "*"),(sS "zz")]:List (List Nat))) (e:=D.str) (af (sv (cD D.str (sS "title"))) (af (sv (cD D.str (sS "body"))) (af (sv (cD D.str (sS "h"))) (af (sv (cD D.str (sS "*"))) (af (sv (cD D.str (sS "*"))) (af (sv (cD D.str (sS "zz"))) ai)))))) (fun _=>(.d (.d (.d (.d (.d (.d .nil))))))) (fun _=>rfl) (fun _=>rfl)) rfl) (fun v=>bS _ v)) (sv (bV (sv (cq (R':=R) (post:=(pE D.int _ S)) (af (sv (cj (a:=aX) rfl)) ai) (.d .nil) rfl (iZ (aX:=aX) hr hw) (fun _=>rfl))) (fun a1=>(sv (cD D.int (6:Int)))) fun a1=>(Ev.b6 (post2:=(pE D.int _ S)) (gy (a:=a1.1) (b:=(6:Int)) (by decide)) rfl))) fun a2=>(Ev.map (fun v=>(v,a2.2)) (pE D.str _ S) (gE ck) fun _=>rfl)) fun _=>rfl)))
def jj(aX:List Int)(aP:List (List Nat)):M (List Nat×List Int):=(nox (dy aX)).bind fun ar=>((og aP [(sS "zz")]).bind fun a2=>(ic ar.1 ((aP.length:Int)+(1:Int))).bind fun a3=>cT a2 a3).bind fun fP=>((i9 fP).bind fun a5=>ic (ar.1/(16:Int)) a5).bind fun at_6=>((((bc fP (none:Option Int) (some at_6)).bind fun a7=>aY a7 (sS "*")).bind fun a8=>(((bc fP (some at_6) (none:Option Int)).bind fun a9=>aY (sS "*") a9).bind fun a10=>((((bc fP (none:Option Int) (some at_6)).bind fun a11=>aY a11 (sS "?")).bind fun a12=>(bc fP (some (at_6+(1:Int))) (none:Option Int)).bind fun a13=>aY a12 a13).bind fun a14=>((oU (sS "?") ((1:Int)+at_6)).bind fun a15=>(M.ok ()).bind fun w16=>M.ok (a15,w16)).bind fun w17=>M.ok (a14,w17)).bind fun w18=>M.ok (a10,w18)).bind fun w19=>M.ok (a8,w19)).bind fun z20=>M.ok [z20.1,z20.2.1,z20.2.2.1,fP,(sS "*"),z20.2.2.2.1]).bind fun q8=>(((((((bc fP (none:Option Int) (some at_6)).bind fun a22=>aY a22 (sS "*")).bind fun a23=>(bc fP (some (at_6+(1:Int))) (none:Option Int)).bind fun a24=>aY a23 a24).bind fun a25=>((((fx fP at_6).bind fun a26=>aY (sS "*") a26).bind fun a27=>aY a27 (sS "*")).bind fun a28=>(M.ok ()).bind fun w29=>M.ok (a28,w29)).bind fun w30=>M.ok (a25,w30)).bind fun z31=>M.ok [z31.1,z31.2.1]).bind fun a32=>og q8 a32).bind fun a33=>cT a33 ((ar.1/(256:Int))%(8:Int))).bind fun v34=>M.ok ((v34,ar.2))
theorem qA{R:List Ob→Prop}{S:(List Int)→List Ob}{n:Nat}(hr:∀ d,(S d)[n]? =some ((oL D.int) d))(hw:∀ d d',(S d).set n ((oL D.int) d')=S d'){aX:List Int}{aP:List (List Nat)}:fQ R jq [.r n,.d ((eL D.str) aP)] (S aX) (jj aX aP) (fun v=>(.val (.d (D.str v.1)),S v.2)):=(gq (aL (fun ar=>[some (.v (.r n)),some (.v (.d ((eL D.str) aP))),some (.v (.d (D.int ar.1))),none,none,none]) (bY (cq (R':=R) (post:=(pE D.int _ S)) (af (sv (cj (a:=aX) rfl)) ai) (.d .nil) rfl (iZ (aX:=aX) hr hw) (fun _=>rfl))) (fun _=>rfl) fun ar=>(aL (fun fP=>[some (.v (.r n)),some (.v (.d ((eL D.str) aP))),some (.v (.d (D.int ar.1))),some (.v (.d (D.str fP))),none,none]) (bY (iM (sn (au (sv (aj (a:=aP) (e:=(eL D.str)) rfl)) (sn (Ev.b6 (post2:=(pN (oL D.str) _ _)) (bH (l:=fun _=>([(sS "zz")]:List (List Nat))) (e:=D.str) (af (sv (cD D.str (sS "zz"))) ai) (fun _=>(.d .nil)) (fun _=>rfl) (fun _=>rfl)) rfl) (fun v=>bS _ v)) (add_l ck ck)) (fun v=>bS _ v)) (fun a2=>(sv (au (sv (aj (a:=ar.1) (e:=D.int) rfl)) (sv (au (sv (eC (af (sv (aj (a:=aP) (e:=(eL D.str)) rfl)) ai) (oh ck))) (sv (cD D.int (1:Int))) di)) jH))) fun a2 a3=>(gE ck))) (fun _=>rfl) fun fP=>(aL (fun at_6=>[some (.v (.r n)),some (.v (.d ((eL D.str) aP))),some (.v (.d (D.int ar.1))),some (.v (.d (D.str fP))),some (.v (.d (D.int at_6))),none]) (bY (cC (sv (au (sv (aj (a:=ar.1) (e:=D.int) rfl)) (sv (cD D.int (16:Int))) (eD (a:=ar.1) (b:=(16:Int)) (iF (by decide) (by decide))))) (sv (eC (af (sv (aj (a:=fP) (e:=D.str) rfl)) ai) ox)) fun a5=>jH)) (fun _=>rfl) fun at_6=>(aL (fun q8=>[some (.v (.r n)),some (.v (.d ((eL D.str) aP))),some (.v (.d (D.int ar.1))),some (.v (.d (D.str fP))),some (.v (.d (D.int at_6))),some (.own ((oL D.str) q8))]) (nV (Ev.map (fun(z20:List Nat×(List Nat×(List Nat×(List Nat×Unit))))=>[z20.1,z20.2.1,z20.2.2.1,fP,(sS "*"),z20.2.2.2.1]) (pN (oL D.str) _ _) (bH (l:=fun z20=>([z20.1,z20.2.1,z20.2.2.1,fP,(sS "*"),z20.2.2.2.1]:List (List Nat))) (e:=D.str) (aF (sv (bV (sv (bL (sv (aj (a:=fP) (e:=D.str) rfl)) pn (pe (sv (aj (a:=at_6) (e:=D.int) rfl))) cn)) (fun a7=>(sv (cD D.str (sS "*")))) fun a7=>bQ)) fun a8=>(aF (sv (cC (sv (cD D.str (sS "*"))) (sv (bL (sv (aj (a:=fP) (e:=D.str) rfl)) (pe (sv (aj (a:=at_6) (e:=D.int) rfl))) pn cn)) fun a9=>bQ)) fun a10=>(aF (sv (iM (sv (bV (sv (bL (sv (aj (a:=fP) (e:=D.str) rfl)) pn (pe (sv (aj (a:=at_6) (e:=D.int) rfl))) cn)) (fun a11=>(sv (cD D.str (sS "?")))) fun a11=>bQ)) (fun a12=>(sv (bL (sv (aj (a:=fP) (e:=D.str) rfl)) (pe (sv (au (sv (aj (a:=at_6) (e:=D.int) rfl)) (sv (cD D.int (1:Int))) di))) pn cn))) fun a12 a13=>bQ)) fun a14=>(af (sv (aj (a:=fP) (e:=D.str) rfl)) (af (sv (cD D.str (sS "*"))) (aF (sv (au (sv (cD D.str (sS "?"))) (sv (au (sv (cD D.int (1:Int))) (sv (aj (a:=at_6) (e:=D.int) rfl)) di)) An)) fun a15=>ai)))))) (fun _=>(.d (.d (.d (.d (.d (.d .nil))))))) (fun _=>rfl) (fun _=>rfl)) fun _=>rfl)) (fun _=>rfl) fun q8=>(aV (fm (φ:=fun v34=>(v34,ar.2)) (bV (sn (cC (jd (jc (a:=q8) rfl)) (sn (Ev.map (fun(z31:List Nat×(List Nat×Unit))=>[z31.1,z31.2.1]) (pN (oL D.str) _ _) (bH (l:=fun z31=>([z31.1,z31.2.1]:List (List Nat))) (e:=D.str) (aF (sv (iM (sv (bV (sv (bL (sv (aj (a:=fP) (e:=D.str) rfl)) pn (pe (sv (aj (a:=at_6) (e:=D.int) rfl))) cn)) (fun a22=>(sv (cD D.str (sS "*")))) fun a22=>bQ)) (fun a23=>(sv (bL (sv (aj (a:=fP) (e:=D.str) rfl)) (pe (sv (au (sv (aj (a:=at_6) (e:=D.int) rfl)) (sv (cD D.int (1:Int))) di))) pn cn))) fun a23 a24=>bQ)) fun a25=>(aF (sv (bV (sv (cC (sv (cD D.str (sS "*"))) (sv (au (sv (aj (a:=fP) (e:=D.str) rfl)) (sv (aj (a:=at_6) (e:=D.int) rfl)) nH)) fun a26=>bQ)) (fun a27=>(sv (cD D.str (sS "*")))) fun a27=>bQ)) fun a28=>ai)) (fun _=>(.d (.d .nil))) (fun _=>rfl) (fun _=>rfl)) fun _=>rfl) (fun v=>bS _ v)) fun a32=>(add_l (mj rfl) ck)) (fun v=>bS _ v)) (fun a33=>(sv (au (sv (au (sv (aj (a:=ar.1) (e:=D.int) rfl)) (sv (cD D.int (256:Int))) (eD (a:=ar.1) (b:=(256:Int)) (iF (by decide) (by decide))))) (sv (cD D.int (8:Int))) (gy (a:=(ar.1/(256:Int))) (b:=(8:Int)) (by decide))))) fun a33=>(gE ck)) fun _=>rfl)))))))
def gv:Nat→(List Int)→(List (List Nat))→Int→M (D×List Int)
 | 0,_,_,_=>.bad
 | k+1,aX,aP,aU=>let recm:=gv k;(nox (dy aX)).bind fun ar=>((if(eqB aU (0:Int))=true then(M.ok ((ar.1%(9:Int))%(5:Int)))else(M.ok (ar.1%(9:Int)))):M Int).bind fun j2=>(if(decide (j2<(5:Int)))=true then((nox (lG ar.2)).bind fun cm=>(if(eqB j2 (0:Int))=true then((((((og aP [(sS "zz")]).bind fun a4=>(ic (ar.1/(9:Int)) ((aP.length:Int)+(1:Int))).bind fun a5=>cT a4 a5).bind fun v=>M.ok (D.str v)).bind fun a6=>(M.ok ()).bind fun w7=>M.ok (a6,w7)).bind fun z8=>M.ok (D.tup [(D.str (sS "word")),(D.str cm.1),z8.1])).bind fun v9=>M.ok ((v9,cm.2)))else((if(eqB j2 (1:Int))=true then(((((nox (jj cm.2 aP)).bind fun v=>M.ok (D.str v.1,v.2)).bind fun a10=>(M.ok ()).bind fun w11=>M.ok (a10,w11)).bind fun z12=>M.ok ((D.tup [(D.str (sS "like")),(D.str cm.1),z12.1.1]),z12.1.2)).bind fun v13=>M.ok (v13))else((if(decide (j2<(5:Int)))=true then((((cT [(4:Int),(6:Int)] ((ar.1/(2000:Int))%(2:Int))).bind fun a14=>ic (ar.1/(18:Int)) a14).bind fun a15=>M.ok ((1:Int)+a15)).bind fun kf=>((j3 0 kf).bind fun a22=>kL (fun k17 c18=>M.ok true) (fun k17 c18=>((nox (dy c18)).bind fun a19=>(cT [(2:Int),(aP.length:Int)] ((ar.1/(9:Int))%(2:Int))).bind fun a20=>(ic a19.1 a20).bind fun v=>M.ok (v,a19.2)).bind fun a21=>(cT aP a21.1).bind fun v=>M.ok (v,a21.2)) a22 cm.2).bind fun jt=>(if(eqB j2 (2:Int))=true then(M.ok (((D.tup [(D.str (sS "row")),(D.str cm.1),((eL D.str) jt.1)]),jt.2)))else(((((cT [(sS "near"),(sS "chain")] (j2-(3:Int))).bind fun v=>M.ok (D.str v)).bind fun a24=>(((((cT [(9:Int),(20:Int)] ((ar.1/(4000:Int))%(2:Int))).bind fun a25=>ic (ar.1/(72:Int)) a25).bind fun a26=>M.ok ((1:Int)+a26)).bind fun v=>M.ok (D.int v)).bind fun a27=>(M.ok ()).bind fun w28=>M.ok (a27,w28)).bind fun w29=>M.ok (a24,w29)).bind fun z30=>M.ok (D.tup [z30.1,(D.str cm.1),z30.2.1,((eL D.str) jt.1)])).bind fun v31=>M.ok ((v31,jt.2)))))else((if(eqB j2 (5:Int))=true then((((nox (recm cm.2 aP (aU-(1:Int)))).bind fun a32=>(M.ok ()).bind fun w33=>M.ok (a32,w33)).bind fun z34=>M.ok ((D.tup [(D.str (sS "not")),z34.1.1]),z34.1.2)).bind fun v35=>M.ok (v35))else((((((cT [(4:Int),(4:Int),(4:Int),(3:Int)] aU).bind fun a36=>ic (ar.1/(9:Int)) a36).bind fun a37=>(M.ok ()).bind fun w38=>M.ok (a37,w38)).bind fun z39=>j3 0 z39.1).bind fun a42=>kL (fun k40 c41=>M.ok true) (fun k40 c41=>nox (recm c41 aP (aU-(1:Int)))) a42 cm.2).bind fun nA=>((((cT [(sS "both"),(sS "one")] (j2%(2:Int))).bind fun v=>M.ok (D.str v)).bind fun a44=>(M.ok ()).bind fun w45=>M.ok (a44,w45)).bind fun z46=>M.ok (D.tup [z46.1,((eL eY) nA.1)])).bind fun v47=>M.ok ((v47,nA.2)))))))))))else((if(eqB j2 (0:Int))=true then((((((M.bad:M (List Nat))).bind fun v=>M.ok (D.str v)).bind fun a48=>((((og aP [(sS "zz")]).bind fun a49=>(ic (ar.1/(9:Int)) ((aP.length:Int)+(1:Int))).bind fun a50=>cT a49 a50).bind fun v=>M.ok (D.str v)).bind fun a51=>(M.ok ()).bind fun w52=>M.ok (a51,w52)).bind fun w53=>M.ok (a48,w53)).bind fun z54=>M.ok (D.tup [(D.str (sS "word")),z54.1,z54.2.1])).bind fun v55=>M.ok ((v55,ar.2)))else((if(eqB j2 (1:Int))=true then((((((M.bad:M (List Nat))).bind fun v=>M.ok (D.str v)).bind fun a56=>(((nox (jj ar.2 aP)).bind fun v=>M.ok (D.str v.1,v.2)).bind fun a57=>(M.ok ()).bind fun w58=>M.ok (a57,w58)).bind fun w59=>M.ok (a56,w59)).bind fun z60=>M.ok ((D.tup [(D.str (sS "like")),z60.1,z60.2.1.1]),z60.2.1.2)).bind fun v61=>M.ok (v61))else((if(decide (j2<(5:Int)))=true then((((cT [(4:Int),(6:Int)] ((ar.1/(2000:Int))%(2:Int))).bind fun a62=>ic (ar.1/(18:Int)) a62).bind fun a63=>M.ok ((1:Int)+a63)).bind fun mq=>((j3 0 mq).bind fun a70=>kL (fun k65 c66=>M.ok true) (fun k65 c66=>((nox (dy c66)).bind fun a67=>(cT [(2:Int),(aP.length:Int)] ((ar.1/(9:Int))%(2:Int))).bind fun a68=>(ic a67.1 a68).bind fun v=>M.ok (v,a67.2)).bind fun a69=>(cT aP a69.1).bind fun v=>M.ok (v,a69.2)) a70 ar.2).bind fun iB=>(if(eqB j2 (2:Int))=true then((((((M.bad:M (List Nat))).bind fun v=>M.ok (D.str v)).bind fun a72=>(M.ok ()).bind fun w73=>M.ok (a72,w73)).bind fun z74=>M.ok (D.tup [(D.str (sS "row")),z74.1,((eL D.str) iB.1)])).bind fun v75=>M.ok ((v75,iB.2)))else(((((cT [(sS "near"),(sS "chain")] (j2-(3:Int))).bind fun v=>M.ok (D.str v)).bind fun a76=>((((M.bad:M (List Nat))).bind fun v=>M.ok (D.str v)).bind fun a77=>(((((cT [(9:Int),(20:Int)] ((ar.1/(4000:Int))%(2:Int))).bind fun a78=>ic (ar.1/(72:Int)) a78).bind fun a79=>M.ok ((1:Int)+a79)).bind fun v=>M.ok (D.int v)).bind fun a80=>(M.ok ()).bind fun w81=>M.ok (a80,w81)).bind fun w82=>M.ok (a77,w82)).bind fun w83=>M.ok (a76,w83)).bind fun z84=>M.ok (D.tup [z84.1,z84.2.1,z84.2.2.1,((eL D.str) iB.1)])).bind fun v85=>M.ok ((v85,iB.2)))))else((if(eqB j2 (5:Int))=true then((((nox (recm ar.2 aP (aU-(1:Int)))).bind fun a86=>(M.ok ()).bind fun w87=>M.ok (a86,w87)).bind fun z88=>M.ok ((D.tup [(D.str (sS "not")),z88.1.1]),z88.1.2)).bind fun v89=>M.ok (v89))else((((((cT [(4:Int),(4:Int),(4:Int),(3:Int)] aU).bind fun a90=>ic (ar.1/(9:Int)) a90).bind fun a91=>(M.ok ()).bind fun w92=>M.ok (a91,w92)).bind fun z93=>j3 0 z93.1).bind fun a96=>kL (fun k94 c95=>M.ok true) (fun k94 c95=>nox (recm c95 aP (aU-(1:Int)))) a96 ar.2).bind fun nB=>((((cT [(sS "both"),(sS "one")] (j2%(2:Int))).bind fun v=>M.ok (D.str v)).bind fun a98=>(M.ok ()).bind fun w99=>M.ok (a98,w99)).bind fun z100=>M.ok (D.tup [z100.1,((eL eY) nB.1)])).bind fun v101=>M.ok ((v101,nB.2))))))))))))
theorem xY(k:Nat){R:List Ob→Prop}{S:(List Int)→List Ob}{n:Nat}(hr:∀ d,(S d)[n]? =some ((oL D.int) d))(hw:∀ d d',(S d).set n ((oL D.int) d')=S d'){aX:List Int}{aP:List (List Nat)}{aU:Int}:fQ R (dk k) [.r n,.d ((eL D.str) aP),.d (D.int aU)] (S aX) (gv k aX aP aU) (fun v=>(.val (.d (eY v.1)),S v.2)):=by
 induction k generalizing aX aP aU with
 | zero=>exact trivial
 | succ k srec=>
  exact(gq (aL (fun ar=>[some (.v (.r n)),some (.v (.d ((eL D.str) aP))),some (.v (.d (D.int aU))),some (.v (.d (D.int ar.1))),none,none,none,none,none,none]) (bY (cq (R':=R) (post:=(pE D.int _ S)) (af (sv (cj (a:=aX) rfl)) ai) (.d .nil) rfl (iZ (aX:=aX) hr hw) (fun _=>rfl))) (fun _=>rfl) fun ar=>(eB [some (.v (.r n)),some (.v (.d ((eL D.str) aP))),some (.v (.d (D.int aU))),some (.v (.d (D.int ar.1))),some (.v (.d (D.int (ar.1%(9:Int))))),none,none,none,none,none] (bY (au (sv (aj (a:=ar.1) (e:=D.int) rfl)) (sv (cD D.int (9:Int))) (gy (a:=ar.1) (b:=(9:Int)) (by decide)))) rfl (qO (Pc:=fun(j2:Int)=>[some (.v (.r n)),some (.v (.d ((eL D.str) aP))),some (.v (.d (D.int aU))),some (.v (.d (D.int ar.1))),some (.v (.d (D.int j2))),none,none,none,none,none]) (Sc:=fun(j2:Int)=>S ar.2) (dU (sv (au (sv (aj (a:=aU) (e:=D.int) rfl)) (sv (cD D.int (0:Int))) (cW aT aT qI (by decide))))) (eB [some (.v (.r n)),some (.v (.d ((eL D.str) aP))),some (.v (.d (D.int aU))),some (.v (.d (D.int ar.1))),some (.v (.d (D.int ((ar.1%(9:Int))%(5:Int))))),none,none,none,none,none] (bY (au (sv (aj (a:=(ar.1%(9:Int))) (e:=D.int) rfl)) (sv (cD D.int (5:Int))) (gy (a:=(ar.1%(9:Int))) (b:=(5:Int)) (by decide)))) rfl (iu rfl (by(repeat' (first | exact trivial | refine And.intro rfl ?_))))) (iu rfl (by(repeat' (first | exact trivial | refine And.intro rfl ?_)))) fun j2=>(gj (dU (sv (au (sv (aj (a:=j2) (e:=D.int) rfl)) (sv (cD D.int (5:Int))) wF))) (aL (fun cm=>[some (.v (.r n)),some (.v (.d ((eL D.str) aP))),some (.v (.d (D.int aU))),some (.v (.d (D.int ar.1))),some (.v (.d (D.int j2))),none,some (.v (.d (D.str cm.1))),none,none,none]) (bY (cq (R':=R) (post:=(pE D.str _ S)) (af (sv (cj (a:=ar.2) rfl)) ai) (.d .nil) rfl (Bx (aX:=ar.2) hr hw) (fun _=>rfl))) (fun _=>rfl) fun cm=>(gj (dU (sv (au (sv (aj (a:=j2) (e:=D.int) rfl)) (sv (cD D.int (0:Int))) (cW aT aT qI (by decide))))) (aV (fm (φ:=fun v9=>(v9,cm.2)) (Ev.map (fun(z8:D×Unit)=>(D.tup [(D.str (sS "word")),(D.str cm.1),z8.1])) (pD eY _ _) (bI (af (sv (toY (cD D.str (sS "word")))) (af (sv (toY (aj (a:=cm.1) (e:=D.str) rfl))) (aF (sv (toY (iM (sn (au (sv (aj (a:=aP) (e:=(eL D.str)) rfl)) (sn (Ev.b6 (post2:=(pN (oL D.str) _ _)) (bH (l:=fun _=>([(sS "zz")]:List (List Nat))) (e:=D.str) (af (sv (cD D.str (sS "zz"))) ai) (fun _=>(.d .nil)) (fun _=>rfl) (fun _=>rfl)) rfl) (fun v=>bS _ v)) (add_l ck ck)) (fun v=>bS _ v)) (fun a4=>(sv (au (sv (au (sv (aj (a:=ar.1) (e:=D.int) rfl)) (sv (cD D.int (9:Int))) (eD (a:=ar.1) (b:=(9:Int)) (iF (by decide) (by decide))))) (sv (au (sv (eC (af (sv (aj (a:=aP) (e:=(eL D.str)) rfl)) ai) (oh ck))) (sv (cD D.int (1:Int))) di)) jH))) fun a4 a5=>(gE ck)))) fun a6=>ai))) (fun _=>(.d (.d (.d .nil)))) (fun _=>rfl) (fun _=>rfl)) fun _=>rfl) fun _=>rfl)) (gj (dU (sv (au (sv (aj (a:=j2) (e:=D.int) rfl)) (sv (cD D.int (1:Int))) (cW aT aT qI (by decide))))) (aV (fm (φ:=fun v13=>v13) (Ev.map (fun(z12:(D×List Int)×Unit)=>((D.tup [(D.str (sS "like")),(D.str cm.1),z12.1.1]),z12.1.2)) (pE eY _ S) (bI (af (sv (toY (cD D.str (sS "like")))) (af (sv (toY (aj (a:=cm.1) (e:=D.str) rfl))) (aF (sv (Ev.map (fun v=>(D.str v.1,v.2)) (pE eY _ S) (cq (R':=R) (post:=(pE D.str _ S)) (af (sv (cj (a:=cm.2) rfl)) (af (sv (aj (a:=aP) (e:=(eL D.str)) rfl)) ai)) (.d (.d .nil)) rfl (qA (aX:=cm.2) (aP:=aP) hr hw) (fun _=>rfl)) fun _=>rfl)) fun a10=>ai))) (fun _=>(.d (.d (.d .nil)))) (fun _=>rfl) (fun _=>rfl)) fun _=>rfl) fun _=>rfl)) (gj (dU (sv (au (sv (aj (a:=j2) (e:=D.int) rfl)) (sv (cD D.int (5:Int))) wF))) (aL (fun kf=>[some (.v (.r n)),some (.v (.d ((eL D.str) aP))),some (.v (.d (D.int aU))),some (.v (.d (D.int ar.1))),some (.v (.d (D.int j2))),none,some (.v (.d (D.str cm.1))),some (.v (.d (D.int kf))),none,none]) (bY (cC (sv (cD D.int (1:Int))) (sv (cC (sv (au (sv (aj (a:=ar.1) (e:=D.int) rfl)) (sv (cD D.int (18:Int))) (eD (a:=ar.1) (b:=(18:Int)) (iF (by decide) (by decide))))) (sv (au (sn (Ev.b6 (post2:=(pN (oL D.int) _ _)) (bH (l:=fun _=>([(4:Int),(6:Int)]:List Int)) (e:=D.int) (af (sv (cD D.int (4:Int))) (af (sv (cD D.int (6:Int))) ai)) (fun _=>(.d (.d .nil))) (fun _=>rfl) (fun _=>rfl)) rfl) (fun v=>bS _ v)) (sv (au (sv (au (sv (aj (a:=ar.1) (e:=D.int) rfl)) (sv (cD D.int (2000:Int))) (eD (a:=ar.1) (b:=(2000:Int)) (iF (by decide) (by decide))))) (sv (cD D.int (2:Int))) (gy (a:=(ar.1/(2000:Int))) (b:=(2:Int)) (by decide)))) (gE ck))) fun a14=>jH)) fun a15=>di)) (fun _=>rfl) fun kf=>(aL (fun jt=>[some (.v (.r n)),some (.v (.d ((eL D.str) aP))),some (.v (.d (D.int aU))),some (.v (.d (D.int ar.1))),some (.v (.d (D.int j2))),none,some (.v (.d (D.str cm.1))),some (.v (.d (D.int kf))),some (.own ((oL D.str) jt.1)),none]) (nV (wX (q:=[some (.v (.r n)),some (.v (.d ((eL D.str) aP))),some (.v (.d (D.int aU))),some (.v (.d (D.int ar.1))),some (.v (.d (D.int j2))),none,some (.v (.d (D.str cm.1))),some (.v (.d (D.int kf))),none,none]) (p2:=fun k17=>[some (.v (.r n)),some (.v (.d ((eL D.str) aP))),some (.v (.d (D.int aU))),some (.v (.d (D.int ar.1))),some (.v (.d (D.int j2))),none,some (.v (.d (D.str cm.1))),some (.v (.d (D.int kf))),none,some (.v (.d (D.int k17)))]) (p3:=fun k17=>[some (.v (.r n)),some (.v (.d ((eL D.str) aP))),some (.v (.d (D.int aU))),some (.v (.d (D.int ar.1))),some (.v (.d (D.int j2))),none,some (.v (.d (D.str cm.1))),some (.v (.d (D.int kf))),none,some (.v (.d (D.int k17)))]) (S:=S) (lA:=(fun(a22:List Int)=>a22)) (cA:=(fun(a22:List Int)=>cm.2)) (mt:=(fun k17 c18=>M.ok true)) (me:=(fun k17 c18=>((nox (dy c18)).bind fun a19=>(cT [(2:Int),(aP.length:Int)] ((ar.1/(9:Int))%(2:Int))).bind fun a20=>(ic a19.1 a20).bind fun v=>M.ok (v,a19.2)).bind fun a21=>(cT aP a21.1).bind fun v=>M.ok (v,a21.2))) (e:=D.str) (BP (af (sv (aj (a:=kf) (e:=D.int) rfl)) ai) yO) rfl (fun k17 c18=>⟨jD,kH,(qi (cC (sv (aj (a:=aP) (e:=(eL D.str)) rfl)) (sv (iM (sv (cq (R':=R) (post:=(pE D.int _ S)) (af (sv (cj (a:=c18) rfl)) ai) (.d .nil) rfl (iZ (aX:=c18) hr hw) (fun _=>rfl))) (fun a19=>(sv (au (sn (Ev.b6 (post2:=(pN (oL D.int) _ _)) (bH (l:=fun _=>([(2:Int),(aP.length:Int)]:List Int)) (e:=D.int) (af (sv (cD D.int (2:Int))) (af (sv (eC (af (sv (aj (a:=aP) (e:=(eL D.str)) rfl)) ai) (oh ck))) ai)) (fun _=>(.d (.d .nil))) (fun _=>rfl) (fun _=>rfl)) rfl) (fun v=>bS _ v)) (sv (au (sv (au (sv (aj (a:=ar.1) (e:=D.int) rfl)) (sv (cD D.int (9:Int))) (eD (a:=ar.1) (b:=(9:Int)) (iF (by decide) (by decide))))) (sv (cD D.int (2:Int))) (gy (a:=(ar.1/(9:Int))) (b:=(2:Int)) (by decide)))) (gE ck)))) fun a19 a20=>(Ev.map (fun v=>(v,a19.2)) (pE D.int _ S) jH fun _=>rfl))) fun a21=>(Ev.map (fun v=>(v,a21.2)) (pE D.str _ S) (gE ck) fun _=>rfl)))⟩) (fun _=>by(repeat' (first | exact trivial | refine And.intro rfl ?_))) (fun _=>by(repeat' (first | exact trivial | refine And.intro rfl ?_))))) (fun _=>rfl) fun jt=>(gj (dU (sv (au (sv (aj (a:=j2) (e:=D.int) rfl)) (sv (cD D.int (2:Int))) (cW aT aT qI (by decide))))) (aV (il (Ev.b6 (post2:=(pD eY _ _)) (bI (af (sv (toY (cD D.str (sS "row")))) (af (sv (toY (aj (a:=cm.1) (e:=D.str) rfl))) (af (jd (jc (a:=jt.1) rfl)) ai))) (fun _=>(.d (.d (.o rfl (bS _ _) .nil)))) (fun _=>rfl) (fun _=>rfl)) rfl) rfl)) (aV (fm (φ:=fun v31=>(v31,jt.2)) (Ev.map (fun(z30:D×(D×Unit))=>(D.tup [z30.1,(D.str cm.1),z30.2.1,((eL D.str) jt.1)])) (pD eY _ _) (bI (aF (sv (toY (au (sn (Ev.b6 (post2:=(pN (oL D.str) _ _)) (bH (l:=fun _=>([(sS "near"),(sS "chain")]:List (List Nat))) (e:=D.str) (af (sv (cD D.str (sS "near"))) (af (sv (cD D.str (sS "chain"))) ai)) (fun _=>(.d (.d .nil))) (fun _=>rfl) (fun _=>rfl)) rfl) (fun v=>bS _ v)) (sv (au (sv (aj (a:=j2) (e:=D.int) rfl)) (sv (cD D.int (3:Int))) rK)) (gE ck)))) fun a24=>(af (sv (toY (aj (a:=cm.1) (e:=D.str) rfl))) (aF (sv (toY (cC (sv (cD D.int (1:Int))) (sv (cC (sv (au (sv (aj (a:=ar.1) (e:=D.int) rfl)) (sv (cD D.int (72:Int))) (eD (a:=ar.1) (b:=(72:Int)) (iF (by decide) (by decide))))) (sv (au (sn (Ev.b6 (post2:=(pN (oL D.int) _ _)) (bH (l:=fun _=>([(9:Int),(20:Int)]:List Int)) (e:=D.int) (af (sv (cD D.int (9:Int))) (af (sv (cD D.int (20:Int))) ai)) (fun _=>(.d (.d .nil))) (fun _=>rfl) (fun _=>rfl)) rfl) (fun v=>bS _ v)) (sv (au (sv (au (sv (aj (a:=ar.1) (e:=D.int) rfl)) (sv (cD D.int (4000:Int))) (eD (a:=ar.1) (b:=(4000:Int)) (iF (by decide) (by decide))))) (sv (cD D.int (2:Int))) (gy (a:=(ar.1/(4000:Int))) (b:=(2:Int)) (by decide)))) (gE ck))) fun a25=>jH)) fun a26=>di))) fun a27=>(af (jd (jc (a:=jt.1) rfl)) ai)))) (fun _=>(.d (.d (.d (.o rfl (bS _ _) .nil))))) (fun _=>rfl) (fun _=>rfl)) fun _=>rfl) fun _=>rfl))))) (gj (dU (sv (au (sv (aj (a:=j2) (e:=D.int) rfl)) (sv (cD D.int (5:Int))) (cW aT aT qI (by decide))))) (aV (fm (φ:=fun v35=>v35) (Ev.map (fun(z34:(D×List Int)×Unit)=>((D.tup [(D.str (sS "not")),z34.1.1]),z34.1.2)) (pE eY _ S) (bI (af (sv (toY (cD D.str (sS "not")))) (aF (sv (cq (R':=R) (post:=(pE eY _ S)) (af (sv (cj (a:=cm.2) rfl)) (af (sv (aj (a:=aP) (e:=(eL D.str)) rfl)) (af (sv (au (sv (aj (a:=aU) (e:=D.int) rfl)) (sv (cD D.int (1:Int))) rK)) ai))) (.d (.d (.d .nil))) rfl (srec (aX:=cm.2) (aP:=aP) (aU:=(aU-(1:Int)))) (fun _=>rfl))) fun a32=>ai)) (fun _=>(.d (.d .nil))) (fun _=>rfl) (fun _=>rfl)) fun _=>rfl) fun _=>rfl)) (aL (fun nA=>[some (.v (.r n)),some (.v (.d ((eL D.str) aP))),some (.v (.d (D.int aU))),some (.v (.d (D.int ar.1))),some (.v (.d (D.int j2))),some (.own ((oL eY) nA.1)),some (.v (.d (D.str cm.1))),none,none,none]) (nV (wX (q:=[some (.v (.r n)),some (.v (.d ((eL D.str) aP))),some (.v (.d (D.int aU))),some (.v (.d (D.int ar.1))),some (.v (.d (D.int j2))),none,some (.v (.d (D.str cm.1))),none,none,none]) (p2:=fun k40=>[some (.v (.r n)),some (.v (.d ((eL D.str) aP))),some (.v (.d (D.int aU))),some (.v (.d (D.int ar.1))),some (.v (.d (D.int j2))),none,some (.v (.d (D.str cm.1))),none,none,some (.v (.d (D.int k40)))]) (p3:=fun k40=>[some (.v (.r n)),some (.v (.d ((eL D.str) aP))),some (.v (.d (D.int aU))),some (.v (.d (D.int ar.1))),some (.v (.d (D.int j2))),none,some (.v (.d (D.str cm.1))),none,none,some (.v (.d (D.int k40)))]) (S:=S) (lA:=(fun(a42:List Int)=>a42)) (cA:=(fun(a42:List Int)=>cm.2)) (mt:=(fun k40 c41=>M.ok true)) (me:=(fun k40 c41=>nox ((gv k) c41 aP (aU-(1:Int))))) (e:=eY) (IT (aF (sv (cC (sv (au (sv (aj (a:=ar.1) (e:=D.int) rfl)) (sv (cD D.int (9:Int))) (eD (a:=ar.1) (b:=(9:Int)) (iF (by decide) (by decide))))) (sv (au (sn (Ev.b6 (post2:=(pN (oL D.int) _ _)) (bH (l:=fun _=>([(4:Int),(4:Int),(4:Int),(3:Int)]:List Int)) (e:=D.int) (af (sv (cD D.int (4:Int))) (af (sv (cD D.int (4:Int))) (af (sv (cD D.int (4:Int))) (af (sv (cD D.int (3:Int))) ai)))) (fun _=>(.d (.d (.d (.d .nil))))) (fun _=>rfl) (fun _=>rfl)) rfl) (fun v=>bS _ v)) (sv (aj (a:=aU) (e:=D.int) rfl)) (gE ck))) fun a36=>jH)) fun a37=>ai) fun z39=>yO) rfl (fun k40 c41=>⟨jD,kH,(qi (cq (R':=R) (post:=(pE eY _ S)) (af (sv (cj (a:=c41) rfl)) (af (sv (aj (a:=aP) (e:=(eL D.str)) rfl)) (af (sv (au (sv (aj (a:=aU) (e:=D.int) rfl)) (sv (cD D.int (1:Int))) rK)) ai))) (.d (.d (.d .nil))) rfl (srec (aX:=c41) (aP:=aP) (aU:=(aU-(1:Int)))) (fun _=>rfl)))⟩) (fun _=>by(repeat' (first | exact trivial | refine And.intro rfl ?_))) (fun _=>by(repeat' (first | exact trivial | refine And.intro rfl ?_))))) (fun _=>rfl) fun nA=>(aV (fm (φ:=fun v47=>(v47,nA.2)) (Ev.map (fun(z46:D×Unit)=>(D.tup [z46.1,((eL eY) nA.1)])) (pD eY _ _) (bI (aF (sv (toY (au (sn (Ev.b6 (post2:=(pN (oL D.str) _ _)) (bH (l:=fun _=>([(sS "both"),(sS "one")]:List (List Nat))) (e:=D.str) (af (sv (cD D.str (sS "both"))) (af (sv (cD D.str (sS "one"))) ai)) (fun _=>(.d (.d .nil))) (fun _=>rfl) (fun _=>rfl)) rfl) (fun v=>bS _ v)) (sv (au (sv (aj (a:=j2) (e:=D.int) rfl)) (sv (cD D.int (2:Int))) (gy (a:=j2) (b:=(2:Int)) (by decide)))) (gE ck)))) fun a44=>(af (jd (jc (a:=nA.1) rfl)) ai)) (fun _=>(.d (.o rfl (bS _ _) .nil))) (fun _=>rfl) (fun _=>rfl)) fun _=>rfl) fun _=>rfl)))))))) (gj (dU (sv (au (sv (aj (a:=j2) (e:=D.int) rfl)) (sv (cD D.int (0:Int))) (cW aT aT qI (by decide))))) (aV (fm (φ:=fun v55=>(v55,ar.2)) (Ev.map (fun(z54:D×(D×Unit))=>(D.tup [(D.str (sS "word")),z54.1,z54.2.1])) (pD eY _ _) (bI (af (sv (toY (cD D.str (sS "word")))) (aF (sv (toY (Ak (e:=D.str)))) fun a48=>(aF (sv (toY (iM (sn (au (sv (aj (a:=aP) (e:=(eL D.str)) rfl)) (sn (Ev.b6 (post2:=(pN (oL D.str) _ _)) (bH (l:=fun _=>([(sS "zz")]:List (List Nat))) (e:=D.str) (af (sv (cD D.str (sS "zz"))) ai) (fun _=>(.d .nil)) (fun _=>rfl) (fun _=>rfl)) rfl) (fun v=>bS _ v)) (add_l ck ck)) (fun v=>bS _ v)) (fun a49=>(sv (au (sv (au (sv (aj (a:=ar.1) (e:=D.int) rfl)) (sv (cD D.int (9:Int))) (eD (a:=ar.1) (b:=(9:Int)) (iF (by decide) (by decide))))) (sv (au (sv (eC (af (sv (aj (a:=aP) (e:=(eL D.str)) rfl)) ai) (oh ck))) (sv (cD D.int (1:Int))) di)) jH))) fun a49 a50=>(gE ck)))) fun a51=>ai))) (fun _=>(.d (.d (.d .nil)))) (fun _=>rfl) (fun _=>rfl)) fun _=>rfl) fun _=>rfl)) (gj (dU (sv (au (sv (aj (a:=j2) (e:=D.int) rfl)) (sv (cD D.int (1:Int))) (cW aT aT qI (by decide))))) (aV (fm (φ:=fun v61=>v61) (Ev.map (fun(z60:D×((D×List Int)×Unit))=>((D.tup [(D.str (sS "like")),z60.1,z60.2.1.1]),z60.2.1.2)) (pE eY _ S) (bI (af (sv (toY (cD D.str (sS "like")))) (aF (sv (toY (Ak (e:=D.str)))) fun a56=>(aF (sv (Ev.map (fun v=>(D.str v.1,v.2)) (pE eY _ S) (cq (R':=R) (post:=(pE D.str _ S)) (af (sv (cj (a:=ar.2) rfl)) (af (sv (aj (a:=aP) (e:=(eL D.str)) rfl)) ai)) (.d (.d .nil)) rfl (qA (aX:=ar.2) (aP:=aP) hr hw) (fun _=>rfl)) fun _=>rfl)) fun a57=>ai))) (fun _=>(.d (.d (.d .nil)))) (fun _=>rfl) (fun _=>rfl)) fun _=>rfl) fun _=>rfl)) (gj (dU (sv (au (sv (aj (a:=j2) (e:=D.int) rfl)) (sv (cD D.int (5:Int))) wF))) (aL (fun mq=>[some (.v (.r n)),some (.v (.d ((eL D.str) aP))),some (.v (.d (D.int aU))),some (.v (.d (D.int ar.1))),some (.v (.d (D.int j2))),none,none,some (.v (.d (D.int mq))),none,none]) (bY (cC (sv (cD D.int (1:Int))) (sv (cC (sv (au (sv (aj (a:=ar.1) (e:=D.int) rfl)) (sv (cD D.int (18:Int))) (eD (a:=ar.1) (b:=(18:Int)) (iF (by decide) (by decide))))) (sv (au (sn (Ev.b6 (post2:=(pN (oL D.int) _ _)) (bH (l:=fun _=>([(4:Int),(6:Int)]:List Int)) (e:=D.int) (af (sv (cD D.int (4:Int))) (af (sv (cD D.int (6:Int))) ai)) (fun _=>(.d (.d .nil))) (fun _=>rfl) (fun _=>rfl)) rfl) (fun v=>bS _ v)) (sv (au (sv (au (sv (aj (a:=ar.1) (e:=D.int) rfl)) (sv (cD D.int (2000:Int))) (eD (a:=ar.1) (b:=(2000:Int)) (iF (by decide) (by decide))))) (sv (cD D.int (2:Int))) (gy (a:=(ar.1/(2000:Int))) (b:=(2:Int)) (by decide)))) (gE ck))) fun a62=>jH)) fun a63=>di)) (fun _=>rfl) fun mq=>(aL (fun iB=>[some (.v (.r n)),some (.v (.d ((eL D.str) aP))),some (.v (.d (D.int aU))),some (.v (.d (D.int ar.1))),some (.v (.d (D.int j2))),none,none,some (.v (.d (D.int mq))),some (.own ((oL D.str) iB.1)),none]) (nV (wX (q:=[some (.v (.r n)),some (.v (.d ((eL D.str) aP))),some (.v (.d (D.int aU))),some (.v (.d (D.int ar.1))),some (.v (.d (D.int j2))),none,none,some (.v (.d (D.int mq))),none,none]) (p2:=fun k65=>[some (.v (.r n)),some (.v (.d ((eL D.str) aP))),some (.v (.d (D.int aU))),some (.v (.d (D.int ar.1))),some (.v (.d (D.int j2))),none,none,some (.v (.d (D.int mq))),none,some (.v (.d (D.int k65)))]) (p3:=fun k65=>[some (.v (.r n)),some (.v (.d ((eL D.str) aP))),some (.v (.d (D.int aU))),some (.v (.d (D.int ar.1))),some (.v (.d (D.int j2))),none,none,some (.v (.d (D.int mq))),none,some (.v (.d (D.int k65)))]) (S:=S) (lA:=(fun(a70:List Int)=>a70)) (cA:=(fun(a70:List Int)=>ar.2)) (mt:=(fun k65 c66=>M.ok true)) (me:=(fun k65 c66=>((nox (dy c66)).bind fun a67=>(cT [(2:Int),(aP.length:Int)] ((ar.1/(9:Int))%(2:Int))).bind fun a68=>(ic a67.1 a68).bind fun v=>M.ok (v,a67.2)).bind fun a69=>(cT aP a69.1).bind fun v=>M.ok (v,a69.2))) (e:=D.str) (BP (af (sv (aj (a:=mq) (e:=D.int) rfl)) ai) yO) rfl (fun k65 c66=>⟨jD,kH,(qi (cC (sv (aj (a:=aP) (e:=(eL D.str)) rfl)) (sv (iM (sv (cq (R':=R) (post:=(pE D.int _ S)) (af (sv (cj (a:=c66) rfl)) ai) (.d .nil) rfl (iZ (aX:=c66) hr hw) (fun _=>rfl))) (fun a67=>(sv (au (sn (Ev.b6 (post2:=(pN (oL D.int) _ _)) (bH (l:=fun _=>([(2:Int),(aP.length:Int)]:List Int)) (e:=D.int) (af (sv (cD D.int (2:Int))) (af (sv (eC (af (sv (aj (a:=aP) (e:=(eL D.str)) rfl)) ai) (oh ck))) ai)) (fun _=>(.d (.d .nil))) (fun _=>rfl) (fun _=>rfl)) rfl) (fun v=>bS _ v)) (sv (au (sv (au (sv (aj (a:=ar.1) (e:=D.int) rfl)) (sv (cD D.int (9:Int))) (eD (a:=ar.1) (b:=(9:Int)) (iF (by decide) (by decide))))) (sv (cD D.int (2:Int))) (gy (a:=(ar.1/(9:Int))) (b:=(2:Int)) (by decide)))) (gE ck)))) fun a67 a68=>(Ev.map (fun v=>(v,a67.2)) (pE D.int _ S) jH fun _=>rfl))) fun a69=>(Ev.map (fun v=>(v,a69.2)) (pE D.str _ S) (gE ck) fun _=>rfl)))⟩) (fun _=>by(repeat' (first | exact trivial | refine And.intro rfl ?_))) (fun _=>by(repeat' (first | exact trivial | refine And.intro rfl ?_))))) (fun _=>rfl) fun iB=>(gj (dU (sv (au (sv (aj (a:=j2) (e:=D.int) rfl)) (sv (cD D.int (2:Int))) (cW aT aT qI (by decide))))) (aV (fm (φ:=fun v75=>(v75,iB.2)) (Ev.map (fun(z74:D×Unit)=>(D.tup [(D.str (sS "row")),z74.1,((eL D.str) iB.1)])) (pD eY _ _) (bI (af (sv (toY (cD D.str (sS "row")))) (aF (sv (toY (Ak (e:=D.str)))) fun a72=>(af (jd (jc (a:=iB.1) rfl)) ai))) (fun _=>(.d (.d (.o rfl (bS _ _) .nil)))) (fun _=>rfl) (fun _=>rfl)) fun _=>rfl) fun _=>rfl)) (aV (fm (φ:=fun v85=>(v85,iB.2)) (Ev.map (fun(z84:D×(D×(D×Unit)))=>(D.tup [z84.1,z84.2.1,z84.2.2.1,((eL D.str) iB.1)])) (pD eY _ _) (bI (aF (sv (toY (au (sn (Ev.b6 (post2:=(pN (oL D.str) _ _)) (bH (l:=fun _=>([(sS "near"),(sS "chain")]:List (List Nat))) (e:=D.str) (af (sv (cD D.str (sS "near"))) (af (sv (cD D.str (sS "chain"))) ai)) (fun _=>(.d (.d .nil))) (fun _=>rfl) (fun _=>rfl)) rfl) (fun v=>bS _ v)) (sv (au (sv (aj (a:=j2) (e:=D.int) rfl)) (sv (cD D.int (3:Int))) rK)) (gE ck)))) fun a76=>(aF (sv (toY (Ak (e:=D.str)))) fun a77=>(aF (sv (toY (cC (sv (cD D.int (1:Int))) (sv (cC (sv (au (sv (aj (a:=ar.1) (e:=D.int) rfl)) (sv (cD D.int (72:Int))) (eD (a:=ar.1) (b:=(72:Int)) (iF (by decide) (by decide))))) (sv (au (sn (Ev.b6 (post2:=(pN (oL D.int) _ _)) (bH (l:=fun _=>([(9:Int),(20:Int)]:List Int)) (e:=D.int) (af (sv (cD D.int (9:Int))) (af (sv (cD D.int (20:Int))) ai)) (fun _=>(.d (.d .nil))) (fun _=>rfl) (fun _=>rfl)) rfl) (fun v=>bS _ v)) (sv (au (sv (au (sv (aj (a:=ar.1) (e:=D.int) rfl)) (sv (cD D.int (4000:Int))) (eD (a:=ar.1) (b:=(4000:Int)) (iF (by decide) (by decide))))) (sv (cD D.int (2:Int))) (gy (a:=(ar.1/(4000:Int))) (b:=(2:Int)) (by decide)))) (gE ck))) fun a78=>jH)) fun a79=>di))) fun a80=>(af (jd (jc (a:=iB.1) rfl)) ai)))) (fun _=>(.d (.d (.d (.o rfl (bS _ _) .nil))))) (fun _=>rfl) (fun _=>rfl)) fun _=>rfl) fun _=>rfl))))) (gj (dU (sv (au (sv (aj (a:=j2) (e:=D.int) rfl)) (sv (cD D.int (5:Int))) (cW aT aT qI (by decide))))) (aV (fm (φ:=fun v89=>v89) (Ev.map (fun(z88:(D×List Int)×Unit)=>((D.tup [(D.str (sS "not")),z88.1.1]),z88.1.2)) (pE eY _ S) (bI (af (sv (toY (cD D.str (sS "not")))) (aF (sv (cq (R':=R) (post:=(pE eY _ S)) (af (sv (cj (a:=ar.2) rfl)) (af (sv (aj (a:=aP) (e:=(eL D.str)) rfl)) (af (sv (au (sv (aj (a:=aU) (e:=D.int) rfl)) (sv (cD D.int (1:Int))) rK)) ai))) (.d (.d (.d .nil))) rfl (srec (aX:=ar.2) (aP:=aP) (aU:=(aU-(1:Int)))) (fun _=>rfl))) fun a86=>ai)) (fun _=>(.d (.d .nil))) (fun _=>rfl) (fun _=>rfl)) fun _=>rfl) fun _=>rfl)) (aL (fun nB=>[some (.v (.r n)),some (.v (.d ((eL D.str) aP))),some (.v (.d (D.int aU))),some (.v (.d (D.int ar.1))),some (.v (.d (D.int j2))),some (.own ((oL eY) nB.1)),none,none,none,none]) (nV (wX (q:=[some (.v (.r n)),some (.v (.d ((eL D.str) aP))),some (.v (.d (D.int aU))),some (.v (.d (D.int ar.1))),some (.v (.d (D.int j2))),none,none,none,none,none]) (p2:=fun k94=>[some (.v (.r n)),some (.v (.d ((eL D.str) aP))),some (.v (.d (D.int aU))),some (.v (.d (D.int ar.1))),some (.v (.d (D.int j2))),none,none,none,none,some (.v (.d (D.int k94)))]) (p3:=fun k94=>[some (.v (.r n)),some (.v (.d ((eL D.str) aP))),some (.v (.d (D.int aU))),some (.v (.d (D.int ar.1))),some (.v (.d (D.int j2))),none,none,none,none,some (.v (.d (D.int k94)))]) (S:=S) (lA:=(fun(a96:List Int)=>a96)) (cA:=(fun(a96:List Int)=>ar.2)) (mt:=(fun k94 c95=>M.ok true)) (me:=(fun k94 c95=>nox ((gv k) c95 aP (aU-(1:Int))))) (e:=eY) (IT (aF (sv (cC (sv (au (sv (aj (a:=ar.1) (e:=D.int) rfl)) (sv (cD D.int (9:Int))) (eD (a:=ar.1) (b:=(9:Int)) (iF (by decide) (by decide))))) (sv (au (sn (Ev.b6 (post2:=(pN (oL D.int) _ _)) (bH (l:=fun _=>([(4:Int),(4:Int),(4:Int),(3:Int)]:List Int)) (e:=D.int) (af (sv (cD D.int (4:Int))) (af (sv (cD D.int (4:Int))) (af (sv (cD D.int (4:Int))) (af (sv (cD D.int (3:Int))) ai)))) (fun _=>(.d (.d (.d (.d .nil))))) (fun _=>rfl) (fun _=>rfl)) rfl) (fun v=>bS _ v)) (sv (aj (a:=aU) (e:=D.int) rfl)) (gE ck))) fun a90=>jH)) fun a91=>ai) fun z93=>yO) rfl (fun k94 c95=>⟨jD,kH,(qi (cq (R':=R) (post:=(pE eY _ S)) (af (sv (cj (a:=c95) rfl)) (af (sv (aj (a:=aP) (e:=(eL D.str)) rfl)) (af (sv (au (sv (aj (a:=aU) (e:=D.int) rfl)) (sv (cD D.int (1:Int))) rK)) ai))) (.d (.d (.d .nil))) rfl (srec (aX:=c95) (aP:=aP) (aU:=(aU-(1:Int)))) (fun _=>rfl)))⟩) (fun _=>by(repeat' (first | exact trivial | refine And.intro rfl ?_))) (fun _=>by(repeat' (first | exact trivial | refine And.intro rfl ?_))))) (fun _=>rfl) fun nB=>(aV (fm (φ:=fun v101=>(v101,nB.2)) (Ev.map (fun(z100:D×Unit)=>(D.tup [z100.1,((eL eY) nB.1)])) (pD eY _ _) (bI (aF (sv (toY (au (sn (Ev.b6 (post2:=(pN (oL D.str) _ _)) (bH (l:=fun _=>([(sS "both"),(sS "one")]:List (List Nat))) (e:=D.str) (af (sv (cD D.str (sS "both"))) (af (sv (cD D.str (sS "one"))) ai)) (fun _=>(.d (.d .nil))) (fun _=>rfl) (fun _=>rfl)) rfl) (fun v=>bS _ v)) (sv (au (sv (aj (a:=j2) (e:=D.int) rfl)) (sv (cD D.int (2:Int))) (gy (a:=j2) (b:=(2:Int)) (by decide)))) (gE ck)))) fun a98=>(af (jd (jc (a:=nB.1) rfl)) ai)) (fun _=>(.d (.o rfl (bS _ _) .nil))) (fun _=>rfl) (fun _=>rfl)) fun _=>rfl) fun _=>rfl))))))))))))
end K82
namespace Vw
open PySem L2
theorem zL:sizeLine=16777216:=rfl
section
variable{T U C A B Q:Type}
theorem g9{b:Bool}(h:b=true):gd b=.ok ():=by rw[h];rfl
theorem oZ{a b:List T}(h:a.length+b.length≤16777216):og a b=.ok (a++b):=by
 unfold og;rw[zL,g9 (decide_eq_true h)];rfl
theorem aN{a b:List Nat}(h:a.length+b.length≤16777216):aY a b=.ok (a++b):=by
 unfold aY;rw[zL,g9 (decide_eq_true h)];rfl
theorem oB{a:List T}{x:T}(h:a.length<16777216):iN a x=.ok (a++[x]):=by
 unfold iN;rw[zL,g9 (decide_eq_true h)];rfl
theorem iT{a:List Nat}(h:a.length≤16777216):i9 a=.ok (a.length:Int):=by
 unfold i9;rw[zL,g9 (decide_eq_true h)];rfl
theorem dq{a:List Nat}{lo hi:Option Int}(h:a.length≤16777216):bc a lo hi=.ok (dg a lo hi):=by
 unfold bc;rw[zL,g9 (decide_eq_true h)];rfl
theorem jS{a b:Int}(h:0<b):ic a b=.ok (a%b):=by
 unfold ic;rw[g9 (decide_eq_true h)];rfl
theorem Iz{a b:Int}(h:a.natAbs.log2+b.natAbs.log2<1000000):mulM a b=.ok (a*b):=by
 unfold mulM E3;rw[g9 (decide_eq_true h)];rfl
theorem uL{n:Int}(h:n<1000000000)(h0: -1000000000<n):j3 0 n=.ok ((List.range n.toNat).map fun(i:Nat)=>(i:Int)):=by
 unfold j3
 rw[g9 (decide_eq_true (by omega)),M.aa]
 congr 1
 rw[show(n- 0).toNat=n.toNat by omega]
 exact List.map_congr_left fun i _=>by omega
theorem Iw{n:Nat}{i:Nat}(h:i<n):ixN n (i:Int)=some i:=by
 rw[Sh.Cy (by omega) (by omega)];simp
theorem atI_nat{l:List T}{i:Nat}(h:i<l.length):atI l (i:Int)=some l[i]:=by
 unfold atI
 rw[Iw h]
 simp[h]
theorem IE{l:List T}{i:Nat}(h:i<l.length):cT l (i:Int)=.ok l[i]:=by
 unfold cT;rw[atI_nat h]
theorem Ju{l:List T}{i:Int}(h0:0≤i)(h:i<l.length):∃ a,a∈l∧cT l i=.ok a:=by
 have:i=((i.toNat:Nat):Int):=by omega
 rw[this]
 have h':i.toNat<l.length:=by omega
 exact⟨_,List.getElem_mem h',IE h'⟩
theorem EI{l:List Nat}{i:Int}(h0:0≤i)(h:i<l.length)(hl:l.length≤16777216):∃ a,a∈l∧fx l i=.ok [a]:=by
 have:i=((i.toNat:Nat):Int):=by omega
 have h':i.toNat<l.length:=by omega
 refine⟨l[i.toNat],List.getElem_mem h',?_⟩
 unfold fx
 rw[zL,g9 (decide_eq_true hl),M.aa]
 have e:=atI_nat h'
 rw[show((i.toNat:Nat):Int)=i by omega]at e
 rw[e]
theorem Ia{l:List T}{i:Int}(h0:0≤i)(h:i<l.length)(x:T):setM l i x=.ok (l.set i.toNat x):=by
 unfold setM
 rw[Sh.Cy h0 h]
theorem zo{mt:T→M Bool}{me:T→M U}{F:T→U}:∀ (l:List T) (acc:List U),(∀ x∈l,mt x=.ok true)→(∀ x∈l,me x=.ok (F x))→acc.length+l.length≤16777216→oj mt me acc l=.ok (acc++l.map F)
 | [],acc,h1,h2,hl=>by simp[oj]
 | x::l,acc,h1,h2,hl=>by
  simp only[List.length_cons]at hl
  unfold oj
  rw[h1 x (by simp),M.aa,if_pos rfl,h2 x (by simp),M.aa,g9 (decide_eq_true (by rw[zL];omega)),M.aa,zo l _ (fun y hy=>h1 y (by simp[hy])) (fun y hy=>h2 y (by simp[hy])) (by simp;omega)]
  simp
theorem nz{mt:T→M Bool}{me:T→M U}{F:T→U}{l:List T}(h1:∀ x∈l,mt x=.ok true)(h2:∀ x∈l,me x=.ok (F x))(hl:l.length≤16777216):kr mt me l=.ok (l.map F):=by
 unfold kr
 rw[zo l [] h1 h2 (by simpa using hl)];simp
theorem AW{mt:T→C→M Bool}{me:T→C→M (U×C)}(I:C→Prop)(P:U→Prop):∀ (l:List T) (acc:List U) (c:C),I c→(∀ x∈l,∀ c,mt x c=.ok true)→(∀ x∈l,∀ c,I c→∃ y c',me x c=.ok (y,c')∧P y∧I c')→acc.length+l.length≤16777216→∃ r c',ka mt me acc l c=.ok (acc++r,c')∧r.length=l.length∧(∀ y∈r,P y)∧I c'
 | [],acc,c,hc,h1,h2,hl=>⟨[],c,by simp[ka],rfl,by simp,hc⟩
 | x::l,acc,c,hc,h1,h2,hl=>by
  simp only[List.length_cons]at hl
  obtain⟨y,c1,e,hy,hc1⟩:=h2 x (by simp) c hc
  obtain⟨r,c2,e2,hr,hp,hc2⟩:=AW I P l (acc++[y]) c1 hc1 (fun y hy=>h1 y (by simp[hy])) (fun y hy=>h2 y (by simp[hy])) (by simp;omega)
  refine⟨y::r,c2,?_,by simp[hr],fun z hz=>?_,hc2⟩
  ·unfold ka
   rw[h1 x (by simp),M.aa,if_pos rfl,e,M.aa,g9 (decide_eq_true (by rw[zL];omega)),M.aa,e2]
   simp
  ·rcases List.mem_cons.mp hz with rfl | hz
   ·exact hy
   ·exact hp z hz
theorem H9{mt:T→C→M Bool}{me:T→C→M (U×C)}(I:C→Prop)(P:U→Prop){l:List T}{c:C}(hc:I c)(h1:∀ x∈l,∀ c,mt x c=.ok true)(h2:∀ x∈l,∀ c,I c→∃ y c',me x c=.ok (y,c')∧P y∧I c')(hl:l.length≤16777216):∃ r c',kL mt me l c=.ok (r,c')∧r.length=l.length∧(∀ y∈r,P y)∧I c':=by
 obtain⟨r,c',e,h3,h4,h5⟩:=AW I P l [] c hc h1 h2 (by simpa using hl)
 exact⟨r,c',by unfold kL;rw[e];simp,h3,h4,h5⟩
theorem BI{t:C→M Bool}{f:C→M C}{n:Nat}{c c':C}(h1:t c=.ok true)(h2:f c=.ok c'):lq t f (n+1) c=lq t f n c':=by
 show(t c).bind _=_
 rw[h1,M.aa,if_pos rfl,h2,M.aa]
theorem CK{t:C→M Bool}{f:C→M C}{n:Nat}{c:C}(h1:t c=.ok false):lq t f (n+1) c=.ok c:=by
 show(t c).bind _=_
 rw[h1,M.aa,if_neg (by simp)]
theorem Iu{l:List T}(h:l≠[]):∃ y,y∈l∧BX l=.ok (y,l.dropLast):=by
 have hl:l.length- 1<l.length:=by have:=List.length_pos_iff.mpr h;omega
 refine⟨l[l.length- 1],List.getElem_mem hl,?_⟩
 unfold BX
 rw[List.getElem?_eq_getElem hl]
def Sat(m:M T)(P:T→Prop):Prop:=∃ v,m=.ok v∧P v
theorem aJ{v:T}{P:T→Prop}(h:P v):Sat (.ok v) P:=⟨v,rfl,h⟩
theorem ay{m:M T}{k:T→M U}{P:T→Prop}{Q:U→Prop}(h:Sat m P)(hk:∀ v,P v→Sat (k v) Q):Sat (m.bind k) Q:=by
 obtain⟨v,e,p⟩:=h
 rw[e,M.aa]
 exact hk v p
theorem fG{m:M T}{P:T→Prop}(h:Sat m P):Sat (nox m) P:=by
 obtain⟨v,e,p⟩:=h
 exact⟨v,by rw[e];rfl,p⟩
theorem oC{m:M T}{P Q:T→Prop}(h:Sat m P)(w:∀ v,P v→Q v):Sat m Q:=by
 obtain⟨v,e,p⟩:=h
 exact⟨v,e,w v p⟩
theorem iP{c:Prop}[Decidable c]{m1 m2:M T}{P:T→Prop}(h1:c→Sat m1 P)(h2:¬c→Sat m2 P):Sat (if c then m1 else m2) P:=by
 by_cases h:c
 ·rw[if_pos h];exact h1 h
 ·rw[if_neg h];exact h2 h
theorem Ge{f:C→T→M C}(I:Nat→C→Prop){l:List T}{c:C}(h0:I 0 c)(h:∀ n c x,x∈l→n<l.length→I n c→Sat (f c x) (I (n+1))):Sat (foldM f c l) (I l.length):=by
 have key:∀ (m:List T) (n:Nat) (c:C),(∀ x∈m,x∈l)→n+m.length=l.length→I n c→Sat (foldM f c m) (I l.length):=by
  intro m
  induction m with
  | nil=>intro n c _ hn i;exact aJ (by simpa [←hn]using i)
  | cons x m ih=>
   intro n c hx hn i
   rw[kj]
   simp only[List.length_cons]at hn
   exact ay (h n c x (hx x (by simp)) (by omega) i) fun c' i'=>ih (n+1) c' (fun y hy=>hx y (by simp[hy])) (by omega) i'
 exact key l 0 c (fun _ h=>h) (by simp) h0
theorem fU{l:List T}{i:Int}{P:T→Prop}(h0:0≤i)(h:i<l.length)(hp:∀ a∈l,P a):Sat (cT l i) P:=by
 obtain⟨a,ha,e⟩:=Ju h0 h
 exact⟨a,e,hp a ha⟩
theorem Ek{l:List T}{i:Int}{P:T→Prop}(hl:0<l.length)(hp:∀ a∈l,P a):Sat (cT l (i%(l.length:Int))) P:=
 fU (Int.emod_nonneg _ (by omega)) (Int.emod_lt_of_pos _ (by omega)) hp
theorem zd{mt:T→C→M Bool}{me:T→C→M (U×C)}(I:C→Prop)(P:U→Prop){l:List T}{c:C}(hc:I c)(h1:∀ x∈l,∀ c,mt x c=.ok true)(h2:∀ x∈l,∀ c,I c→Sat (me x c) fun r=>P r.1∧I r.2)(hl:l.length≤16777216):Sat (kL mt me l c) fun r=>r.1.length=l.length∧(∀ y∈r.1,P y)∧I r.2:=by
 obtain⟨r,c',e,h⟩:=H9 I P hc h1 (fun x hx c hc=>by
  obtain⟨v,e,h⟩:=h2 x hx c hc
  exact⟨v.1,v.2,e,h⟩) hl
 exact⟨(r,c'),e,h⟩
theorem HK{n:Nat}{x:Int}(h:x∈(List.range n).map fun(i:Nat)=>(i:Int)):0≤x∧x<n:=by
 obtain⟨i,hi,rfl⟩:=List.mem_map.mp h
 have:=List.mem_range.mp hi
 omega
theorem CN{n k:Nat}(h:n<2^k)(hk:0<k):n.log2<k:=by
 by_cases h0:n=0
 ·subst h0;simpa using hk
 ·exact(Nat.log2_lt h0).mpr h
theorem mS{a b:Int}(k j:Nat)(ha:a.natAbs<2^k)(hb:b.natAbs<2^j)(h:k+j≤1000000)(hk:0<k)(hj:0<j):mulM a b=.ok (a*b):=by
 have:=CN ha hk
 have:=CN hb hj
 exact Iz (by omega)
end
end Vw
namespace Vw
open PySem L2
section
variable{T A:Type}{R:List Ob→Prop}{p:Pt}{σ:List Ob}{i j:Nat}
theorem p0{α:Type}{f:State→Res α}{m m':M T}{post:T→α×Pt×List Ob}(h:Ev R p σ f m post)(e:m=m'):Ev R p σ f m' post:=e▸h
theorem Qa{d:D}{i:Int}{e:T→D}{a:T}(h1:p[j]? =some (some (.v (.d d))))(hx:bP d i=.ok (e a)):Ev R p σ (ah (ab j) (fD (.int i)) bw) (.ok a) (pD e p σ):=by
 have q:=au (R:=R) (p:=p) (σ:=σ) (sv (aj (a:=d) (e:=eY) h1)) (sv (cD D.int i)) dB
 rw[hx]at q
 exact q
theorem A6{w:Bool}{t:State→Res Bool}{As Bs rest:List (State→Res Fl)}{m:M T}{post:T→OutS}(ht:Ev R p σ t (.ok false) (pB p σ))(h:Sg w R p σ (ao (Bs++rest)) m post):Sg w R p σ (ao (cc t (ao As) (ao Bs)::rest)) m post:=
 gj (mA:=.bad) (mB:=m) ht (fun _ _=>trivial) h
theorem Dw{w:Bool}{t:State→Res Bool}{As Bs rest:List (State→Res Fl)}{m:M T}{post:T→OutS}(ht:Ev R p σ t (.ok true) (pB p σ))(h:Sg w R p σ (ao (As++rest)) m post):Sg w R p σ (ao (cc t (ao As) (ao Bs)::rest)) m post:=
 gj (mA:=m) (mB:=.bad) ht h (fun _ _=>trivial)
end
end Vw
namespace Vw
open PySem L2
end Vw
namespace Vw
open PySem L2
section
variable{R:List Ob→Prop}{p:Pt}{σ:List Ob}{A B T U:Type}{i j n:Nat}
theorem Jn{l:List D}:Ev R p σ (gF [.val (.d (.tup l))]) (.ok (l.length:Int)) (pD .int p σ):=Ev.at (r:=fun v=>RV.val (Val.d (D.int v))) fun sg hf=>by
 show(match sq ⟨sg,σ⟩ (.val (.d (.tup l)))with
   | some l=>bp (.int l.length) ⟨sg,σ⟩
   | none=>Res.stuck)=_
 have:sq ⟨sg,σ⟩ (.val (.d (.tup l)))=some (l.map Val.d):=rfl
 rw[this]
 show bp (.int ((l.map Val.d).length:Nat)) _=_
 rw[List.length_map]
 rfl
end
end Vw
namespace Vw
open PySem L2
def AK:D→M Int
 | .lst l=>.ok l.length
 | .tup l=>.ok l.length
 | _=>.bad
section
variable{R:List Ob→Prop}{p:Pt}{σ:List Ob}{A B T U:Type}{i j n:Nat}
theorem JJ{l:List D}:Ev R p σ (gF [.val (.d (.lst l))]) (.ok (l.length:Int)) (pD .int p σ):=Ev.at (r:=fun v=>RV.val (Val.d (D.int v))) fun sg hf=>by
 show(match sq ⟨sg,σ⟩ (.val (.d (.lst l)))with
   | some l=>bp (.int l.length) ⟨sg,σ⟩
   | none=>Res.stuck)=_
 have:sq ⟨sg,σ⟩ (.val (.d (.lst l)))=some (l.map Val.d):=rfl
 rw[this]
 show bp (.int ((l.map Val.d).length:Nat)) _=_
 rw[List.length_map]
 rfl
theorem GU{d:D}:Ev R p σ (gF [.val (.d d)]) (AK d) (pD .int p σ):=by
 cases d with
 | lst l=>exact JJ
 | tup l=>exact Jn
 | _=>exact fun _ _=>trivial
theorem tW{l:List (List Nat×List Nat)}(h:(l.map (·.1)).Nodup∧l.length≤15):Ev R p σ (ot (l.map fun q=>(K0.s q.1,D.str q.2))) (.ok l) (fun v=>(.new (my D.str v),p,σ)):=fun sg hf=>by
 refine⟨sg,?_,hf⟩
 have h1:((l.map fun q=>(K0.s q.1,D.str q.2)).map (·.1)).Nodup:=by
  rw[List.map_map]
  have:((fun x:K0×D=>x.1)∘fun q:List Nat×List Nat=>(K0.s q.1,D.str q.2))=K0.s∘fun q:List Nat×List Nat=>q.1:=rfl
  rw[this,←List.map_map]
  exact List.Pairwise.map _ (fun a b h e=>h (by cases e;rfl)) h.1
 have h2:(l.map fun q=>(K0.s q.1,D.str q.2)).all (fun p=>Ay p.2)=true:=by
  rw[List.all_eq_true]
  intro x hx
  obtain⟨q,_,rfl⟩:=List.mem_map.mp hx
  rfl
 unfold ot
 rw[if_pos ⟨h1,h2,by rw[List.length_map];exact h.2⟩,List.map_map]
 rfl
end
end Vw
namespace Vw
open PySem L2
def wN:D→M Bool
 | .tup _=>.ok true
 | _=>.bad
section
variable{R:List Ob→Prop}{p:Pt}{σ:List Ob}
theorem Lm{f:State→Res RV}{m:M D}(h:Ev R p σ (ev f) m (pD eY p σ)):Ev R p σ (BV "tuple" f) (m.bind wN) (pD .bl p σ):=by
 refine Ev.bind h fun d=>?_
 cases d with
 | tup l=>exact fun sg hf=>⟨sg,rfl,hf⟩
 | _=>exact fun _ _=>trivial
end
end Vw
namespace Vw
open PySem L2 PyProof.Rows
end Vw
namespace Vw
open PySem L2 PyProof.Rows
end Vw
namespace Vw
open PySem L2 PyProof.Rows
end Vw
namespace Vw
open PySem L2 PyProof.Rows
end Vw
namespace Vw
open PySem L2 PyProof.Rows
end Vw
namespace Vw
open PySem L2 PyProof.Rows
theorem wk{p q:Pt}(h:gZ p q:=by(repeat' (first | exact trivial | refine And.intro rfl ?_))):gZ p q:=h
section
variable{R:List Ob→Prop}{p:Pt}{σ:List Ob}{A B T U C:Type}{i:Nat}
theorem rv(a:T)(e:T→D)(h:p[i]? =some (some (.v (.d (e a))))):Ev R p σ (ev (ab i)) (.ok a) (fun v=>(.val (.d (e v)),p,σ)):=sv (aj h)
theorem P9{f:State→Res RV}{m:M (List T)}{e:T→D}{P:List T→Pt}{S:List T→List Ob}(h:Ev R p σ f m (fun v=>(.new (oL e v),P v,S v))):Ev R p σ (ev f) m (fun v=>(.val (.d (eL e v)),P v,S v)):=sn h (fun v=>bS _ v)
theorem nl(e:T→D):Ev R p σ (ev (cN [])) (.ok ([]:List T)) (fun v=>(.val (.d (eL e v)),p,σ)):=P9 (Ev.b6 (post2:=(pN (oL e) _ _)) (bH (l:=fun _=>([]:List T)) (e:=e) ai (fun _=>.nil) (fun _=>rfl) (fun _=>rfl)) rfl)
end
end Vw
namespace Vw
open PySem L2 PyProof.Rows
end Vw
namespace Vw
open PySem L2 PyProof.Rows
end Vw
namespace Vw
open PySem L2 PyProof.Rows
end Vw
namespace Vw
open PySem L2
end Vw
namespace Vw
open PySem L2
end Vw
namespace Vw
open PySem L2 PyProof.Rows
def uf(t:List Nat):M Int:=match BC t with
 | some a=>.ok a
 | none=>.bad
section
variable{R:List Ob→Prop}{p p':Pt}{σ σ':List Ob}
theorem Dz{t:List Nat}:Ev R p σ (uU [.val (.d (.str t))]) (uf t) (pD .int p σ):=by
 unfold uf
 intro sg hf
 cases e:BC t with
 | none=>trivial
 | some n=>
  refine⟨sg,?_,hf⟩
  show(match BC t with | some n=>bp (.int n) _ | none=>.stuck)=_
  rw[e]
  rfl
end
end Vw
namespace K82
open PySem L2 PyProof.Rows Vw
abbrev iO:List Nat×Int→Ob:=fun a=>.ins "AskReader" [("line",.d (.str a.1)),("at",.d (.int a.2))]
def bD(aw:List Nat×Int)(m3:Bool):M Unit:=(if(!m3)=true then(M.exc ⟨"NoText",none⟩)else(M.ok ()))
theorem ij{R:List Ob→Prop}{σ:List Ob}{n:Nat}{aw:List Nat×Int}{m3:Bool}(hk:σ[n]? =some (iO aw))(hR:R σ):fQ R fy [.r n,.d (D.bl m3)] σ (bD aw m3) (fun v=>(.val (.d (eN v)),σ)):=(Ky (P:=fun _=>[none,none]) (gj (KD (dU (sv (aj (a:=m3) (e:=D.bl) rfl)))) (aV (Ip hR)) (iu (p':=[none,none]) rfl (by(repeat' (first | exact trivial | refine And.intro rfl ?_))))) (fun _=>rfl))
def ax(aw:List Nat×Int)(bO:List Nat):M Bool:=(((M.ok aw.2).bind fun l2=>((i9 bO).bind fun a1=>M.ok (aw.2+a1)).bind fun h3=>bc aw.1 (some l2) (some h3)).bind fun a4=>M.ok (eqB a4 bO)).bind fun v5=>M.ok (v5)
theorem bB{R:List Ob→Prop}{σ:List Ob}{n:Nat}{aw:List Nat×Int}{bO:List Nat}(hk:σ[n]? =some (iO aw)):fQ R bo [.r n,.d (D.str bO)] σ (ax aw bO) (fun v=>(.val (.d (D.bl v)),σ)):=(gq (aV (fm (φ:=fun v5=>v5) (bV (sv (MD (lo':=some) (hi':=some) (mk:=(fun l h=>bc aw.1 l h)) (sv (jJ (i:=0) (a:=aw.1) (e:=fun v=>.d (D.str v)) rfl hk rfl rfl)) (pe (sv (jJ (i:=0) (a:=aw.2) (e:=fun v=>.d (D.int v)) rfl hk rfl rfl))) (pe (sv (cC (sv (jJ (i:=0) (a:=aw.2) (e:=fun v=>.d (D.int v)) rfl hk rfl rfl)) (sv (eC (af (sv (aj (a:=bO) (e:=D.str) rfl)) ai) ox)) fun a1=>di))) (fun _ _=>cn))) (fun a4=>(sv (aj (a:=bO) (e:=D.str) rfl))) fun a4=>(cW aT aT qS (by decide))) fun _=>rfl)))
def av(aw:List Nat×Int)(bO:List Nat):M (Unit×(List Nat×Int)):=(((nox (ax aw bO)).bind fun a1=>(M.ok ()).bind fun w2=>M.ok (a1,w2)).bind fun z3=>bD aw z3.1).bind fun u4=>((i9 bO).bind fun a5=>M.ok (aw.1,(aw.2+a5))).bind fun d6=>M.ok ((),d6)
theorem bx{R:List Ob→Prop}{S:(List Nat×Int)→List Ob}{n:Nat}(hr:∀ d,(S d)[n]? =some (iO d))(hw:∀ d d',(S d).set n (iO d')=S d')(hR:∀ d,R (S d)){aw:List Nat×Int}{bO:List Nat}:fQ R bt [.r n,.d (D.str bO)] (S aw) (av aw bO) (fun v=>(.val (.d (eN v.1)),S v.2)):=(Ky (P:=fun _=>[none,none]) (aL (fun u4=>[some (.v (.r n)),some (.v (.d (D.str bO)))]) (je (lC (post:=(pD eN _ _)) (sv (cj (a:=aw) rfl)) (bg (hr _) rfl) (aF (sv (hE (R':=R) (post:=(pD D.bl _ _)) (sv (cj (a:=aw) rfl)) (bg (hr _) rfl) (af (sv (aj (a:=bO) (e:=D.str) rfl)) ai) (.d .nil) rfl (bB (aw:=aw) (bO:=bO) (hr _) ) (fun _=>rfl))) fun a1=>ai) (fun _=>(.d .nil)) (fun _=>rfl) (fun z3=>(ij (aw:=aw) (m3:=z3.1) (hr _) (hR _))) (fun _ _=>rfl))) (fun _=>rfl) fun u4=>(aL (fun d6=>[some (.v (.r n)),some (.v (.d (D.str bO)))]) (Eo (φ:=fun a5=>(aw.1,(aw.2+a5))) (S:=S) (a:=aw.2) rfl rfl (hr _) rfl rfl (sv (eC (af (sv (aj (a:=bO) (e:=D.str) rfl)) ai) ox)) (fun a5=>hw _ (aw.1,(aw.2+a5)))) (fun _=>rfl) fun d6=>(iu (p':=[none,none]) rfl (by(repeat' (first | exact trivial | refine And.intro rfl ?_)))))) (fun _=>rfl))
def aI(aw:List Nat×Int)(cG:List Nat)(i3:Int):M (List Nat×(List Nat×Int)):=(lq (fun(c1:List Nat×Int)=>andM ((i9 c1.1).bind fun a2=>M.ok (decide (c1.2<a2))) ((fx c1.1 c1.2).bind fun a3=>M.ok (subIn a3 cG))) (fun(c1:List Nat×Int)=>((M.ok (1:Int)).bind fun a4=>M.ok (c1.1,(c1.2+a4))).bind fun d5=>M.ok d5) dj aw).bind fun r6=>(bD r6 (decide ((0:Int)<(r6.2-aw.2))&&decide ((r6.2-aw.2)≤i3))).bind fun u7=>(bc r6.1 (some aw.2) (some r6.2)).bind fun v8=>M.ok ((v8,r6))
theorem dX{R:List Ob→Prop}{S:(List Nat×Int)→List Ob}{n:Nat}(hr:∀ d,(S d)[n]? =some (iO d))(hw:∀ d d',(S d).set n (iO d')=S d')(hR:∀ d,R (S d)){aw:List Nat×Int}{cG:List Nat}{i3:Int}:fQ R cB [.r n,.d (D.str cG),.d (D.int i3)] (S aw) (aI aw cG i3) (fun v=>(.val (.d (D.str v.1)),S v.2)):=(gq (eB [some (.v (.r n)),some (.v (.d (D.str cG))),some (.v (.d (D.int i3))),some (.v (.d (D.int aw.2)))] (bY (jJ (i:=0) (a:=aw.2) (e:=fun v=>.d (D.int v)) rfl (hr _) rfl rfl)) rfl (qh (C3 (P:=fun(c1:List Nat×Int)=>[some (.v (.r n)),some (.v (.d (D.str cG))),some (.v (.d (D.int i3))),some (.v (.d (D.int aw.2)))]) (S:=fun(c1:List Nat×Int)=>S c1) (c0:=aw) (mt:=(fun(c1:List Nat×Int)=>andM ((i9 c1.1).bind fun a2=>M.ok (decide (c1.2<a2))) ((fx c1.1 c1.2).bind fun a3=>M.ok (subIn a3 cG)))) (mb:=(fun(c1:List Nat×Int)=>((M.ok (1:Int)).bind fun a4=>M.ok (c1.1,(c1.2+a4))).bind fun d5=>M.ok d5)) (by(repeat' (first | exact trivial | refine And.intro rfl ?_))) rfl (fun c1=>(om (tB (b:=fun v=>v) (sv (cC (sv (jJ (i:=0) (a:=c1.2) (e:=fun v=>.d (D.int v)) rfl (hr _) rfl rfl)) (sv (eC (af (sv (jJ (i:=0) (a:=c1.1) (e:=fun v=>.d (D.str v)) rfl (hr _) rfl rfl)) ai) ox)) fun a2=>wF))) (lZ (tB (b:=fun v=>v) (sv (bV (sv (au (sv (jJ (i:=0) (a:=c1.1) (e:=fun v=>.d (D.str v)) rfl (hr _) rfl rfl)) (sv (jJ (i:=0) (a:=c1.2) (e:=fun v=>.d (D.int v)) rfl (hr _) rfl rfl)) nH)) (fun a3=>(sv (aj (a:=cG) (e:=D.str) rfl))) fun a3=>yY)))))) (fun c1=>(aL (fun d5=>[some (.v (.r n)),some (.v (.d (D.str cG))),some (.v (.d (D.int i3))),some (.v (.d (D.int aw.2)))]) (Eo (φ:=fun a4=>(c1.1,(c1.2+a4))) (S:=S) (a:=c1.2) rfl rfl (hr _) rfl rfl (sv (cD D.int (1:Int))) (fun a4=>hw _ (c1.1,(c1.2+a4)))) (fun _=>rfl) fun d5=>(qk rfl (by(repeat' (first | exact trivial | refine And.intro rfl ?_))))))) fun r6=>(aL (fun u7=>[some (.v (.r n)),some (.v (.d (D.str cG))),some (.v (.d (D.int i3))),some (.v (.d (D.int aw.2)))]) (je (bX (post:=(pD eN _ _)) (sv (cj (a:=r6) rfl)) (bg (hr _) rfl) (af (sv (OY (sv (cD D.int (0:Int))) (sv (au (sv (jJ (i:=0) (a:=r6.2) (e:=fun v=>.d (D.int v)) rfl (hr _) rfl rfl)) (sv (aj (a:=aw.2) (e:=D.int) rfl)) rK)) (sv (aj (a:=i3) (e:=D.int) rfl)) wF Kx)) ai) (.d .nil) rfl (ij (aw:=r6) (m3:=(decide ((0:Int)<(r6.2-aw.2))&&decide ((r6.2-aw.2)≤i3))) (hr _) (hR _)) (fun _=>rfl))) (fun _=>rfl) fun u7=>(aV (fm (φ:=fun v8=>(v8,r6)) (bL (sv (jJ (i:=0) (a:=r6.1) (e:=fun v=>.d (D.str v)) rfl (hr _) rfl rfl)) (pe (sv (aj (a:=aw.2) (e:=D.int) rfl))) (pe (sv (jJ (i:=0) (a:=r6.2) (e:=fun v=>.d (D.int v)) rfl (hr _) rfl rfl))) cn) fun _=>rfl))))))
def bW(aw:List Nat×Int)(end_:List Nat):M ((List (List Nat))×(List Nat×Int)):=(((((aY (sS "abcdefghijklmnopqrstuvwxyz") (sS "0123456789")).bind fun a1=>(M.ok ()).bind fun w2=>M.ok (a1,w2)).bind fun z3=>aI aw z3.1 (40:Int)).bind fun a4=>(M.ok ()).bind fun w5=>M.ok (a4,w5)).bind fun z6=>M.ok ([z6.1.1],z6.1.2)).bind fun pw=>(lq (fun(c8:(List (List Nat))×(List Nat×Int))=>(nox (ax c8.2 end_)).bind fun v=>M.ok (!v)) (fun(c8:(List (List Nat))×(List Nat×Int))=>(av c8.2 (sS " ")).bind fun u9=>(((((aY (sS "abcdefghijklmnopqrstuvwxyz") (sS "0123456789")).bind fun a10=>(M.ok ()).bind fun w11=>M.ok (a10,w11)).bind fun z12=>aI u9.2 z12.1 (40:Int)).bind fun a13=>(M.ok ()).bind fun w14=>M.ok (a13,w14)).bind fun z15=>(iN c8.1 z15.1.1).bind fun v=>M.ok (v,z15.1.2)).bind fun cK=>M.ok (cK.1,cK.2)) dj (pw.1,pw.2)).bind fun r17=>(av r17.2 end_).bind fun u18=>(bD u18.2 (decide ((r17.1.length:Int)≤(6:Int)))).bind fun u19=>M.ok ((r17.1,u18.2))
theorem j6{R:List Ob→Prop}{S:(List Nat×Int)→List Ob}{n:Nat}(hr:∀ d,(S d)[n]? =some (iO d))(hw:∀ d d',(S d).set n (iO d')=S d')(hR:∀ d,R (S d)){aw:List Nat×Int}{end_:List Nat}:fQ R gY [.r n,.d (D.str end_)] (S aw) (bW aw end_) (fun v=>(.new ((oL D.str) v.1),S v.2)):=(gq (aL (fun pw=>[some (.v (.r n)),some (.v (.d (D.str end_))),some (.own ((oL D.str) pw.1))]) (nV (Ev.map (fun(z6:(List Nat×(List Nat×Int))×Unit)=>([z6.1.1],z6.1.2)) (CT (oL D.str) _ S) (bH (l:=fun z6=>([z6.1.1]:List (List Nat))) (e:=D.str) (aF (sv (lC (post:=(pE D.str _ S)) (sv (cj (a:=aw) rfl)) (bg (hr _) rfl) (aF (sv (au (sv (cD D.str (sS "abcdefghijklmnopqrstuvwxyz"))) (sv (cD D.str (sS "0123456789"))) bQ)) fun a1=>(af (sv (cD D.int (40:Int))) ai)) (fun _=>(.d (.d .nil))) (fun _=>rfl) (fun z3=>(dX (aw:=aw) (cG:=z3.1) (i3:=(40:Int)) hr hw hR)) (fun _ _=>rfl))) fun a4=>ai) (fun _=>(.d .nil)) (fun _=>rfl) (fun _=>rfl)) fun _=>rfl)) (fun _=>rfl) fun pw=>(qh (C3 (P:=fun(c8:(List (List Nat))×(List Nat×Int))=>[some (.v (.r n)),some (.v (.d (D.str end_))),some (.own ((oL D.str) c8.1))]) (S:=fun(c8:(List (List Nat))×(List Nat×Int))=>S c8.2) (c0:=(pw.1,pw.2)) (mt:=(fun(c8:(List (List Nat))×(List Nat×Int))=>(nox (ax c8.2 end_)).bind fun v=>M.ok (!v))) (mb:=(fun(c8:(List (List Nat))×(List Nat×Int))=>(av c8.2 (sS " ")).bind fun u9=>(((((aY (sS "abcdefghijklmnopqrstuvwxyz") (sS "0123456789")).bind fun a10=>(M.ok ()).bind fun w11=>M.ok (a10,w11)).bind fun z12=>aI u9.2 z12.1 (40:Int)).bind fun a13=>(M.ok ()).bind fun w14=>M.ok (a13,w14)).bind fun z15=>(iN c8.1 z15.1.1).bind fun v=>M.ok (v,z15.1.2)).bind fun cK=>M.ok (cK.1,cK.2))) (by(repeat' (first | exact trivial | refine And.intro rfl ?_))) rfl (fun c8=>(Et (tB (b:=fun v=>v) (sv (hE (R':=R) (post:=(pD D.bl _ _)) (sv (cj (a:=c8.2) rfl)) (bg (hr _) rfl) (af (sv (aj (a:=end_) (e:=D.str) rfl)) ai) (.d .nil) rfl (bB (aw:=c8.2) (bO:=end_) (hr _) ) (fun _=>rfl)))))) (fun c8=>(aL (fun u9=>[some (.v (.r n)),some (.v (.d (D.str end_))),some (.own ((oL D.str) c8.1))]) (je (bX (post:=(pE eN _ S)) (sv (cj (a:=c8.2) rfl)) (bg (hr _) rfl) (af (sv (cD D.str (sS " "))) ai) (.d .nil) rfl (bx (aw:=c8.2) (bO:=(sS " ")) hr hw hR) (fun _=>rfl))) (fun _=>rfl) fun u9=>(aL (fun cK=>[some (.v (.r n)),some (.v (.d (D.str end_))),some (.own ((oL D.str) cK.1))]) (je (xO (jd (jc (a:=c8.1) rfl)) (fun _ hf=>wM (mj rfl) hf) (aF (sv (lC (post:=(pE D.str _ S)) (sv (cj (a:=u9.2) rfl)) (bg (hr _) rfl) (aF (sv (au (sv (cD D.str (sS "abcdefghijklmnopqrstuvwxyz"))) (sv (cD D.str (sS "0123456789"))) bQ)) fun a10=>(af (sv (cD D.int (40:Int))) ai)) (fun _=>(.d (.d .nil))) (fun _=>rfl) (fun z12=>(dX (aw:=u9.2) (cG:=z12.1) (i3:=(40:Int)) hr hw hR)) (fun _ _=>rfl))) fun a13=>ai) fun z15=>(Ev.map (fun v=>(v,z15.1.2)) (KR 2 (oL D.str) _ S) (uA rfl) fun _=>rfl))) (fun _=>rfl) fun cK=>(qk rfl (by(repeat' (first | exact trivial | refine And.intro rfl ?_)))))))) fun r17=>(aL (fun u18=>[some (.v (.r n)),some (.v (.d (D.str end_))),some (.own ((oL D.str) r17.1))]) (je (bX (post:=(pE eN _ S)) (sv (cj (a:=r17.2) rfl)) (bg (hr _) rfl) (af (sv (aj (a:=end_) (e:=D.str) rfl)) ai) (.d .nil) rfl (bx (aw:=r17.2) (bO:=end_) hr hw hR) (fun _=>rfl))) (fun _=>rfl) fun u18=>(aL (fun u19=>[some (.v (.r n)),some (.v (.d (D.str end_))),some (.own ((oL D.str) r17.1))]) (je (bX (post:=(pD eN _ _)) (sv (cj (a:=u18.2) rfl)) (bg (hr _) rfl) (af (sv (au (sv (eC (af (jd (jc (a:=r17.1) rfl)) ai) (oh (mj rfl)))) (sv (cD D.int (6:Int))) Kx)) ai) (.d .nil) rfl (ij (aw:=u18.2) (m3:=(decide ((r17.1.length:Int)≤(6:Int)))) (hr _) (hR _)) (fun _=>rfl))) (fun _=>rfl) fun u19=>(aV (Pk rfl rfl)))))))
def fZ(aw:List Nat×Int)(bh:List Nat):M (D×(List Nat×Int)):=(nox (ax aw (sS "\""))).bind fun b1=>if b1=true then((av aw (sS "\"")).bind fun u2=>((((bW u2.2 (sS "\"")).bind fun v=>M.ok ((eL D.str) v.1,v.2)).bind fun a3=>(M.ok ()).bind fun w4=>M.ok (a3,w4)).bind fun z5=>M.ok ((D.tup [(D.str (sS "row")),(D.str bh),z5.1.1]),z5.1.2)).bind fun v6=>M.ok (v6))else((nox (ax aw (sS "~"))).bind fun b7=>if b7=true then((av aw (sS "~")).bind fun u8=>((((((aY (sS "abcdefghijklmnopqrstuvwxyz") (sS "0123456789")).bind fun a9=>(M.ok ()).bind fun w10=>M.ok (a9,w10)).bind fun z11=>aI u8.2 z11.1 (40:Int)).bind fun v=>M.ok (D.str v.1,v.2)).bind fun a12=>(M.ok ()).bind fun w13=>M.ok (a12,w13)).bind fun z14=>M.ok ((D.tup [(D.str (sS "like")),(D.str bh),z14.1.1]),z14.1.2)).bind fun v15=>M.ok (v15))else(((((aY (sS "abcdefghijklmnopqrstuvwxyz") (sS "0123456789")).bind fun a16=>aY a16 (sS "?*")).bind fun a17=>(M.ok ()).bind fun w18=>M.ok (a17,w18)).bind fun z19=>aI aw z19.1 (40:Int)).bind fun row20=>(orM (nox (ax row20.2 (sS "<"))) (nox (ax row20.2 (sS "[")))).bind fun b21=>if b21=true then((((((j3 (1:Int) (21:Int)).bind fun l24=>kr (fun(hJ:Int)=>M.ok true) (fun(hJ:Int)=>p9 hJ) l24).bind fun a25=>M.ok (dc row20.1 a25)).bind fun a26=>(M.ok ()).bind fun w27=>M.ok (a26,w27)).bind fun z28=>bD row20.2 z28.1).bind fun u29=>(nox (ax row20.2 (sS "<"))).bind fun b30=>if b30=true then((av row20.2 (sS "<")).bind fun u31=>((((uf row20.1).bind fun v=>M.ok (D.int v)).bind fun a32=>(((bW u31.2 (sS ">")).bind fun v=>M.ok ((eL D.str) v.1,v.2)).bind fun a33=>(M.ok ()).bind fun w34=>M.ok (a33,w34)).bind fun w35=>M.ok (a32,w35)).bind fun z36=>M.ok ((D.tup [(D.str (sS "near")),(D.str bh),z36.1,z36.2.1.1]),z36.2.1.2)).bind fun v37=>M.ok (v37))else((av row20.2 (sS "[")).bind fun u38=>((((uf row20.1).bind fun v=>M.ok (D.int v)).bind fun a39=>(((bW u38.2 (sS "]")).bind fun v=>M.ok ((eL D.str) v.1,v.2)).bind fun a40=>(M.ok ()).bind fun w41=>M.ok (a40,w41)).bind fun w42=>M.ok (a39,w42)).bind fun z43=>M.ok ((D.tup [(D.str (sS "chain")),(D.str bh),z43.1,z43.2.1.1]),z43.2.1.2)).bind fun v44=>M.ok (v44)))else((if((subIn (sS "?") row20.1)||(subIn (sS "*") row20.1))=true then(M.ok (((D.tup [(D.str (sS "like")),(D.str bh),(D.str row20.1)]),row20.2)))else(M.ok (((D.tup [(D.str (sS "word")),(D.str bh),(D.str row20.1)]),row20.2)))))))
theorem tY{R:List Ob→Prop}{S:(List Nat×Int)→List Ob}{n:Nat}(hr:∀ d,(S d)[n]? =some (iO d))(hw:∀ d d',(S d).set n (iO d')=S d')(hR:∀ d,R (S d)){aw:List Nat×Int}{bh:List Nat}:fQ R jZ [.r n,.d (D.str bh)] (S aw) (fZ aw bh) (fun v=>(.val (.d (eY v.1)),S v.2)):=(gq (gu (b:=fun v=>v) (tB (b:=fun v=>v) (sv (hE (R':=R) (post:=(pD D.bl _ _)) (sv (cj (a:=aw) rfl)) (bg (hr _) rfl) (af (sv (cD D.str (sS "\""))) ai) (.d .nil) rfl (bB (aw:=aw) (bO:=(sS "\"")) (hr _) ) (fun _=>rfl)))) (fun b1=>(aL (fun u2=>[some (.v (.r n)),some (.v (.d (D.str bh))),none,none]) (je (bX (post:=(pE eN _ S)) (sv (cj (a:=aw) rfl)) (bg (hr _) rfl) (af (sv (cD D.str (sS "\""))) ai) (.d .nil) rfl (bx (aw:=aw) (bO:=(sS "\"")) hr hw hR) (fun _=>rfl))) (fun _=>rfl) fun u2=>(aV (fm (φ:=fun v6=>v6) (Ev.map (fun(z5:(D×(List Nat×Int))×Unit)=>((D.tup [(D.str (sS "row")),(D.str bh),z5.1.1]),z5.1.2)) (pE eY _ S) (bI (af (sv (toY (cD D.str (sS "row")))) (af (sv (toY (aj (a:=bh) (e:=D.str) rfl))) (aF (Ev.map (fun v=>((eL D.str) v.1,v.2)) (pE eY _ S) (sn (bX (post:=(CT (oL D.str) _ S)) (sv (cj (a:=u2.2) rfl)) (bg (hr _) rfl) (af (sv (cD D.str (sS "\""))) ai) (.d .nil) rfl (j6 (aw:=u2.2) (end_:=(sS "\"")) hr hw hR) (fun _=>rfl)) (fun v=>bS _ v.1)) fun _=>rfl) fun a3=>ai))) (fun _=>(.d (.d (.d .nil)))) (fun _=>rfl) (fun _=>rfl)) fun _=>rfl) fun _=>rfl)))) (fun b1=>(gu (b:=fun v=>v) (tB (b:=fun v=>v) (sv (hE (R':=R) (post:=(pD D.bl _ _)) (sv (cj (a:=aw) rfl)) (bg (hr _) rfl) (af (sv (cD D.str (sS "~"))) ai) (.d .nil) rfl (bB (aw:=aw) (bO:=(sS "~")) (hr _) ) (fun _=>rfl)))) (fun b7=>(aL (fun u8=>[some (.v (.r n)),some (.v (.d (D.str bh))),none,none]) (je (bX (post:=(pE eN _ S)) (sv (cj (a:=aw) rfl)) (bg (hr _) rfl) (af (sv (cD D.str (sS "~"))) ai) (.d .nil) rfl (bx (aw:=aw) (bO:=(sS "~")) hr hw hR) (fun _=>rfl))) (fun _=>rfl) fun u8=>(aV (fm (φ:=fun v15=>v15) (Ev.map (fun(z14:(D×(List Nat×Int))×Unit)=>((D.tup [(D.str (sS "like")),(D.str bh),z14.1.1]),z14.1.2)) (pE eY _ S) (bI (af (sv (toY (cD D.str (sS "like")))) (af (sv (toY (aj (a:=bh) (e:=D.str) rfl))) (aF (sv (Ev.map (fun v=>(D.str v.1,v.2)) (pE eY _ S) (lC (post:=(pE D.str _ S)) (sv (cj (a:=u8.2) rfl)) (bg (hr _) rfl) (aF (sv (au (sv (cD D.str (sS "abcdefghijklmnopqrstuvwxyz"))) (sv (cD D.str (sS "0123456789"))) bQ)) fun a9=>(af (sv (cD D.int (40:Int))) ai)) (fun _=>(.d (.d .nil))) (fun _=>rfl) (fun z11=>(dX (aw:=u8.2) (cG:=z11.1) (i3:=(40:Int)) hr hw hR)) (fun _ _=>rfl)) fun _=>rfl)) fun a12=>ai))) (fun _=>(.d (.d (.d .nil)))) (fun _=>rfl) (fun _=>rfl)) fun _=>rfl) fun _=>rfl)))) (fun b7=>(aL (fun row20=>[some (.v (.r n)),some (.v (.d (D.str bh))),some (.v (.d (D.str row20.1))),none]) (bY (lC (post:=(pE D.str _ S)) (sv (cj (a:=aw) rfl)) (bg (hr _) rfl) (aF (sv (bV (sv (au (sv (cD D.str (sS "abcdefghijklmnopqrstuvwxyz"))) (sv (cD D.str (sS "0123456789"))) bQ)) (fun a16=>(sv (cD D.str (sS "?*")))) fun a16=>bQ)) fun a17=>(af (sv (cD D.int (40:Int))) ai)) (fun _=>(.d (.d .nil))) (fun _=>rfl) (fun z19=>(dX (aw:=aw) (cG:=z19.1) (i3:=(40:Int)) hr hw hR)) (fun _ _=>rfl))) (fun _=>rfl) fun row20=>(gu (b:=fun v=>v) (nQ (tB (b:=fun v=>v) (sv (hE (R':=R) (post:=(pD D.bl _ _)) (sv (cj (a:=row20.2) rfl)) (bg (hr _) rfl) (af (sv (cD D.str (sS "<"))) ai) (.d .nil) rfl (bB (aw:=row20.2) (bO:=(sS "<")) (hr _) ) (fun _=>rfl)))) (kM (tB (b:=fun v=>v) (sv (hE (R':=R) (post:=(pD D.bl _ _)) (sv (cj (a:=row20.2) rfl)) (bg (hr _) rfl) (af (sv (cD D.str (sS "["))) ai) (.d .nil) rfl (bB (aw:=row20.2) (bO:=(sS "[")) (hr _) ) (fun _=>rfl)))))) (fun b21=>(aL (fun u29=>[some (.v (.r n)),some (.v (.d (D.str bh))),some (.v (.d (D.str row20.1))),none]) (je (lC (post:=(pD eN _ _)) (sv (cj (a:=row20.2) rfl)) (bg (hr _) rfl) (aF (sv (cC (sv (aj (a:=row20.1) (e:=D.str) rfl)) (sn (Ap (q:=[some (.v (.r n)),some (.v (.d (D.str bh))),some (.v (.d (D.str row20.1))),none]) (p2:=fun(hJ:Int)=>[some (.v (.r n)),some (.v (.d (D.str bh))),some (.v (.d (D.str row20.1))),some (.v (.d (D.int hJ)))]) (p3:=fun(hJ:Int)=>[some (.v (.r n)),some (.v (.d (D.str bh))),some (.v (.d (D.str row20.1))),some (.v (.d (D.int hJ)))]) (mt:=(fun(hJ:Int)=>M.ok true)) (me:=(fun(hJ:Int)=>p9 hJ)) (e:=D.str) (BP (af (sv (cD D.int (1:Int))) (af (sv (cD D.int (21:Int))) ai)) Jb) rfl (fun(hJ:Int)=>⟨jD,kH,(qi (eC (af (sv (aj (a:=hJ) (e:=D.int) rfl)) ai) C1))⟩) (fun _=>by(repeat' (first | exact trivial | refine And.intro rfl ?_))) (fun _=>by(repeat' (first | exact trivial | refine And.intro rfl ?_)))) (fun v=>bS _ v)) fun a25=>(Bz aT ck qS (by decide)))) fun a26=>ai) (fun _=>(.d .nil)) (fun _=>rfl) (fun z28=>(ij (aw:=row20.2) (m3:=z28.1) (hr _) (hR _))) (fun _ _=>rfl))) (fun _=>rfl) fun u29=>(gu (b:=fun v=>v) (tB (b:=fun v=>v) (sv (hE (R':=R) (post:=(pD D.bl _ _)) (sv (cj (a:=row20.2) rfl)) (bg (hr _) rfl) (af (sv (cD D.str (sS "<"))) ai) (.d .nil) rfl (bB (aw:=row20.2) (bO:=(sS "<")) (hr _) ) (fun _=>rfl)))) (fun b30=>(aL (fun u31=>[some (.v (.r n)),some (.v (.d (D.str bh))),some (.v (.d (D.str row20.1))),none]) (je (bX (post:=(pE eN _ S)) (sv (cj (a:=row20.2) rfl)) (bg (hr _) rfl) (af (sv (cD D.str (sS "<"))) ai) (.d .nil) rfl (bx (aw:=row20.2) (bO:=(sS "<")) hr hw hR) (fun _=>rfl))) (fun _=>rfl) fun u31=>(aV (fm (φ:=fun v37=>v37) (Ev.map (fun(z36:D×((D×(List Nat×Int))×Unit))=>((D.tup [(D.str (sS "near")),(D.str bh),z36.1,z36.2.1.1]),z36.2.1.2)) (pE eY _ S) (bI (af (sv (toY (cD D.str (sS "near")))) (af (sv (toY (aj (a:=bh) (e:=D.str) rfl))) (aF (sv (toY (eC (af (sv (aj (a:=row20.1) (e:=D.str) rfl)) ai) Dz))) fun a32=>(aF (Ev.map (fun v=>((eL D.str) v.1,v.2)) (pE eY _ S) (sn (bX (post:=(CT (oL D.str) _ S)) (sv (cj (a:=u31.2) rfl)) (bg (hr _) rfl) (af (sv (cD D.str (sS ">"))) ai) (.d .nil) rfl (j6 (aw:=u31.2) (end_:=(sS ">")) hr hw hR) (fun _=>rfl)) (fun v=>bS _ v.1)) fun _=>rfl) fun a33=>ai)))) (fun _=>(.d (.d (.d (.d .nil))))) (fun _=>rfl) (fun _=>rfl)) fun _=>rfl) fun _=>rfl)))) (fun b30=>(aL (fun u38=>[some (.v (.r n)),some (.v (.d (D.str bh))),some (.v (.d (D.str row20.1))),none]) (je (bX (post:=(pE eN _ S)) (sv (cj (a:=row20.2) rfl)) (bg (hr _) rfl) (af (sv (cD D.str (sS "["))) ai) (.d .nil) rfl (bx (aw:=row20.2) (bO:=(sS "[")) hr hw hR) (fun _=>rfl))) (fun _=>rfl) fun u38=>(aV (fm (φ:=fun v44=>v44) (Ev.map (fun(z43:D×((D×(List Nat×Int))×Unit))=>((D.tup [(D.str (sS "chain")),(D.str bh),z43.1,z43.2.1.1]),z43.2.1.2)) (pE eY _ S) (bI (af (sv (toY (cD D.str (sS "chain")))) (af (sv (toY (aj (a:=bh) (e:=D.str) rfl))) (aF (sv (toY (eC (af (sv (aj (a:=row20.1) (e:=D.str) rfl)) ai) Dz))) fun a39=>(aF (Ev.map (fun v=>((eL D.str) v.1,v.2)) (pE eY _ S) (sn (bX (post:=(CT (oL D.str) _ S)) (sv (cj (a:=u38.2) rfl)) (bg (hr _) rfl) (af (sv (cD D.str (sS "]"))) ai) (.d .nil) rfl (j6 (aw:=u38.2) (end_:=(sS "]")) hr hw hR) (fun _=>rfl)) (fun v=>bS _ v.1)) fun _=>rfl) fun a40=>ai)))) (fun _=>(.d (.d (.d (.d .nil))))) (fun _=>rfl) (fun _=>rfl)) fun _=>rfl) fun _=>rfl))))))) (fun b21=>(gj (DH (dU (sv (au (sv (cD D.str (sS "?"))) (sv (aj (a:=row20.1) (e:=D.str) rfl)) yY))) (kM (dU (sv (au (sv (cD D.str (sS "*"))) (sv (aj (a:=row20.1) (e:=D.str) rfl)) yY))))) (aV (il (Ev.b6 (post2:=(pD eY _ _)) (bI (af (sv (toY (cD D.str (sS "like")))) (af (sv (toY (aj (a:=bh) (e:=D.str) rfl))) (af (sv (toY (aj (a:=row20.1) (e:=D.str) rfl))) ai))) (fun _=>(.d (.d (.d .nil)))) (fun _=>rfl) (fun _=>rfl)) rfl) rfl)) (aV (il (Ev.b6 (post2:=(pD eY _ _)) (bI (af (sv (toY (cD D.str (sS "word")))) (af (sv (toY (aj (a:=bh) (e:=D.str) rfl))) (af (sv (toY (aj (a:=row20.1) (e:=D.str) rfl))) ai))) (fun _=>(.d (.d (.d .nil)))) (fun _=>rfl) (fun _=>rfl)) rfl) rfl)))))))))))
def ik(recm:(List Nat×Int)→M (D×(List Nat×Int)))(aw:List Nat×Int):M (D×(List Nat×Int)):=(M.ok ([(sS "&",sS "both"),(sS "|",sS "one")]:List (List Nat×List Nat))).bind fun dw=>(orM (nox (ax aw (sS "&"))) (nox (ax aw (sS "|")))).bind fun b2=>if b2=true then((aI aw (sS "&|") (1:Int)).bind fun fF=>(nox (ax fF.2 ((sS ")")))).bind fun b4=>if b4=true then((av fF.2 ((sS ")"))).bind fun u5=>((((i8 dw fF.1).bind fun v=>M.ok (D.str v)).bind fun a6=>(((M.ok ([]:List D)).bind fun v=>M.ok ((eL eY) v)).bind fun a7=>(M.ok ()).bind fun w8=>M.ok (a7,w8)).bind fun w9=>M.ok (a6,w9)).bind fun z10=>M.ok (D.tup [z10.1,z10.2.1])).bind fun v11=>M.ok ((v11,u5.2)))else((av fF.2 (sS " ")).bind fun u12=>(((recm u12.2).bind fun a13=>(M.ok ()).bind fun w14=>M.ok (a13,w14)).bind fun z15=>M.ok ([z15.1.1],z15.1.2)).bind fun cK=>(av cK.2 ((sS ")"))).bind fun u17=>((((i8 dw fF.1).bind fun v=>M.ok (D.str v)).bind fun a18=>(M.ok ()).bind fun w19=>M.ok (a18,w19)).bind fun z20=>M.ok (D.tup [z20.1,((eL eY) cK.1)])).bind fun v21=>M.ok ((v21,u17.2))))else((((recm aw).bind fun a22=>(M.ok ()).bind fun w23=>M.ok (a22,w23)).bind fun z24=>M.ok ([z24.1.1],z24.1.2)).bind fun hO=>(av hO.2 (sS " ")).bind fun u26=>(aI u26.2 (sS "&|") (1:Int)).bind fun gb=>(av gb.2 (sS " ")).bind fun u28=>(((recm u28.2).bind fun a29=>(M.ok ()).bind fun w30=>M.ok (a29,w30)).bind fun z31=>(iN hO.1 z31.1.1).bind fun v=>M.ok (v,z31.1.2)).bind fun jT=>(lq (fun(c33:List D×(List Nat×Int))=>(nox (ax c33.2 ((sS ")")))).bind fun v=>M.ok (!v)) (fun(c33:List D×(List Nat×Int))=>((((aY (sS " ") gb.1).bind fun a34=>aY a34 (sS " ")).bind fun a35=>(M.ok ()).bind fun w36=>M.ok (a35,w36)).bind fun z37=>av c33.2 z37.1).bind fun u38=>(((recm u38.2).bind fun a39=>(M.ok ()).bind fun w40=>M.ok (a39,w40)).bind fun z41=>(iN c33.1 z41.1.1).bind fun v=>M.ok (v,z41.1.2)).bind fun ju=>M.ok (ju.1,ju.2)) dj (jT.1,jT.2)).bind fun r43=>(av r43.2 ((sS ")"))).bind fun u44=>((((i8 dw gb.1).bind fun v=>M.ok (D.str v)).bind fun a45=>(M.ok ()).bind fun w46=>M.ok (a45,w46)).bind fun z47=>M.ok (D.tup [z47.1,((eL eY) r43.1)])).bind fun v48=>M.ok ((v48,u44.2)))
theorem u3{R:List Ob→Prop}{rec:Fn}{recm:(List Nat×Int)→M (D×(List Nat×Int))}{S:(List Nat×Int)→List Ob}{n:Nat}(srec:∀ {aw:List Nat×Int},fQ R rec [.r n] (S aw) (recm aw) (fun v=>(.val (.d (eY v.1)),S v.2)))(hr:∀ d,(S d)[n]? =some (iO d))(hw:∀ d d',(S d).set n (iO d')=S d')(hR:∀ d,R (S d)){aw:List Nat×Int}:fQ R (ky rec) [.r n] (S aw) (ik recm aw) (fun v=>(.val (.d (eY v.1)),S v.2)):=(gq (aL (fun dw=>[some (.v (.r n)),some (.own ((my D.str) dw)),none,none]) (nV (tW (l:=([(sS "&",sS "both"),(sS "|",sS "one")]:List (List Nat×List Nat))) (by decide))) (fun _=>rfl) fun dw=>(gu (b:=fun v=>v) (nQ (tB (b:=fun v=>v) (sv (hE (R':=R) (post:=(pD D.bl _ _)) (sv (cj (a:=aw) rfl)) (bg (hr _) rfl) (af (sv (cD D.str (sS "&"))) ai) (.d .nil) rfl (bB (aw:=aw) (bO:=(sS "&")) (hr _) ) (fun _=>rfl)))) (kM (tB (b:=fun v=>v) (sv (hE (R':=R) (post:=(pD D.bl _ _)) (sv (cj (a:=aw) rfl)) (bg (hr _) rfl) (af (sv (cD D.str (sS "|"))) ai) (.d .nil) rfl (bB (aw:=aw) (bO:=(sS "|")) (hr _) ) (fun _=>rfl)))))) (fun b2=>(aL (fun fF=>[some (.v (.r n)),some (.own ((my D.str) dw)),none,some (.v (.d (D.str fF.1)))]) (bY (bX (post:=(pE D.str _ S)) (sv (cj (a:=aw) rfl)) (bg (hr _) rfl) (af (sv (cD D.str (sS "&|"))) (af (sv (cD D.int (1:Int))) ai)) (.d (.d .nil)) rfl (dX (aw:=aw) (cG:=(sS "&|")) (i3:=(1:Int)) hr hw hR) (fun _=>rfl))) (fun _=>rfl) fun fF=>(gu (b:=fun v=>v) (tB (b:=fun v=>v) (sv (hE (R':=R) (post:=(pD D.bl _ _)) (sv (cj (a:=fF.2) rfl)) (bg (hr _) rfl) (af (sv (cD D.str ((sS ")")))) ai) (.d .nil) rfl (bB (aw:=fF.2) (bO:=(sS ")")) (hr _) ) (fun _=>rfl)))) (fun b4=>(aL (fun u5=>[some (.v (.r n)),some (.own ((my D.str) dw)),none,some (.v (.d (D.str fF.1)))]) (je (bX (post:=(pE eN _ S)) (sv (cj (a:=fF.2) rfl)) (bg (hr _) rfl) (af (sv (cD D.str ((sS ")")))) ai) (.d .nil) rfl (bx (aw:=fF.2) (bO:=(sS ")")) hr hw hR) (fun _=>rfl))) (fun _=>rfl) fun u5=>(aV (fm (φ:=fun v11=>(v11,u5.2)) (Ev.map (fun(z10:D×(D×Unit))=>(D.tup [z10.1,z10.2.1])) (pD eY _ _) (bI (aF (sv (toY (au (jd (jc (a:=dw) rfl)) (sv (aj (a:=fF.1) (e:=D.str) rfl)) (rB (DM rfl))))) fun a6=>(aF (toY (sn (Ev.b6 (post2:=(pN (oL eY) _ _)) (bH (l:=fun _=>([]:List D)) (e:=eY) ai (fun _=>.nil) (fun _=>rfl) (fun _=>rfl)) rfl) (fun v=>bS _ v))) fun a7=>ai)) (fun _=>(.d (.d .nil))) (fun _=>rfl) (fun _=>rfl)) fun _=>rfl) fun _=>rfl)))) (fun b4=>(aL (fun u12=>[some (.v (.r n)),some (.own ((my D.str) dw)),none,some (.v (.d (D.str fF.1)))]) (je (bX (post:=(pE eN _ S)) (sv (cj (a:=fF.2) rfl)) (bg (hr _) rfl) (af (sv (cD D.str (sS " "))) ai) (.d .nil) rfl (bx (aw:=fF.2) (bO:=(sS " ")) hr hw hR) (fun _=>rfl))) (fun _=>rfl) fun u12=>(aL (fun cK=>[some (.v (.r n)),some (.own ((my D.str) dw)),some (.own ((oL eY) cK.1)),some (.v (.d (D.str fF.1)))]) (nV (Ev.map (fun(z15:(D×(List Nat×Int))×Unit)=>([z15.1.1],z15.1.2)) (CT (oL eY) _ S) (bH (l:=fun z15=>([z15.1.1]:List D)) (e:=eY) (aF (sv (bX (post:=(pE eY _ S)) (sv (cj (a:=u12.2) rfl)) (bg (hr _) rfl) ai .nil rfl (srec (aw:=u12.2)) (fun _=>rfl))) fun a13=>ai) (fun _=>(.d .nil)) (fun _=>rfl) (fun _=>rfl)) fun _=>rfl)) (fun _=>rfl) fun cK=>(aL (fun u17=>[some (.v (.r n)),some (.own ((my D.str) dw)),some (.own ((oL eY) cK.1)),some (.v (.d (D.str fF.1)))]) (je (bX (post:=(pE eN _ S)) (sv (cj (a:=cK.2) rfl)) (bg (hr _) rfl) (af (sv (cD D.str ((sS ")")))) ai) (.d .nil) rfl (bx (aw:=cK.2) (bO:=(sS ")")) hr hw hR) (fun _=>rfl))) (fun _=>rfl) fun u17=>(aV (fm (φ:=fun v21=>(v21,u17.2)) (Ev.map (fun(z20:D×Unit)=>(D.tup [z20.1,((eL eY) cK.1)])) (pD eY _ _) (bI (aF (sv (toY (au (jd (jc (a:=dw) rfl)) (sv (aj (a:=fF.1) (e:=D.str) rfl)) (rB (DM rfl))))) fun a18=>(af (jd (jc (a:=cK.1) rfl)) ai)) (fun _=>(.d (.o rfl (bS _ _) .nil))) (fun _=>rfl) (fun _=>rfl)) fun _=>rfl) fun _=>rfl))))))))) (fun b2=>(aL (fun hO=>[some (.v (.r n)),some (.own ((my D.str) dw)),some (.own ((oL eY) hO.1)),none]) (nV (Ev.map (fun(z24:(D×(List Nat×Int))×Unit)=>([z24.1.1],z24.1.2)) (CT (oL eY) _ S) (bH (l:=fun z24=>([z24.1.1]:List D)) (e:=eY) (aF (sv (bX (post:=(pE eY _ S)) (sv (cj (a:=aw) rfl)) (bg (hr _) rfl) ai .nil rfl (srec (aw:=aw)) (fun _=>rfl))) fun a22=>ai) (fun _=>(.d .nil)) (fun _=>rfl) (fun _=>rfl)) fun _=>rfl)) (fun _=>rfl) fun hO=>(aL (fun u26=>[some (.v (.r n)),some (.own ((my D.str) dw)),some (.own ((oL eY) hO.1)),none]) (je (bX (post:=(pE eN _ S)) (sv (cj (a:=hO.2) rfl)) (bg (hr _) rfl) (af (sv (cD D.str (sS " "))) ai) (.d .nil) rfl (bx (aw:=hO.2) (bO:=(sS " ")) hr hw hR) (fun _=>rfl))) (fun _=>rfl) fun u26=>(aL (fun gb=>[some (.v (.r n)),some (.own ((my D.str) dw)),some (.own ((oL eY) hO.1)),some (.v (.d (D.str gb.1)))]) (bY (bX (post:=(pE D.str _ S)) (sv (cj (a:=u26.2) rfl)) (bg (hr _) rfl) (af (sv (cD D.str (sS "&|"))) (af (sv (cD D.int (1:Int))) ai)) (.d (.d .nil)) rfl (dX (aw:=u26.2) (cG:=(sS "&|")) (i3:=(1:Int)) hr hw hR) (fun _=>rfl))) (fun _=>rfl) fun gb=>(aL (fun u28=>[some (.v (.r n)),some (.own ((my D.str) dw)),some (.own ((oL eY) hO.1)),some (.v (.d (D.str gb.1)))]) (je (bX (post:=(pE eN _ S)) (sv (cj (a:=gb.2) rfl)) (bg (hr _) rfl) (af (sv (cD D.str (sS " "))) ai) (.d .nil) rfl (bx (aw:=gb.2) (bO:=(sS " ")) hr hw hR) (fun _=>rfl))) (fun _=>rfl) fun u28=>(aL (fun jT=>[some (.v (.r n)),some (.own ((my D.str) dw)),some (.own ((oL eY) jT.1)),some (.v (.d (D.str gb.1)))]) (je (xO (jd (jc (a:=hO.1) rfl)) (fun _ hf=>wM (mj rfl) hf) (aF (sv (bX (post:=(pE eY _ S)) (sv (cj (a:=u28.2) rfl)) (bg (hr _) rfl) ai .nil rfl (srec (aw:=u28.2)) (fun _=>rfl))) fun a29=>ai) fun z31=>(Ev.map (fun v=>(v,z31.1.2)) (KR 2 (oL eY) _ S) (uA rfl) fun _=>rfl))) (fun _=>rfl) fun jT=>(qh (C3 (P:=fun(c33:List D×(List Nat×Int))=>[some (.v (.r n)),some (.own ((my D.str) dw)),some (.own ((oL eY) c33.1)),some (.v (.d (D.str gb.1)))]) (S:=fun(c33:List D×(List Nat×Int))=>S c33.2) (c0:=(jT.1,jT.2)) (mt:=(fun(c33:List D×(List Nat×Int))=>(nox (ax c33.2 ((sS ")")))).bind fun v=>M.ok (!v))) (mb:=(fun(c33:List D×(List Nat×Int))=>((((aY (sS " ") gb.1).bind fun a34=>aY a34 (sS " ")).bind fun a35=>(M.ok ()).bind fun w36=>M.ok (a35,w36)).bind fun z37=>av c33.2 z37.1).bind fun u38=>(((recm u38.2).bind fun a39=>(M.ok ()).bind fun w40=>M.ok (a39,w40)).bind fun z41=>(iN c33.1 z41.1.1).bind fun v=>M.ok (v,z41.1.2)).bind fun ju=>M.ok (ju.1,ju.2))) (by(repeat' (first | exact trivial | refine And.intro rfl ?_))) rfl (fun c33=>(Et (tB (b:=fun v=>v) (sv (hE (R':=R) (post:=(pD D.bl _ _)) (sv (cj (a:=c33.2) rfl)) (bg (hr _) rfl) (af (sv (cD D.str ((sS ")")))) ai) (.d .nil) rfl (bB (aw:=c33.2) (bO:=(sS ")")) (hr _) ) (fun _=>rfl)))))) (fun c33=>(aL (fun u38=>[some (.v (.r n)),some (.own ((my D.str) dw)),some (.own ((oL eY) c33.1)),some (.v (.d (D.str gb.1)))]) (je (lC (post:=(pE eN _ S)) (sv (cj (a:=c33.2) rfl)) (bg (hr _) rfl) (aF (sv (bV (sv (au (sv (cD D.str (sS " "))) (sv (aj (a:=gb.1) (e:=D.str) rfl)) bQ)) (fun a34=>(sv (cD D.str (sS " ")))) fun a34=>bQ)) fun a35=>ai) (fun _=>(.d .nil)) (fun _=>rfl) (fun z37=>(bx (aw:=c33.2) (bO:=z37.1) hr hw hR)) (fun _ _=>rfl))) (fun _=>rfl) fun u38=>(aL (fun ju=>[some (.v (.r n)),some (.own ((my D.str) dw)),some (.own ((oL eY) ju.1)),some (.v (.d (D.str gb.1)))]) (je (xO (jd (jc (a:=c33.1) rfl)) (fun _ hf=>wM (mj rfl) hf) (aF (sv (bX (post:=(pE eY _ S)) (sv (cj (a:=u38.2) rfl)) (bg (hr _) rfl) ai .nil rfl (srec (aw:=u38.2)) (fun _=>rfl))) fun a39=>ai) fun z41=>(Ev.map (fun v=>(v,z41.1.2)) (KR 2 (oL eY) _ S) (uA rfl) fun _=>rfl))) (fun _=>rfl) fun ju=>(qk rfl (by(repeat' (first | exact trivial | refine And.intro rfl ?_)))))))) fun r43=>(aL (fun u44=>[some (.v (.r n)),some (.own ((my D.str) dw)),some (.own ((oL eY) r43.1)),some (.v (.d (D.str gb.1)))]) (je (bX (post:=(pE eN _ S)) (sv (cj (a:=r43.2) rfl)) (bg (hr _) rfl) (af (sv (cD D.str ((sS ")")))) ai) (.d .nil) rfl (bx (aw:=r43.2) (bO:=(sS ")")) hr hw hR) (fun _=>rfl))) (fun _=>rfl) fun u44=>(aV (fm (φ:=fun v48=>(v48,u44.2)) (Ev.map (fun(z47:D×Unit)=>(D.tup [z47.1,((eL eY) r43.1)])) (pD eY _ _) (bI (aF (sv (toY (au (jd (jc (a:=dw) rfl)) (sv (aj (a:=gb.1) (e:=D.str) rfl)) (rB (DM rfl))))) fun a45=>(af (jd (jc (a:=r43.1) rfl)) ai)) (fun _=>(.d (.o rfl (bS _ _) .nil))) (fun _=>rfl) (fun _=>rfl)) fun _=>rfl) fun _=>rfl)))))))))))))
def bb:Nat→(List Nat×Int)→M (D×(List Nat×Int))
 | 0,_=>.bad
 | k+1,aw=>let recm:=bb k;(nox (ax aw (sS "!"))).bind fun b1=>if b1=true then((av aw (sS "!")).bind fun u2=>(((recm u2.2).bind fun a3=>(M.ok ()).bind fun w4=>M.ok (a3,w4)).bind fun z5=>M.ok ((D.tup [(D.str (sS "not")),z5.1.1]),z5.1.2)).bind fun v6=>M.ok (v6))else((nox (ax aw ((sS "(")))).bind fun b7=>if b7=true then((av aw ((sS "("))).bind fun u8=>((ik recm) u8.2).bind fun v9=>M.ok (v9))else((((nox (ax aw (sS "*"))).bind fun b10=>if b10=true then((av aw (sS "*")).bind fun u14=>M.ok ((sS "*"),u14.2))else((aI aw (sS "abcdefghijklmnopqrstuvwxyz") (12:Int)).bind fun q9=>M.ok (q9.1,q9.2))):M (List Nat×(List Nat×Int))).bind fun j13=>(av j13.2 (sS ":")).bind fun u16=>(fZ u16.2 j13.1).bind fun v17=>M.ok (v17)))
theorem qK(k:Nat){R:List Ob→Prop}{S:(List Nat×Int)→List Ob}{n:Nat}(hr:∀ d,(S d)[n]? =some (iO d))(hw:∀ d d',(S d).set n (iO d')=S d')(hR:∀ d,R (S d)){aw:List Nat×Int}:fQ R (eo k) [.r n] (S aw) (bb k aw) (fun v=>(.val (.d (eY v.1)),S v.2)):=by
 induction k generalizing aw with
 | zero=>exact trivial
 | succ k srec=>
  exact(gq (gu (b:=fun v=>v) (tB (b:=fun v=>v) (sv (hE (R':=R) (post:=(pD D.bl _ _)) (sv (cj (a:=aw) rfl)) (bg (hr _) rfl) (af (sv (cD D.str (sS "!"))) ai) (.d .nil) rfl (bB (aw:=aw) (bO:=(sS "!")) (hr _) ) (fun _=>rfl)))) (fun b1=>(aL (fun u2=>[some (.v (.r n)),none]) (je (bX (post:=(pE eN _ S)) (sv (cj (a:=aw) rfl)) (bg (hr _) rfl) (af (sv (cD D.str (sS "!"))) ai) (.d .nil) rfl (bx (aw:=aw) (bO:=(sS "!")) hr hw hR) (fun _=>rfl))) (fun _=>rfl) fun u2=>(aV (fm (φ:=fun v6=>v6) (Ev.map (fun(z5:(D×(List Nat×Int))×Unit)=>((D.tup [(D.str (sS "not")),z5.1.1]),z5.1.2)) (pE eY _ S) (bI (af (sv (toY (cD D.str (sS "not")))) (aF (sv (bX (post:=(pE eY _ S)) (sv (cj (a:=u2.2) rfl)) (bg (hr _) rfl) ai .nil rfl (srec (aw:=u2.2)) (fun _=>rfl))) fun a3=>ai)) (fun _=>(.d (.d .nil))) (fun _=>rfl) (fun _=>rfl)) fun _=>rfl) fun _=>rfl)))) (fun b1=>(gu (b:=fun v=>v) (tB (b:=fun v=>v) (sv (hE (R':=R) (post:=(pD D.bl _ _)) (sv (cj (a:=aw) rfl)) (bg (hr _) rfl) (af (sv (cD D.str ((sS "(")))) ai) (.d .nil) rfl (bB (aw:=aw) (bO:=(sS "(")) (hr _) ) (fun _=>rfl)))) (fun b7=>(aL (fun u8=>[some (.v (.r n)),none]) (je (bX (post:=(pE eN _ S)) (sv (cj (a:=aw) rfl)) (bg (hr _) rfl) (af (sv (cD D.str ((sS "(")))) ai) (.d .nil) rfl (bx (aw:=aw) (bO:=(sS "(")) hr hw hR) (fun _=>rfl))) (fun _=>rfl) fun u8=>(aV (fm (φ:=fun v9=>v9) (bX (post:=(pE eY _ S)) (sv (cj (a:=u8.2) rfl)) (bg (hr _) rfl) ai .nil rfl (u3 srec (aw:=u8.2) hr hw hR) (fun _=>rfl)) fun _=>rfl)))) (fun b7=>(uE (b:=fun v=>v) (Pc:=fun(j13:List Nat×(List Nat×Int))=>[some (.v (.r n)),some (.v (.d (D.str j13.1)))]) (Sc:=fun(j13:List Nat×(List Nat×Int))=>S j13.2) (tB (b:=fun v=>v) (sv (hE (R':=R) (post:=(pD D.bl _ _)) (sv (cj (a:=aw) rfl)) (bg (hr _) rfl) (af (sv (cD D.str (sS "*"))) ai) (.d .nil) rfl (bB (aw:=aw) (bO:=(sS "*")) (hr _) ) (fun _=>rfl)))) (fun b10=>(aL (fun u14=>[some (.v (.r n)),none]) (je (bX (post:=(pE eN _ S)) (sv (cj (a:=aw) rfl)) (bg (hr _) rfl) (af (sv (cD D.str (sS "*"))) ai) (.d .nil) rfl (bx (aw:=aw) (bO:=(sS "*")) hr hw hR) (fun _=>rfl))) (fun _=>rfl) fun u14=>(eB [some (.v (.r n)),some (.v (.d (D.str (sS "*"))))] (bY (cD D.str (sS "*"))) rfl (iu rfl (by(repeat' (first | exact trivial | refine And.intro rfl ?_))))))) (fun b10=>(aL (fun q9=>[some (.v (.r n)),some (.v (.d (D.str q9.1)))]) (bY (bX (post:=(pE D.str _ S)) (sv (cj (a:=aw) rfl)) (bg (hr _) rfl) (af (sv (cD D.str (sS "abcdefghijklmnopqrstuvwxyz"))) (af (sv (cD D.int (12:Int))) ai)) (.d (.d .nil)) rfl (dX (aw:=aw) (cG:=(sS "abcdefghijklmnopqrstuvwxyz")) (i3:=(12:Int)) hr hw hR) (fun _=>rfl))) (fun _=>rfl) fun q9=>(iu rfl (by(repeat' (first | exact trivial | refine And.intro rfl ?_)))))) fun j13=>(aL (fun u16=>[some (.v (.r n)),some (.v (.d (D.str j13.1)))]) (je (bX (post:=(pE eN _ S)) (sv (cj (a:=j13.2) rfl)) (bg (hr _) rfl) (af (sv (cD D.str (sS ":"))) ai) (.d .nil) rfl (bx (aw:=j13.2) (bO:=(sS ":")) hr hw hR) (fun _=>rfl))) (fun _=>rfl) fun u16=>(aV (fm (φ:=fun v17=>v17) (bX (post:=(pE eY _ S)) (sv (cj (a:=u16.2) rfl)) (bg (hr _) rfl) (af (sv (aj (a:=j13.1) (e:=D.str) rfl)) ai) (.d .nil) rfl (tY (aw:=u16.2) (bh:=j13.1) hr hw hR) (fun _=>rfl)) fun _=>rfl)))))))))
end K82
namespace Vw
open PySem L2
end Vw
namespace Vw
open PySem L2 PyProof.Rows
section
variable{R:List Ob→Prop}{p p':Pt}{σ σ':List Ob}{A B T U:Type}{i j n:Nat}
theorem Kb{s:State→Res Fl}{m:M A}{P:A→Pt}{S:A→List Ob}(h:Ev R p σ s m (fun v=>(.nx,P v,S v))):Ev R p σ (ao [s]) m (fun v=>(.nx,P v,S v)):=fun sg hf=>by
 have:=h sg hf
 cases m with
 | ok v=>
  obtain⟨sg',e,hf'⟩:=this
  exact⟨sg',by rw[t8 e];rfl,hf'⟩
 | exc x=>
  obtain⟨s',e,r⟩:=this
  exact⟨s',by show(pb _ _)=_;unfold pb;rw[e],r⟩
 | bad=>trivial
end
end Vw
namespace Vw
open PySem L2 PyProof.Rows
end Vw
namespace Vw
open PySem L2 PyProof.Rows
end Vw
namespace Vw
open PySem L2 PyProof.Rows
end Vw
namespace Vw
open PySem L2 PyProof.Rows
section
variable{R:List Ob→Prop}{p:Pt}{σ:List Ob}
theorem Kz{l:List Int}{d:Int}{x:RV}(h:Lv p σ x D.int l):Ev R p σ (uO x (.val (.d (.int d)))) (.ok (maxD d l)) (pD .int p σ):=Ev.at (r:=fun v=>RV.val (Val.d (D.int v))) fun sg hf=>by
 have h1:=(h sg hf).1
 unfold uO
 rw[h1]
 have:intsOf (l.map fun x=>Val.d (D.int x))=some l:=wC l
 rw[Option.bind_some,this]
 rfl
end
end Vw
namespace K82
open PySem L2 PyProof.Rows Vw
theorem B9(line:List Nat):jr [.r 0,.d (.str line)] [.ins "AskReader" []]=.ok (.val (.d .non)) ⟨[],[iO (line,0)]⟩:=by kernel_rfl
def md(aC:List Nat):M (D×List Ob):=((bb 44) (aC,(0:Int))).bind fun jM=>((((i9 aC).bind fun a3=>M.ok (eqB jM.2.2 a3)).bind fun a4=>(M.ok ()).bind fun w5=>M.ok (a4,w5)).bind fun z6=>bD jM.2 z6.1).bind fun u7=>M.ok ((jM.1,([iO jM.2]:List Ob)))
theorem xf{aC:List Nat}:fQ (fun _=>True) dY [.d (D.str aC)] [] (md aC) (fun v=>(.val (.d (eY v.1)),v.2)):=(gq (t4 [some (.v (.d (D.str aC))),some (.v (.r 0)),none] ([iO (aC,(0:Int))]:List Ob) (bY (LR (o:=fun _=>iO (aC,(0:Int))) (af (sv (aj (a:=aC) (e:=D.str) rfl)) ai) (fun _=>(.d .nil)) (fun _=>rfl) (fun _=>B9 _))) rfl rfl (aL (fun jM=>[some (.v (.d (D.str aC))),some (.v (.r 0)),some (.v (.d (eY jM.1)))]) (bY (bX (post:=(pE eY _ (fun(d:List Nat×Int)=>[iO d]))) (sv (cj (a:=(aC,(0:Int))) rfl)) (bg rfl rfl) ai .nil rfl (qK 44 (aw:=(aC,(0:Int))) (S:=(fun(d:List Nat×Int)=>[iO d])) (n:=0) (fun _=>rfl) (fun _ _=>rfl) (fun _=>trivial)) (fun _=>rfl))) (fun _=>rfl) fun jM=>(aL (fun u7=>[some (.v (.d (D.str aC))),some (.v (.r 0)),some (.v (.d (eY jM.1)))]) (je (lC (post:=(pD eN _ _)) (sv (cj (a:=jM.2) rfl)) (bg rfl rfl) (aF (sv (cC (sv (jJ (i:=1) (a:=jM.2.2) (e:=fun v=>.d (D.int v)) rfl rfl rfl rfl)) (sv (eC (af (sv (aj (a:=aC) (e:=D.str) rfl)) ai) ox)) fun a3=>(cW aT aT qI (by decide)))) fun a4=>ai) (fun _=>(.d .nil)) (fun _=>rfl) (fun z6=>(ij (aw:=jM.2) (m3:=z6.1) rfl trivial)) (fun _ _=>rfl))) (fun _=>rfl) fun u7=>(aV (il (aj (a:=jM.1) (e:=eY) rfl) rfl))))))
def d0(aC:List Nat):M D:=(md aC).bind fun v=>M.ok v.1
theorem pY{aC:List Nat}:Gm dY [(D.str aC)] (d0 aC) (fun v=>.val (.d (eY v))):=fQ.toI xf (fun _=>trivial)
def cO:Nat→D→M ((List Nat))
 | 0,_=>.bad
 | k+1,az=>let recm:=cO k;(((bP az (0:Int)).bind ig).bind fun a1=>M.ok (eqB a1 (sS "not"))).bind fun b2=>if b2=true then(((((bP az (1:Int)).bind fun a3=>(M.ok ()).bind fun w4=>M.ok (a3,w4)).bind fun z5=>nox (recm z5.1)).bind fun a6=>aY (sS "!") a6).bind fun v7=>M.ok (v7))else((orM (((bP az (0:Int)).bind ig).bind fun a8=>M.ok (eqB a8 (sS "both"))) (((bP az (0:Int)).bind ig).bind fun a9=>M.ok (eqB a9 (sS "one")))).bind fun b10=>if b10=true then(((((((bP az (0:Int)).bind ig).bind fun a11=>M.ok (eqB a11 (sS "both"))).bind fun a12=>(M.ok ()).bind fun w13=>M.ok (a12,w13)).bind fun z14=>M.ok (if z14.1=true then(1:Int)else 0)).bind fun a15=>cT [(sS "|"),(sS "&")] a15).bind fun iH=>((((((bP az (1:Int)).bind fun a17=>(M.ok ()).bind fun w18=>M.ok (a17,w18)).bind fun z19=>AK z19.1).bind fun a20=>M.ok (decide (a20<(2:Int)))).bind fun b21=>if b21=true then(((aY ((sS "(")) iH).bind fun a30=>((((bP az (1:Int)).bind fun a31=>(M.ok ()).bind fun w32=>M.ok (a31,w32)).bind fun z33=>AK z33.1).bind fun a34=>oU (sS " ") a34).bind fun a35=>aY a30 a35).bind fun x1=>M.ok x1)else(M.ok ((sS "(")))):M (List Nat)).bind fun j29=>((((bP az (1:Int)).bind (zH (fun d=>M.ok d))).bind fun l=>M.ok (rq l)).bind fun a37=>foldM (fun(c38:List Nat) (k39:Int×D)=>((if(decide ((0:Int)<k39.1))=true then((((aY c38 (sS " ")).bind fun a44=>aY a44 iH).bind fun a45=>aY a45 (sS " ")).bind fun kI=>M.ok kI)else(M.ok c38)):M (List Nat)).bind fun j43=>((nox (recm k39.2)).bind fun a47=>aY j43 a47).bind fun kJ=>M.ok kJ) j29 a37).bind fun r49=>(aY r49 ((sS ")"))).bind fun v50=>M.ok (v50))else((((bP az (1:Int)).bind ig).bind fun a51=>aY a51 (sS ":")).bind fun iI=>(((bP az (0:Int)).bind ig).bind fun a53=>M.ok (eqB a53 (sS "word"))).bind fun b54=>if b54=true then((((bP az (2:Int)).bind ig).bind fun a55=>aY iI a55).bind fun v56=>M.ok (v56))else((((bP az (0:Int)).bind ig).bind fun a57=>M.ok (eqB a57 (sS "like"))).bind fun b58=>if b58=true then(((((((andM (((bP az (2:Int)).bind ig).bind fun a59=>M.ok (!subIn (sS "?") a59)) (((bP az (2:Int)).bind ig).bind fun a60=>M.ok (!subIn (sS "*") a60))).bind fun a61=>(M.ok ()).bind fun w62=>M.ok (a61,w62)).bind fun z63=>M.ok (if z63.1=true then(1:Int)else 0)).bind fun a64=>oU (sS "~") a64).bind fun a65=>aY iI a65).bind fun a66=>((bP az (2:Int)).bind ig).bind fun a67=>aY a66 a67).bind fun v68=>M.ok (v68))else((((bP az (-(1:Int))).bind (zH (fun d=>M.ok d))).bind fun a69=>foldM (fun(c70:List Nat) (px:D)=>((aY c70 (sS " ")).bind fun a72=>((M.ok px).bind ig).bind fun a73=>aY a72 a73).bind fun oH=>M.ok oH) (sS "") a69).bind fun r75=>(((bP az (0:Int)).bind ig).bind fun a76=>M.ok (eqB a76 (sS "row"))).bind fun b77=>if b77=true then((((aY iI (sS "\"")).bind fun a78=>(bc r75 (some (1:Int)) (none:Option Int)).bind fun a79=>aY a78 a79).bind fun a80=>aY a80 (sS "\"")).bind fun v81=>M.ok (v81))else(((((((bP az (0:Int)).bind ig).bind fun a82=>M.ok (eqB a82 (sS "near"))).bind fun a83=>(M.ok ()).bind fun w84=>M.ok (a83,w84)).bind fun z85=>M.ok (if z85.1=true then(1:Int)else 0)).bind fun a86=>cT ([(sS "[]"),(sS "<>")]) a86).bind fun pz=>((((((((bP az (2:Int)).bind CV).bind fun a88=>(M.ok ()).bind fun w89=>M.ok (a88,w89)).bind fun z90=>p9 z90.1).bind fun a91=>aY iI a91).bind fun a92=>(fx pz (0:Int)).bind fun a93=>aY a92 a93).bind fun a94=>(bc r75 (some (1:Int)) (none:Option Int)).bind fun a95=>aY a94 a95).bind fun a96=>(fx pz (1:Int)).bind fun a97=>aY a96 a97).bind fun v98=>M.ok (v98))))))
theorem B2(k:Nat){R:List Ob→Prop}{σ:List Ob}{az:D}:fQ R (fM k) [.d (eY az)] σ (cO k az) (fun v=>(.val (.d (D.str v)),σ)):=by
 induction k generalizing az σ with
 | zero=>exact trivial
 | succ k srec=>
  exact(gq (gu (b:=fun v=>v) (tB (b:=fun v=>v) (sv (bV (sv (j7 (au (sv (aj (a:=az) (e:=eY) rfl)) (sv (cD D.int (0:Int))) dB) ir jF)) (fun a1=>(sv (cD D.str (sS "not")))) fun a1=>(cW aT aT qS (by decide))))) (fun b2=>(aV (fm (φ:=fun v7=>v7) (cC (sv (cD D.str (sS "!"))) (sv (hG (R':=R) (post:=(pD D.str _ _)) (aF (sv (au (sv (aj (a:=az) (e:=eY) rfl)) (sv (cD D.int (1:Int))) dB)) fun a3=>ai) (fun _=>(.d .nil)) (fun _=>rfl) (fun z5=>(srec (az:=z5.1))) (fun _ _=>rfl))) fun a6=>bQ) fun _=>rfl))) (fun b2=>(gu (b:=fun v=>v) (nQ (tB (b:=fun v=>v) (sv (bV (sv (j7 (au (sv (aj (a:=az) (e:=eY) rfl)) (sv (cD D.int (0:Int))) dB) ir jF)) (fun a8=>(sv (cD D.str (sS "both")))) fun a8=>(cW aT aT qS (by decide))))) (kM (tB (b:=fun v=>v) (sv (bV (sv (j7 (au (sv (aj (a:=az) (e:=eY) rfl)) (sv (cD D.int (0:Int))) dB) ir jF)) (fun a9=>(sv (cD D.str (sS "one")))) fun a9=>(cW aT aT qS (by decide))))))) (fun b10=>(aL (fun iH=>[some (.v (.d (eY az))),none,none,none,none,some (.v (.d (D.str iH))),none,none]) (bY (cC (sn (Ev.b6 (post2:=(pN (oL D.str) _ _)) (bH (l:=fun _=>([(sS "|"),(sS "&")]:List (List Nat))) (e:=D.str) (af (sv (cD D.str (sS "|"))) (af (sv (cD D.str (sS "&"))) ai)) (fun _=>(.d (.d .nil))) (fun _=>rfl) (fun _=>rfl)) rfl) (fun v=>bS _ v)) (sv (oa (aF (sv (bV (sv (j7 (au (sv (aj (a:=az) (e:=eY) rfl)) (sv (cD D.int (0:Int))) dB) ir jF)) (fun a11=>(sv (cD D.str (sS "both")))) fun a11=>(cW aT aT qS (by decide)))) fun a12=>ai) fun z14=>xj)) fun a15=>(gE ck))) (fun _=>rfl) fun iH=>(eB [some (.v (.d (eY az))),some (.v (.d (D.str ((sS "("))))),none,none,none,some (.v (.d (D.str iH))),none,none] (bY (cD D.str ((sS "(")))) rfl (uE (b:=fun v=>v) (Pc:=fun(j29:List Nat)=>[some (.v (.d (eY az))),some (.v (.d (D.str j29))),none,none,none,some (.v (.d (D.str iH))),none,none]) (Sc:=fun(j29:List Nat)=>σ) (tB (b:=fun v=>v) (sv (bV (sv (oa (aF (sv (au (sv (aj (a:=az) (e:=eY) rfl)) (sv (cD D.int (1:Int))) dB)) fun a17=>ai) fun z19=>GU)) (fun a20=>(sv (cD D.int (2:Int)))) fun a20=>wF))) (fun b21=>(aL (fun x1=>[some (.v (.d (eY az))),some (.v (.d (D.str x1))),none,none,none,some (.v (.d (D.str iH))),none,none]) (bY (iM (sv (au (sv (aj (a:=(sS "(")) (e:=D.str) rfl)) (sv (aj (a:=iH) (e:=D.str) rfl)) bQ)) (fun a30=>(sv (cC (sv (cD D.str (sS " "))) (sv (oa (aF (sv (au (sv (aj (a:=az) (e:=eY) rfl)) (sv (cD D.int (1:Int))) dB)) fun a31=>ai) fun z33=>GU)) fun a34=>An))) fun a30 a35=>bQ)) (fun _=>rfl) fun x1=>(iu rfl (by(repeat' (first | exact trivial | refine And.intro rfl ?_)))))) (fun b21=>(iu rfl (by(repeat' (first | exact trivial | refine And.intro rfl ?_))))) fun j29=>(qh (Am (P:=fun(c38:List Nat)=>[some (.v (.d (eY az))),some (.v (.d (D.str c38))),none,none,none,some (.v (.d (D.str iH))),none,none]) (S:=fun(c38:List Nat)=>σ) (lA:=(fun(a37:List (Int×D))=>a37)) (c0:=fun(a37:List (Int×D))=>j29) (mb:=(fun(c38:List Nat) (k39:Int×D)=>((if(decide ((0:Int)<k39.1))=true then((((aY c38 (sS " ")).bind fun a44=>aY a44 iH).bind fun a45=>aY a45 (sS " ")).bind fun kI=>M.ok kI)else(M.ok c38)):M (List Nat)).bind fun j43=>((nox ((cO k) k39.2)).bind fun a47=>aY j43 a47).bind fun kJ=>M.ok kJ)) (JS (sv (j7 (au (sv (aj (a:=az) (e:=eY) rfl)) (sv (cD D.int (1:Int))) dB) (Ds Df) (F3 FF)))) (fun _=>by(repeat' (first | exact trivial | refine And.intro rfl ?_))) (fun _=>rfl) (fun c38 k39=>(Fc rfl rfl (uT jD (uT jD Du)))) (fun c38 k39=>(qO (Pc:=fun(j43:List Nat)=>[some (.v (.d (eY az))),some (.v (.d (D.str j43))),none,none,none,some (.v (.d (D.str iH))),some (.v (.d (D.int k39.1))),some (.v (.d (eY k39.2)))]) (Sc:=fun(j43:List Nat)=>σ) (dU (sv (au (sv (aj (a:=k39.1) (e:=D.int) rfl)) (sv (cD D.int (0:Int))) rR))) (aL (fun kI=>[some (.v (.d (eY az))),some (.v (.d (D.str kI))),none,none,none,some (.v (.d (D.str iH))),some (.v (.d (D.int k39.1))),some (.v (.d (eY k39.2)))]) (bY (bV (sv (bV (sv (au (sv (aj (a:=c38) (e:=D.str) rfl)) (sv (cD D.str (sS " "))) bQ)) (fun a44=>(sv (aj (a:=iH) (e:=D.str) rfl))) fun a44=>bQ)) (fun a45=>(sv (cD D.str (sS " ")))) fun a45=>bQ)) (fun _=>rfl) fun kI=>(iu rfl (by(repeat' (first | exact trivial | refine And.intro rfl ?_))))) (iu rfl (by(repeat' (first | exact trivial | refine And.intro rfl ?_)))) fun j43=>(aL (fun kJ=>[some (.v (.d (eY az))),some (.v (.d (D.str kJ))),none,none,none,some (.v (.d (D.str iH))),some (.v (.d (D.int k39.1))),some (.v (.d (eY k39.2)))]) (bY (cC (sv (aj (a:=j43) (e:=D.str) rfl)) (sv (cq (R':=R) (post:=(pD D.str _ _)) (af (sv (aj (a:=k39.2) (e:=eY) rfl)) ai) (.d .nil) rfl (srec (az:=k39.2)) (fun _=>rfl))) fun a47=>bQ)) (fun _=>rfl) fun kJ=>(qk rfl (by(repeat' (first | exact trivial | refine And.intro rfl ?_)))))))) fun r49=>(aV (fm (φ:=fun v50=>v50) (au (sv (aj (a:=r49) (e:=D.str) rfl)) (sv (cD D.str ((sS ")")))) bQ) fun _=>rfl))))))) (fun b10=>(aL (fun iI=>[some (.v (.d (eY az))),some (.v (.d (D.str iI))),none,none,none,none,none,none]) (bY (bV (sv (j7 (au (sv (aj (a:=az) (e:=eY) rfl)) (sv (cD D.int (1:Int))) dB) ir jF)) (fun a51=>(sv (cD D.str (sS ":")))) fun a51=>bQ)) (fun _=>rfl) fun iI=>(gu (b:=fun v=>v) (tB (b:=fun v=>v) (sv (bV (sv (j7 (au (sv (aj (a:=az) (e:=eY) rfl)) (sv (cD D.int (0:Int))) dB) ir jF)) (fun a53=>(sv (cD D.str (sS "word")))) fun a53=>(cW aT aT qS (by decide))))) (fun b54=>(aV (fm (φ:=fun v56=>v56) (cC (sv (aj (a:=iI) (e:=D.str) rfl)) (sv (j7 (au (sv (aj (a:=az) (e:=eY) rfl)) (sv (cD D.int (2:Int))) dB) ir jF)) fun a55=>bQ) fun _=>rfl))) (fun b54=>(gu (b:=fun v=>v) (tB (b:=fun v=>v) (sv (bV (sv (j7 (au (sv (aj (a:=az) (e:=eY) rfl)) (sv (cD D.int (0:Int))) dB) ir jF)) (fun a57=>(sv (cD D.str (sS "like")))) fun a57=>(cW aT aT qS (by decide))))) (fun b58=>(aV (fm (φ:=fun v68=>v68) (iM (sv (cC (sv (aj (a:=iI) (e:=D.str) rfl)) (sv (cC (sv (cD D.str (sS "~"))) (sv (oa (aF (sv (AA (sv (cC (sv (cD D.str (sS "?"))) (sv (j7 (au (sv (aj (a:=az) (e:=eY) rfl)) (sv (cD D.int (2:Int))) dB) ir jF)) fun a59=>Cj)) (Ci (sv (cC (sv (cD D.str (sS "*"))) (sv (j7 (au (sv (aj (a:=az) (e:=eY) rfl)) (sv (cD D.int (2:Int))) dB) ir jF)) fun a60=>Cj))))) fun a61=>ai) fun z63=>xj)) fun a64=>An)) fun a65=>bQ)) (fun a66=>(sv (j7 (au (sv (aj (a:=az) (e:=eY) rfl)) (sv (cD D.int (2:Int))) dB) ir jF))) fun a66 a67=>bQ) fun _=>rfl))) (fun b58=>(eB [some (.v (.d (eY az))),some (.v (.d (D.str iI))),some (.v (.d (D.str (sS "")))),none,none,none,none,none] (bY (cD D.str (sS ""))) rfl (qh (Am (P:=fun(c70:List Nat)=>[some (.v (.d (eY az))),some (.v (.d (D.str iI))),some (.v (.d (D.str c70))),none,none,none,none,none]) (S:=fun(c70:List Nat)=>σ) (lA:=(fun(a69:List D)=>a69)) (c0:=fun(a69:List D)=>(sS "")) (mb:=(fun(c70:List Nat) (px:D)=>((aY c70 (sS " ")).bind fun a72=>((M.ok px).bind ig).bind fun a73=>aY a72 a73).bind fun oH=>M.ok oH)) (Fq (sv (j7 (au (sv (aj (a:=az) (e:=eY) rfl)) (sv (NZ (sv (cD D.int (1:Int))))) dB) (Ds Df) (F3 FF)))) (fun _=>by(repeat' (first | exact trivial | refine And.intro rfl ?_))) (fun _=>rfl) (fun c70 px=>jD) (fun c70 px=>(aL (fun oH=>[some (.v (.d (eY az))),some (.v (.d (D.str iI))),some (.v (.d (D.str oH))),some (.v (.d (eY px))),none,none,none,none]) (bY (iM (sv (au (sv (aj (a:=c70) (e:=D.str) rfl)) (sv (cD D.str (sS " "))) bQ)) (fun a72=>(sv (j7 (aj (a:=px) (e:=eY) rfl) ir jF))) fun a72 a73=>bQ)) (fun _=>rfl) fun oH=>(qk rfl (by(repeat' (first | exact trivial | refine And.intro rfl ?_))))))) fun r75=>(gu (b:=fun v=>v) (tB (b:=fun v=>v) (sv (bV (sv (j7 (au (sv (aj (a:=az) (e:=eY) rfl)) (sv (cD D.int (0:Int))) dB) ir jF)) (fun a76=>(sv (cD D.str (sS "row")))) fun a76=>(cW aT aT qS (by decide))))) (fun b77=>(aV (fm (φ:=fun v81=>v81) (bV (sv (iM (sv (au (sv (aj (a:=iI) (e:=D.str) rfl)) (sv (cD D.str (sS "\""))) bQ)) (fun a78=>(sv (bL (sv (aj (a:=r75) (e:=D.str) rfl)) (pe (sv (cD D.int (1:Int)))) pn cn))) fun a78 a79=>bQ)) (fun a80=>(sv (cD D.str (sS "\"")))) fun a80=>bQ) fun _=>rfl))) (fun b77=>(aL (fun pz=>[some (.v (.d (eY az))),some (.v (.d (D.str iI))),some (.v (.d (D.str r75))),none,some (.v (.d (D.str pz))),none,none,none]) (bY (cC (sn (Ev.b6 (post2:=(pN (oL D.str) _ _)) (bH (l:=fun _=>([(sS "[]"),(sS "<>")]:List (List Nat))) (e:=D.str) (af (sv (cD D.str (sS "[]"))) (af (sv (cD D.str (sS "<>"))) ai)) (fun _=>(.d (.d .nil))) (fun _=>rfl) (fun _=>rfl)) rfl) (fun v=>bS _ v)) (sv (oa (aF (sv (bV (sv (j7 (au (sv (aj (a:=az) (e:=eY) rfl)) (sv (cD D.int (0:Int))) dB) ir jF)) (fun a82=>(sv (cD D.str (sS "near")))) fun a82=>(cW aT aT qS (by decide)))) fun a83=>ai) fun z85=>xj)) fun a86=>(gE ck))) (fun _=>rfl) fun pz=>(aV (fm (φ:=fun v98=>v98) (iM (sv (iM (sv (iM (sv (cC (sv (aj (a:=iI) (e:=D.str) rfl)) (sv (oa (aF (sv (j7 (au (sv (aj (a:=az) (e:=eY) rfl)) (sv (cD D.int (2:Int))) dB) Mf Nq)) fun a88=>ai) fun z90=>C1)) fun a91=>bQ)) (fun a92=>(sv (au (sv (aj (a:=pz) (e:=D.str) rfl)) (sv (cD D.int (0:Int))) nH))) fun a92 a93=>bQ)) (fun a94=>(sv (bL (sv (aj (a:=r75) (e:=D.str) rfl)) (pe (sv (cD D.int (1:Int)))) pn cn))) fun a94 a95=>bQ)) (fun a96=>(sv (au (sv (aj (a:=pz) (e:=D.str) rfl)) (sv (cD D.int (1:Int))) nH))) fun a96 a97=>bQ) fun _=>rfl)))))))))))))))))
def iX(aC:List Nat)(cG:List Nat):M Int:=(lq (fun(c1:Int)=>andM ((i9 aC).bind fun a2=>M.ok (decide (c1<a2))) ((fx aC c1).bind fun a3=>M.ok (subIn a3 cG))) (fun(c1:Int)=>M.ok (c1+(1:Int))) dj (0:Int)).bind fun r4=>M.ok (r4)
theorem rk{R:List Ob→Prop}{σ:List Ob}{aC:List Nat}{cG:List Nat}:fQ R iq [.d (D.str aC),.d (D.str cG)] σ (iX aC cG) (fun v=>(.val (.d (D.int v)),σ)):=(gq (eB [some (.v (.d (D.str aC))),some (.v (.d (D.str cG))),some (.v (.d (D.int (0:Int))))] (bY (cD D.int (0:Int))) rfl (qh (C3 (P:=fun(c1:Int)=>[some (.v (.d (D.str aC))),some (.v (.d (D.str cG))),some (.v (.d (D.int c1)))]) (S:=fun(c1:Int)=>σ) (c0:=(0:Int)) (mt:=(fun(c1:Int)=>andM ((i9 aC).bind fun a2=>M.ok (decide (c1<a2))) ((fx aC c1).bind fun a3=>M.ok (subIn a3 cG)))) (mb:=(fun(c1:Int)=>M.ok (c1+(1:Int)))) (by(repeat' (first | exact trivial | refine And.intro rfl ?_))) rfl (fun c1=>(om (tB (b:=fun v=>v) (sv (cC (sv (aj (a:=c1) (e:=D.int) rfl)) (sv (eC (af (sv (aj (a:=aC) (e:=D.str) rfl)) ai) ox)) fun a2=>wF))) (lZ (tB (b:=fun v=>v) (sv (bV (sv (au (sv (aj (a:=aC) (e:=D.str) rfl)) (sv (aj (a:=c1) (e:=D.int) rfl)) nH)) (fun a3=>(sv (aj (a:=cG) (e:=D.str) rfl))) fun a3=>yY)))))) (fun c1=>(eB [some (.v (.d (D.str aC))),some (.v (.d (D.str cG))),some (.v (.d (D.int (c1+(1:Int)))))] (bY (au (sv (aj (a:=c1) (e:=D.int) rfl)) (sv (cD D.int (1:Int))) di)) rfl (qk rfl (by(repeat' (first | exact trivial | refine And.intro rfl ?_))))))) fun r4=>(aV (il (aj (a:=r4) (e:=D.int) rfl) rfl)))))
def iS(aC:List Nat)(end_:List Nat):M D:=(tL (fun(c1:List Nat×(List (List Nat)))=>M.ok true) (fun(c1:List Nat×(List (List Nat)))=>(((nox (iX c1.1 (sS "abcdefghijklmnopqrstuvwxyz0123456789"))).bind fun b9=>(orM (M.ok (eqB b9 (0:Int))) (orM (M.ok (decide ((40:Int)<b9))) ((i9 c1.1).bind fun a3=>M.ok (eqB b9 a3)))).bind fun b4=>if b4=true then(M.ok (Lp.ret (eN ())))else((((bc c1.1 (none:Option Int) (some b9)).bind fun a5=>(M.ok ()).bind fun w6=>M.ok (a5,w6)).bind fun z7=>iN c1.2 z7.1).bind fun gK=>((fx c1.1 b9).bind fun a9=>M.ok (eqB a9 end_)).bind fun b10=>if b10=true then((if(decide ((6:Int)<(gK.length:Int)))=true then(M.ok (Lp.ret (eN ())))else(((((bc c1.1 (some (b9+(1:Int))) (none:Option Int)).bind fun v=>M.ok (D.str v)).bind fun a11=>(M.ok ()).bind fun w12=>M.ok (a11,w12)).bind fun z13=>M.ok (D.tup [((eL D.str) gK),z13.1])).bind fun v14=>M.ok (Lp.ret v14))))else(((fx c1.1 b9).bind fun a15=>M.ok (!(eqB a15 (sS " ")))).bind fun b16=>if b16=true then(M.ok (Lp.ret (eN ())))else((bc c1.1 (some (b9+(1:Int))) (none:Option Int)).bind fun nD=>M.ok (.go (nD,gK)))))):M (Lp (List Nat×(List (List Nat))) D))) dj (aC,([]:List (List Nat)))).bind (wI (fun r18=>.bad) (fun q=>q))
theorem sO{R:List Ob→Prop}{σ:List Ob}{aC:List Nat}{end_:List Nat}:fQ R hV [.d (D.str aC),.d (D.str end_)] σ (iS aC end_) (fun v=>(.val (.d (eY v)),σ)):=(gq (eB [some (.v (.d (D.str aC))),some (.v (.d (D.str end_))),some (.own ((oL D.str) ([]:List (List Nat)))),none] (nV (Ev.b6 (post2:=(pN (oL D.str) _ _)) (bH (l:=fun _=>([]:List (List Nat))) (e:=D.str) ai (fun _=>.nil) (fun _=>rfl) (fun _=>rfl)) rfl)) rfl (Gu (P:=fun(c1:List Nat×(List (List Nat)))=>[some (.v (.d (D.str c1.1))),some (.v (.d (D.str end_))),some (.own ((oL D.str) c1.2)),none]) (S:=fun(c1:List Nat×(List (List Nat)))=>σ) (rv:=fun q=>.val (.d (eY q))) (Sr:=fun q=>σ) (ι:=(fun q=>q)) (c0:=(aC,([]:List (List Nat)))) (mt:=(fun(c1:List Nat×(List (List Nat)))=>M.ok true)) (mb:=(fun(c1:List Nat×(List (List Nat)))=>(((nox (iX c1.1 (sS "abcdefghijklmnopqrstuvwxyz0123456789"))).bind fun b9=>(orM (M.ok (eqB b9 (0:Int))) (orM (M.ok (decide ((40:Int)<b9))) ((i9 c1.1).bind fun a3=>M.ok (eqB b9 a3)))).bind fun b4=>if b4=true then(M.ok (Lp.ret (eN ())))else((((bc c1.1 (none:Option Int) (some b9)).bind fun a5=>(M.ok ()).bind fun w6=>M.ok (a5,w6)).bind fun z7=>iN c1.2 z7.1).bind fun gK=>((fx c1.1 b9).bind fun a9=>M.ok (eqB a9 end_)).bind fun b10=>if b10=true then((if(decide ((6:Int)<(gK.length:Int)))=true then(M.ok (Lp.ret (eN ())))else(((((bc c1.1 (some (b9+(1:Int))) (none:Option Int)).bind fun v=>M.ok (D.str v)).bind fun a11=>(M.ok ()).bind fun w12=>M.ok (a11,w12)).bind fun z13=>M.ok (D.tup [((eL D.str) gK),z13.1])).bind fun v14=>M.ok (Lp.ret v14))))else(((fx c1.1 b9).bind fun a15=>M.ok (!(eqB a15 (sS " ")))).bind fun b16=>if b16=true then(M.ok (Lp.ret (eN ())))else((bc c1.1 (some (b9+(1:Int))) (none:Option Int)).bind fun nD=>M.ok (.go (nD,gK)))))):M (Lp (List Nat×(List (List Nat))) D)))) (by(repeat' (first | exact trivial | refine And.intro rfl ?_))) rfl (fun c1=>(dU (sv (cD D.bl true)))) (fun c1=>(aL (fun b9=>[some (.v (.d (D.str c1.1))),some (.v (.d (D.str end_))),some (.own ((oL D.str) c1.2)),some (.v (.d (D.int b9)))]) (bY (cq (R':=R) (post:=(pD D.int _ _)) (af (sv (aj (a:=c1.1) (e:=D.str) rfl)) (af (sv (cD D.str (sS "abcdefghijklmnopqrstuvwxyz0123456789"))) ai)) (.d (.d .nil)) rfl (rk (aC:=c1.1) (cG:=(sS "abcdefghijklmnopqrstuvwxyz0123456789"))) (fun _=>rfl))) (fun _=>rfl) fun b9=>(gu (b:=fun v=>v) (nQ (dU (sv (au (sv (aj (a:=b9) (e:=D.int) rfl)) (sv (cD D.int (0:Int))) (cW aT aT qI (by decide))))) (nQ (dU (sv (au (sv (aj (a:=b9) (e:=D.int) rfl)) (sv (cD D.int (40:Int))) rR))) (kM (tB (b:=fun v=>v) (sv (cC (sv (aj (a:=b9) (e:=D.int) rfl)) (sv (eC (af (sv (aj (a:=c1.1) (e:=D.str) rfl)) ai) ox)) fun a3=>(cW aT aT qI (by decide)))))))) (fun b4=>(aV (il (toY (cD eN ())) rfl))) (fun b4=>(aL (fun gK=>[some (.v (.d (D.str c1.1))),some (.v (.d (D.str end_))),some (.own ((oL D.str) gK)),some (.v (.d (D.int b9)))]) (je (xO (jd (jc (a:=c1.2) rfl)) (fun _ hf=>wM (mj rfl) hf) (aF (sv (bL (sv (aj (a:=c1.1) (e:=D.str) rfl)) pn (pe (sv (aj (a:=b9) (e:=D.int) rfl))) cn)) fun a5=>ai) fun z7=>(uA rfl))) (fun _=>rfl) fun gK=>(gu (b:=fun v=>v) (tB (b:=fun v=>v) (sv (bV (sv (au (sv (aj (a:=c1.1) (e:=D.str) rfl)) (sv (aj (a:=b9) (e:=D.int) rfl)) nH)) (fun a9=>(sv (aj (a:=end_) (e:=D.str) rfl))) fun a9=>(cW aT aT qS (by decide))))) (fun b10=>(gj (dU (sv (au (sv (eC (af (jd (jc (a:=gK) rfl)) ai) (oh (mj rfl)))) (sv (cD D.int (6:Int))) rR))) (aV (il (toY (cD eN ())) rfl)) (aV (fm (φ:=fun v14=>Lp.ret v14) (Ev.map (fun(z13:D×Unit)=>(D.tup [((eL D.str) gK),z13.1])) (pD eY _ _) (bI (af (jd (jc (a:=gK) rfl)) (aF (sv (toY (bL (sv (aj (a:=c1.1) (e:=D.str) rfl)) (pe (sv (au (sv (aj (a:=b9) (e:=D.int) rfl)) (sv (cD D.int (1:Int))) di))) pn cn))) fun a11=>ai)) (fun _=>(.o rfl (bS _ _) (.d .nil))) (fun _=>rfl) (fun _=>rfl)) fun _=>rfl) fun _=>rfl)))) (fun b10=>(gu (b:=fun v=>v) (tB (b:=fun v=>v) (sv (bV (sv (au (sv (aj (a:=c1.1) (e:=D.str) rfl)) (sv (aj (a:=b9) (e:=D.int) rfl)) nH)) (fun a15=>(sv (cD D.str (sS " ")))) fun a15=>(DD aT aT qS (by decide))))) (fun b16=>(aV (il (toY (cD eN ())) rfl))) (fun b16=>(aL (fun nD=>[some (.v (.d (D.str nD))),some (.v (.d (D.str end_))),some (.own ((oL D.str) gK)),some (.v (.d (D.int b9)))]) (bY (bL (sv (aj (a:=c1.1) (e:=D.str) rfl)) (pe (sv (au (sv (aj (a:=b9) (e:=D.int) rfl)) (sv (cD D.int (1:Int))) di))) pn cn)) (fun _=>rfl) fun nD=>(qk rfl (by(repeat' (first | exact trivial | refine And.intro rfl ?_)))))))))))))) (fun _=>rfl) fun r18=>(fun _ _=>trivial))))
def lM(bh:List Nat)(aC:List Nat):M D:=((bc aC (none:Option Int) (some (1:Int))).bind fun a1=>M.ok (eqB a1 (sS "\""))).bind fun b2=>if b2=true then((((bc aC (some (1:Int)) (none:Option Int)).bind fun a3=>(M.ok ()).bind fun w4=>M.ok (a3,w4)).bind fun z5=>nox (iS z5.1 (sS "\""))).bind fun gA=>(if(jh gA)=true then(M.ok ((eN ())))else((((((bP gA (0:Int)).bind fun a7=>(M.ok ()).bind fun w8=>M.ok (a7,w8)).bind fun z9=>M.ok (D.tup [(D.str (sS "row")),(D.str bh),z9.1])).bind fun a10=>((bP gA (1:Int)).bind fun a11=>(M.ok ()).bind fun w12=>M.ok (a11,w12)).bind fun w13=>M.ok (a10,w13)).bind fun z14=>M.ok (D.tup [z14.1,z14.2.1])).bind fun v15=>M.ok (v15))))else(((((bc aC (none:Option Int) (some (1:Int))).bind fun a16=>M.ok (eqB a16 (sS "~"))).bind fun a17=>(M.ok ()).bind fun w18=>M.ok (a17,w18)).bind fun z19=>M.ok (if z19.1=true then(1:Int)else 0)).bind fun cL=>(((bc aC (some cL) (none:Option Int)).bind fun a21=>(M.ok ()).bind fun w22=>M.ok (a21,w22)).bind fun z23=>nox (iX z23.1 (sS "abcdefghijklmnopqrstuvwxyz0123456789?*"))).bind fun gL=>(bc aC (some cL) (some (cL+gL))).bind fun b0=>(bc aC (some (cL+gL)) (none:Option Int)).bind fun gc=>(if((eqB gL (0:Int))||(decide ((40:Int)<gL)))=true then(M.ok ((eN ())))else((andM ((bc gc (none:Option Int) (some (1:Int))).bind fun a27=>M.ok (dc a27 ([(sS "<"),(sS "[")]))) (M.ok (eqB cL (0:Int)))).bind fun b28=>if b28=true then((((bc gc (some (1:Int)) (none:Option Int)).bind fun a29=>(((fx gc (0:Int)).bind fun a30=>i8 ([(sS "<",sS ">"),(sS "[",sS "]")]:List (List Nat×List Nat)) a30).bind fun a31=>(M.ok ()).bind fun w32=>M.ok (a31,w32)).bind fun w33=>M.ok (a29,w33)).bind fun z34=>nox (iS z34.1 z34.2.1)).bind fun iU=>(orM (M.ok (jh iU)) (((j3 (1:Int) (21:Int)).bind fun l37=>kr (fun(k36:Int)=>M.ok true) (fun(k36:Int)=>p9 k36) l37).bind fun a38=>M.ok (!dc b0 a38))).bind fun b39=>if b39=true then(M.ok ((eN ())))else(((((((((((fx gc (0:Int)).bind fun a40=>M.ok (eqB a40 (sS "<"))).bind fun a41=>(M.ok ()).bind fun w42=>M.ok (a41,w42)).bind fun z43=>M.ok (if z43.1=true then(1:Int)else 0)).bind fun a44=>cT [(sS "chain"),(sS "near")] a44).bind fun v=>M.ok (D.str v)).bind fun a45=>(((uf b0).bind fun v=>M.ok (D.int v)).bind fun a46=>((bP iU (0:Int)).bind fun a47=>(M.ok ()).bind fun w48=>M.ok (a47,w48)).bind fun w49=>M.ok (a46,w49)).bind fun w50=>M.ok (a45,w50)).bind fun z51=>M.ok (D.tup [z51.1,(D.str bh),z51.2.1,z51.2.2.1])).bind fun a52=>((bP iU (1:Int)).bind fun a53=>(M.ok ()).bind fun w54=>M.ok (a53,w54)).bind fun w55=>M.ok (a52,w55)).bind fun z56=>M.ok (D.tup [z56.1,z56.2.1])).bind fun v57=>M.ok (v57)))else((if((eqB cL (1:Int))&&((subIn (sS "?") b0)||(subIn (sS "*") b0)))=true then(M.ok ((eN ())))else((if((eqB cL (1:Int))||((subIn (sS "?") b0)||(subIn (sS "*") b0)))=true then(M.ok ((D.tup [(D.tup [(D.str (sS "like")),(D.str bh),(D.str b0)]),(D.str gc)])))else(M.ok ((D.tup [(D.tup [(D.str (sS "word")),(D.str bh),(D.str b0)]),(D.str gc)]))))))))))
theorem BQ{R:List Ob→Prop}{σ:List Ob}{bh:List Nat}{aC:List Nat}:fQ R ke [.d (D.str bh),.d (D.str aC)] σ (lM bh aC) (fun v=>(.val (.d (eY v)),σ)):=(gq (gu (b:=fun v=>v) (tB (b:=fun v=>v) (sv (bV (sv (bL (sv (aj (a:=aC) (e:=D.str) rfl)) pn (pe (sv (cD D.int (1:Int)))) cn)) (fun a1=>(sv (cD D.str (sS "\"")))) fun a1=>(cW aT aT qS (by decide))))) (fun b2=>(aL (fun gA=>[some (.v (.d (D.str bh))),some (.v (.d (D.str aC))),none,none,none,none,some (.v (.d (eY gA))),none]) (bY (hG (R':=R) (post:=(pD eY _ _)) (aF (sv (bL (sv (aj (a:=aC) (e:=D.str) rfl)) (pe (sv (cD D.int (1:Int)))) pn cn)) fun a3=>(af (sv (cD D.str (sS "\""))) ai)) (fun _=>(.d (.d .nil))) (fun _=>rfl) (fun z5=>(sO (aC:=z5.1) (end_:=(sS "\"")))) (fun _ _=>rfl))) (fun _=>rfl) fun gA=>(gj (dU (sv (au (sv (aj (a:=gA) (e:=eY) rfl)) (sv (cD eN ())) rZ))) (aV (il (toY (cD eN ())) rfl)) (aV (fm (φ:=fun v15=>v15) (Ev.map (fun(z14:D×(D×Unit))=>(D.tup [z14.1,z14.2.1])) (pD eY _ _) (bI (aF (sv (Ev.map (fun(z9:D×Unit)=>(D.tup [(D.str (sS "row")),(D.str bh),z9.1])) (pD eY _ _) (bI (af (sv (toY (cD D.str (sS "row")))) (af (sv (toY (aj (a:=bh) (e:=D.str) rfl))) (aF (sv (au (sv (aj (a:=gA) (e:=eY) rfl)) (sv (cD D.int (0:Int))) dB)) fun a7=>ai))) (fun _=>(.d (.d (.d .nil)))) (fun _=>rfl) (fun _=>rfl)) fun _=>rfl)) fun a10=>(aF (sv (au (sv (aj (a:=gA) (e:=eY) rfl)) (sv (cD D.int (1:Int))) dB)) fun a11=>ai)) (fun _=>(.d (.d .nil))) (fun _=>rfl) (fun _=>rfl)) fun _=>rfl) fun _=>rfl))))) (fun b2=>(aL (fun cL=>[some (.v (.d (D.str bh))),some (.v (.d (D.str aC))),some (.v (.d (D.int cL))),none,none,none,none,none]) (bY (oa (aF (sv (bV (sv (bL (sv (aj (a:=aC) (e:=D.str) rfl)) pn (pe (sv (cD D.int (1:Int)))) cn)) (fun a16=>(sv (cD D.str (sS "~")))) fun a16=>(cW aT aT qS (by decide)))) fun a17=>ai) fun z19=>xj)) (fun _=>rfl) fun cL=>(aL (fun gL=>[some (.v (.d (D.str bh))),some (.v (.d (D.str aC))),some (.v (.d (D.int cL))),some (.v (.d (D.int gL))),none,none,none,none]) (bY (hG (R':=R) (post:=(pD D.int _ _)) (aF (sv (bL (sv (aj (a:=aC) (e:=D.str) rfl)) (pe (sv (aj (a:=cL) (e:=D.int) rfl))) pn cn)) fun a21=>(af (sv (cD D.str (sS "abcdefghijklmnopqrstuvwxyz0123456789?*"))) ai)) (fun _=>(.d (.d .nil))) (fun _=>rfl) (fun z23=>(rk (aC:=z23.1) (cG:=(sS "abcdefghijklmnopqrstuvwxyz0123456789?*")))) (fun _ _=>rfl))) (fun _=>rfl) fun gL=>(aL (fun b0=>[some (.v (.d (D.str bh))),some (.v (.d (D.str aC))),some (.v (.d (D.int cL))),some (.v (.d (D.int gL))),some (.v (.d (D.str b0))),none,none,none]) (bY (bL (sv (aj (a:=aC) (e:=D.str) rfl)) (pe (sv (aj (a:=cL) (e:=D.int) rfl))) (pe (sv (au (sv (aj (a:=cL) (e:=D.int) rfl)) (sv (aj (a:=gL) (e:=D.int) rfl)) di))) cn)) (fun _=>rfl) fun b0=>(aL (fun gc=>[some (.v (.d (D.str bh))),some (.v (.d (D.str gc))),some (.v (.d (D.int cL))),some (.v (.d (D.int gL))),some (.v (.d (D.str b0))),none,none,none]) (bY (bL (sv (aj (a:=aC) (e:=D.str) rfl)) (pe (sv (au (sv (aj (a:=cL) (e:=D.int) rfl)) (sv (aj (a:=gL) (e:=D.int) rfl)) di))) pn cn)) (fun _=>rfl) fun gc=>(gj (DH (dU (sv (au (sv (aj (a:=gL) (e:=D.int) rfl)) (sv (cD D.int (0:Int))) (cW aT aT qI (by decide))))) (kM (dU (sv (au (sv (aj (a:=gL) (e:=D.int) rfl)) (sv (cD D.int (40:Int))) rR))))) (aV (il (toY (cD eN ())) rfl)) (eB [some (.v (.d (D.str bh))),some (.v (.d (D.str gc))),some (.v (.d (D.int cL))),some (.v (.d (D.int gL))),some (.v (.d (D.str b0))),some (.v (.d (D.bl ((subIn (sS "?") b0)||(subIn (sS "*") b0))))),none,none] (bY (Mo (sv (au (sv (cD D.str (sS "?"))) (sv (aj (a:=b0) (e:=D.str) rfl)) yY)) (Kf (sv (au (sv (cD D.str (sS "*"))) (sv (aj (a:=b0) (e:=D.str) rfl)) yY))))) rfl (gu (b:=fun v=>v) (om (tB (b:=fun v=>v) (sv (bV (sv (bL (sv (aj (a:=gc) (e:=D.str) rfl)) pn (pe (sv (cD D.int (1:Int)))) cn)) (fun a27=>(sn (Ev.b6 (post2:=(pN (oL D.str) _ _)) (bH (l:=fun _=>([(sS "<"),(sS "[")]:List (List Nat))) (e:=D.str) (af (sv (cD D.str (sS "<"))) (af (sv (cD D.str (sS "["))) ai)) (fun _=>(.d (.d .nil))) (fun _=>rfl) (fun _=>rfl)) rfl) (fun v=>bS _ v))) fun a27=>(Bz aT ck qS (by decide))))) (lZ (dU (sv (au (sv (aj (a:=cL) (e:=D.int) rfl)) (sv (cD D.int (0:Int))) (cW aT aT qI (by decide))))))) (fun b28=>(aL (fun iU=>[some (.v (.d (D.str bh))),some (.v (.d (D.str gc))),some (.v (.d (D.int cL))),some (.v (.d (D.int gL))),some (.v (.d (D.str b0))),some (.v (.d (D.bl ((subIn (sS "?") b0)||(subIn (sS "*") b0))))),some (.v (.d (eY iU))),none]) (bY (hG (R':=R) (post:=(pD eY _ _)) (aF (sv (bL (sv (aj (a:=gc) (e:=D.str) rfl)) (pe (sv (cD D.int (1:Int)))) pn cn)) fun a29=>(aF (sv (cC (sn (tW (l:=([(sS "<",sS ">"),(sS "[",sS "]")]:List (List Nat×List Nat))) (by decide)) (fun v=>Ag _ v)) (sv (au (sv (aj (a:=gc) (e:=D.str) rfl)) (sv (cD D.int (0:Int))) nH)) fun a30=>(rB Aq))) fun a31=>ai)) (fun _=>(.d (.d .nil))) (fun _=>rfl) (fun z34=>(sO (aC:=z34.1) (end_:=z34.2.1))) (fun _ _=>rfl))) (fun _=>rfl) fun iU=>(gu (b:=fun v=>v) (nQ (dU (sv (au (sv (aj (a:=iU) (e:=eY) rfl)) (sv (cD eN ())) rZ))) (kM (tB (b:=fun v=>v) (sv (cC (sv (aj (a:=b0) (e:=D.str) rfl)) (sn (Ap (q:=[some (.v (.d (D.str bh))),some (.v (.d (D.str gc))),some (.v (.d (D.int cL))),some (.v (.d (D.int gL))),some (.v (.d (D.str b0))),some (.v (.d (D.bl ((subIn (sS "?") b0)||(subIn (sS "*") b0))))),some (.v (.d (eY iU))),none]) (p2:=fun(k36:Int)=>[some (.v (.d (D.str bh))),some (.v (.d (D.str gc))),some (.v (.d (D.int cL))),some (.v (.d (D.int gL))),some (.v (.d (D.str b0))),some (.v (.d (D.bl ((subIn (sS "?") b0)||(subIn (sS "*") b0))))),some (.v (.d (eY iU))),some (.v (.d (D.int k36)))]) (p3:=fun(k36:Int)=>[some (.v (.d (D.str bh))),some (.v (.d (D.str gc))),some (.v (.d (D.int cL))),some (.v (.d (D.int gL))),some (.v (.d (D.str b0))),some (.v (.d (D.bl ((subIn (sS "?") b0)||(subIn (sS "*") b0))))),some (.v (.d (eY iU))),some (.v (.d (D.int k36)))]) (mt:=(fun(k36:Int)=>M.ok true)) (me:=(fun(k36:Int)=>p9 k36)) (e:=D.str) (BP (af (sv (cD D.int (1:Int))) (af (sv (cD D.int (21:Int))) ai)) Jb) rfl (fun(k36:Int)=>⟨jD,kH,(qi (eC (af (sv (aj (a:=k36) (e:=D.int) rfl)) ai) C1))⟩) (fun _=>by(repeat' (first | exact trivial | refine And.intro rfl ?_))) (fun _=>by(repeat' (first | exact trivial | refine And.intro rfl ?_)))) (fun v=>bS _ v)) fun a38=>(yU aT ck qS (by decide))))))) (fun b39=>(aV (il (toY (cD eN ())) rfl))) (fun b39=>(aV (fm (φ:=fun v57=>v57) (Ev.map (fun(z56:D×(D×Unit))=>(D.tup [z56.1,z56.2.1])) (pD eY _ _) (bI (aF (sv (Ev.map (fun(z51:D×(D×(D×Unit)))=>(D.tup [z51.1,(D.str bh),z51.2.1,z51.2.2.1])) (pD eY _ _) (bI (aF (sv (toY (cC (sn (Ev.b6 (post2:=(pN (oL D.str) _ _)) (bH (l:=fun _=>([(sS "chain"),(sS "near")]:List (List Nat))) (e:=D.str) (af (sv (cD D.str (sS "chain"))) (af (sv (cD D.str (sS "near"))) ai)) (fun _=>(.d (.d .nil))) (fun _=>rfl) (fun _=>rfl)) rfl) (fun v=>bS _ v)) (sv (oa (aF (sv (bV (sv (au (sv (aj (a:=gc) (e:=D.str) rfl)) (sv (cD D.int (0:Int))) nH)) (fun a40=>(sv (cD D.str (sS "<")))) fun a40=>(cW aT aT qS (by decide)))) fun a41=>ai) fun z43=>xj)) fun a44=>(gE ck)))) fun a45=>(af (sv (toY (aj (a:=bh) (e:=D.str) rfl))) (aF (sv (toY (eC (af (sv (aj (a:=b0) (e:=D.str) rfl)) ai) Dz))) fun a46=>(aF (sv (au (sv (aj (a:=iU) (e:=eY) rfl)) (sv (cD D.int (0:Int))) dB)) fun a47=>ai)))) (fun _=>(.d (.d (.d (.d .nil))))) (fun _=>rfl) (fun _=>rfl)) fun _=>rfl)) fun a52=>(aF (sv (au (sv (aj (a:=iU) (e:=eY) rfl)) (sv (cD D.int (1:Int))) dB)) fun a53=>ai)) (fun _=>(.d (.d .nil))) (fun _=>rfl) (fun _=>rfl)) fun _=>rfl) fun _=>rfl)))))) (fun b28=>(gj (JR (dU (sv (au (sv (aj (a:=cL) (e:=D.int) rfl)) (sv (cD D.int (1:Int))) (cW aT aT qI (by decide))))) (lZ (dU (sv (aj (a:=((subIn (sS "?") b0)||(subIn (sS "*") b0))) (e:=D.bl) rfl))))) (aV (il (toY (cD eN ())) rfl)) (gj (DH (dU (sv (au (sv (aj (a:=cL) (e:=D.int) rfl)) (sv (cD D.int (1:Int))) (cW aT aT qI (by decide))))) (kM (dU (sv (aj (a:=((subIn (sS "?") b0)||(subIn (sS "*") b0))) (e:=D.bl) rfl))))) (aV (il (Ev.b6 (post2:=(pD eY _ _)) (bI (af (sv (Ev.b6 (post2:=(pD eY _ _)) (bI (af (sv (toY (cD D.str (sS "like")))) (af (sv (toY (aj (a:=bh) (e:=D.str) rfl))) (af (sv (toY (aj (a:=b0) (e:=D.str) rfl))) ai))) (fun _=>(.d (.d (.d .nil)))) (fun _=>rfl) (fun _=>rfl)) rfl)) (af (sv (toY (aj (a:=gc) (e:=D.str) rfl))) ai)) (fun _=>(.d (.d .nil))) (fun _=>rfl) (fun _=>rfl)) rfl) rfl)) (aV (il (Ev.b6 (post2:=(pD eY _ _)) (bI (af (sv (Ev.b6 (post2:=(pD eY _ _)) (bI (af (sv (toY (cD D.str (sS "word")))) (af (sv (toY (aj (a:=bh) (e:=D.str) rfl))) (af (sv (toY (aj (a:=b0) (e:=D.str) rfl))) ai))) (fun _=>(.d (.d (.d .nil)))) (fun _=>rfl) (fun _=>rfl)) rfl)) (af (sv (toY (aj (a:=gc) (e:=D.str) rfl))) ai)) (fun _=>(.d (.d .nil))) (fun _=>rfl) (fun _=>rfl)) rfl) rfl)))))))))))))))
def so(recm:(List Nat)→M D)(aC:List Nat):M D:=(bc aC (none:Option Int) (some (1:Int))).bind fun hQ=>(andM (M.ok (dc hQ [(sS "&"),(sS "|")])) ((bc aC (some (1:Int)) (some (2:Int))).bind fun a2=>M.ok (eqB a2 ((sS ")"))))).bind fun b3=>if b3=true then(((((((i8 ([(sS "&",sS "both"),(sS "|",sS "one")]:List (List Nat×List Nat)) hQ).bind fun v=>M.ok (D.str v)).bind fun a4=>(((M.ok ([]:List D)).bind fun v=>M.ok ((eL eY) v)).bind fun a5=>(M.ok ()).bind fun w6=>M.ok (a5,w6)).bind fun w7=>M.ok (a4,w7)).bind fun z8=>M.ok (D.tup [z8.1,z8.2.1])).bind fun a9=>(((bc aC (some (2:Int)) (none:Option Int)).bind fun v=>M.ok (D.str v)).bind fun a10=>(M.ok ()).bind fun w11=>M.ok (a10,w11)).bind fun w12=>M.ok (a9,w12)).bind fun z13=>M.ok (D.tup [z13.1,z13.2.1])).bind fun v14=>M.ok (v14))else((if(dc hQ [(sS "&"),(sS "|")])=true then(((((bc aC (some (1:Int)) (some (2:Int))).bind fun a15=>M.ok (eqB a15 (sS " "))).bind fun b16=>if b16=true then((((bc aC (some (2:Int)) (none:Option Int)).bind fun a22=>(M.ok ()).bind fun w23=>M.ok (a22,w23)).bind fun z24=>nox (recm z24.1)).bind fun one25=>M.ok one25)else(M.ok (eN ()))):M D).bind fun j21=>(orM (M.ok (jh j21)) ((((bP j21 (1:Int)).bind ig).bind fun a26=>(M.ok ()).bind fun l27=>(M.ok (1:Int)).bind fun h28=>bc a26 (none:Option Int) (some h28)).bind fun a29=>M.ok (!(eqB a29 ((sS ")")))))).bind fun b30=>if b30=true then(M.ok ((eN ())))else(((((((i8 ([(sS "&",sS "both"),(sS "|",sS "one")]:List (List Nat×List Nat)) hQ).bind fun v=>M.ok (D.str v)).bind fun a31=>(((((bP j21 (0:Int)).bind fun a32=>(M.ok ()).bind fun w33=>M.ok (a32,w33)).bind fun z34=>M.ok [z34.1]).bind fun v=>M.ok ((eL eY) v)).bind fun a35=>(M.ok ()).bind fun w36=>M.ok (a35,w36)).bind fun w37=>M.ok (a31,w37)).bind fun z38=>M.ok (D.tup [z38.1,z38.2.1])).bind fun a39=>(((((bP j21 (1:Int)).bind ig).bind fun a40=>(M.ok (1:Int)).bind fun l41=>(M.ok ()).bind fun h42=>bc a40 (some l41) (none:Option Int)).bind fun v=>M.ok (D.str v)).bind fun a43=>(M.ok ()).bind fun w44=>M.ok (a43,w44)).bind fun w45=>M.ok (a39,w45)).bind fun z46=>M.ok (D.tup [z46.1,z46.2.1])).bind fun v47=>M.ok (v47)))else((tL (fun(c48:List Nat×List Nat×List D)=>M.ok true) (fun(c48:List Nat×List Nat×List D)=>(((nox (recm c48.1)).bind fun one49=>(if(jh one49)=true then(M.ok (Lp.ret (eN ())))else((((bP one49 (0:Int)).bind fun a50=>(M.ok ()).bind fun w51=>M.ok (a50,w51)).bind fun z52=>iN c48.2.2 z52.1).bind fun eu=>((bP one49 (1:Int)).bind ig).bind fun cH=>(andM ((bc cH (none:Option Int) (some (1:Int))).bind fun a55=>M.ok (eqB a55 ((sS ")")))) (M.ok (decide ((1:Int)<(eu.length:Int))))).bind fun b56=>if b56=true then(((((((i8 ([(sS "&",sS "both"),(sS "|",sS "one")]:List (List Nat×List Nat)) c48.2.1).bind fun v=>M.ok (D.str v)).bind fun a57=>(M.ok ()).bind fun w58=>M.ok (a57,w58)).bind fun z59=>M.ok (D.tup [z59.1,((eL eY) eu)])).bind fun a60=>(((bc cH (some (1:Int)) (none:Option Int)).bind fun v=>M.ok (D.str v)).bind fun a61=>(M.ok ()).bind fun w62=>M.ok (a61,w62)).bind fun w63=>M.ok (a60,w63)).bind fun z64=>M.ok (D.tup [z64.1,z64.2.1])).bind fun v65=>M.ok (Lp.ret v65))else((orM ((bc cH (none:Option Int) (some (3:Int))).bind fun a66=>M.ok (!dc a66 [(sS " & "),(sS " | ")])) ((((fx cH (1:Int)).bind fun a67=>(M.ok ()).bind fun w68=>M.ok (a67,w68)).bind fun z69=>M.ok [(sS ""),z69.1]).bind fun a70=>M.ok (!dc c48.2.1 a70))).bind fun b71=>if b71=true then(M.ok (Lp.ret (eN ())))else((fx cH (1:Int)).bind fun kg=>(bc cH (some (3:Int)) (none:Option Int)).bind fun kK=>M.ok (.go (kK,kg,eu))))))):M (Lp (List Nat×List Nat×List D) D))) dj (aC,(sS ""),([]:List D))).bind (wI (fun r74=>.bad) (fun q=>q)))))
theorem C9{R:List Ob→Prop}{rec:Fn}{recm:(List Nat)→M D}(srec:∀ {σ:List Ob} {aC:List Nat},fQ R rec [.d (D.str aC)] σ (recm aC) (fun v=>(.val (.d (eY v)),σ))){σ:List Ob}{aC:List Nat}:fQ R (lO rec) [.d (D.str aC)] σ (so recm aC) (fun v=>(.val (.d (eY v)),σ)):=(gq (aL (fun hQ=>[some (.v (.d (D.str aC))),some (.v (.d (D.str hQ))),none,none]) (bY (bL (sv (aj (a:=aC) (e:=D.str) rfl)) pn (pe (sv (cD D.int (1:Int)))) cn)) (fun _=>rfl) fun hQ=>(eB [some (.v (.d (D.str aC))),some (.v (.d (D.str hQ))),some (.own ((oL eY) ([]:List D))),none] (nV (Ev.b6 (post2:=(pN (oL eY) _ _)) (bH (l:=fun _=>([]:List D)) (e:=eY) ai (fun _=>.nil) (fun _=>rfl) (fun _=>rfl)) rfl)) rfl (gu (b:=fun v=>v) (om (dU (sv (au (sv (aj (a:=hQ) (e:=D.str) rfl)) (sn (Ev.b6 (post2:=(pN (oL D.str) _ _)) (bH (l:=fun _=>([(sS "&"),(sS "|")]:List (List Nat))) (e:=D.str) (af (sv (cD D.str (sS "&"))) (af (sv (cD D.str (sS "|"))) ai)) (fun _=>(.d (.d .nil))) (fun _=>rfl) (fun _=>rfl)) rfl) (fun v=>bS _ v)) (Bz aT ck qS (by decide))))) (lZ (tB (b:=fun v=>v) (sv (bV (sv (bL (sv (aj (a:=aC) (e:=D.str) rfl)) (pe (sv (cD D.int (1:Int)))) (pe (sv (cD D.int (2:Int)))) cn)) (fun a2=>(sv (cD D.str ((sS ")"))))) fun a2=>(cW aT aT qS (by decide))))))) (fun b3=>(aV (fm (φ:=fun v14=>v14) (Ev.map (fun(z13:D×(D×Unit))=>(D.tup [z13.1,z13.2.1])) (pD eY _ _) (bI (aF (sv (Ev.map (fun(z8:D×(D×Unit))=>(D.tup [z8.1,z8.2.1])) (pD eY _ _) (bI (aF (sv (toY (au (sn (tW (l:=([(sS "&",sS "both"),(sS "|",sS "one")]:List (List Nat×List Nat))) (by decide)) (fun v=>Ag _ v)) (sv (aj (a:=hQ) (e:=D.str) rfl)) (rB Aq)))) fun a4=>(aF (toY (sn (Ev.b6 (post2:=(pN (oL eY) _ _)) (bH (l:=fun _=>([]:List D)) (e:=eY) ai (fun _=>.nil) (fun _=>rfl) (fun _=>rfl)) rfl) (fun v=>bS _ v))) fun a5=>ai)) (fun _=>(.d (.d .nil))) (fun _=>rfl) (fun _=>rfl)) fun _=>rfl)) fun a9=>(aF (sv (toY (bL (sv (aj (a:=aC) (e:=D.str) rfl)) (pe (sv (cD D.int (2:Int)))) pn cn))) fun a10=>ai)) (fun _=>(.d (.d .nil))) (fun _=>rfl) (fun _=>rfl)) fun _=>rfl) fun _=>rfl))) (fun b3=>(gj (dU (sv (au (sv (aj (a:=hQ) (e:=D.str) rfl)) (sn (Ev.b6 (post2:=(pN (oL D.str) _ _)) (bH (l:=fun _=>([(sS "&"),(sS "|")]:List (List Nat))) (e:=D.str) (af (sv (cD D.str (sS "&"))) (af (sv (cD D.str (sS "|"))) ai)) (fun _=>(.d (.d .nil))) (fun _=>rfl) (fun _=>rfl)) rfl) (fun v=>bS _ v)) (Bz aT ck qS (by decide))))) (eB [some (.v (.d (D.str aC))),some (.v (.d (D.str hQ))),some (.own ((oL eY) ([]:List D))),some (.v (.d (eY (eN ()))))] (bY (toY (cD eN ()))) rfl (uE (b:=fun v=>v) (Pc:=fun(j21:D)=>[some (.v (.d (D.str aC))),some (.v (.d (D.str hQ))),some (.own ((oL eY) ([]:List D))),some (.v (.d (eY j21)))]) (Sc:=fun(j21:D)=>σ) (tB (b:=fun v=>v) (sv (bV (sv (bL (sv (aj (a:=aC) (e:=D.str) rfl)) (pe (sv (cD D.int (1:Int)))) (pe (sv (cD D.int (2:Int)))) cn)) (fun a15=>(sv (cD D.str (sS " ")))) fun a15=>(cW aT aT qS (by decide))))) (fun b16=>(aL (fun one25=>[some (.v (.d (D.str aC))),some (.v (.d (D.str hQ))),some (.own ((oL eY) ([]:List D))),some (.v (.d (eY one25)))]) (bY (hG (R':=R) (post:=(pD eY _ _)) (aF (sv (bL (sv (aj (a:=aC) (e:=D.str) rfl)) (pe (sv (cD D.int (2:Int)))) pn cn)) fun a22=>ai) (fun _=>(.d .nil)) (fun _=>rfl) (fun z24=>(srec (aC:=z24.1))) (fun _ _=>rfl))) (fun _=>rfl) fun one25=>(iu rfl (by(repeat' (first | exact trivial | refine And.intro rfl ?_)))))) (fun b16=>(iu rfl (by(repeat' (first | exact trivial | refine And.intro rfl ?_))))) fun j21=>(gu (b:=fun v=>v) (nQ (dU (sv (au (sv (aj (a:=j21) (e:=eY) rfl)) (sv (cD eN ())) rZ))) (kM (tB (b:=fun v=>v) (sv (bV (sv (Fg (lo':=(fun _=>none)) (hi':=some) (mk:=fun a26 l h=>bc a26 l h) (sv (j7 (au (sv (aj (a:=j21) (e:=eY) rfl)) (sv (cD D.int (1:Int))) dB) ir jF)) (fun _=>pn) (fun _=>(pe (sv (cD D.int (1:Int))))) (fun _ _ _=>cn))) (fun a29=>(sv (cD D.str ((sS ")"))))) fun a29=>(DD aT aT qS (by decide))))))) (fun b30=>(aV (il (toY (cD eN ())) rfl))) (fun b30=>(aV (fm (φ:=fun v47=>v47) (Ev.map (fun(z46:D×(D×Unit))=>(D.tup [z46.1,z46.2.1])) (pD eY _ _) (bI (aF (sv (Ev.map (fun(z38:D×(D×Unit))=>(D.tup [z38.1,z38.2.1])) (pD eY _ _) (bI (aF (sv (toY (au (sn (tW (l:=([(sS "&",sS "both"),(sS "|",sS "one")]:List (List Nat×List Nat))) (by decide)) (fun v=>Ag _ v)) (sv (aj (a:=hQ) (e:=D.str) rfl)) (rB Aq)))) fun a31=>(aF (toY (sn (Ev.map (fun(z34:D×Unit)=>[z34.1]) (pN (oL eY) _ _) (bH (l:=fun z34=>([z34.1]:List D)) (e:=eY) (aF (sv (au (sv (aj (a:=j21) (e:=eY) rfl)) (sv (cD D.int (0:Int))) dB)) fun a32=>ai) (fun _=>(.d .nil)) (fun _=>rfl) (fun _=>rfl)) fun _=>rfl) (fun v=>bS _ v))) fun a35=>ai)) (fun _=>(.d (.d .nil))) (fun _=>rfl) (fun _=>rfl)) fun _=>rfl)) fun a39=>(aF (sv (toY (Fg (lo':=some) (hi':=(fun _=>none)) (mk:=fun a40 l h=>bc a40 l h) (sv (j7 (au (sv (aj (a:=j21) (e:=eY) rfl)) (sv (cD D.int (1:Int))) dB) ir jF)) (fun _=>(pe (sv (cD D.int (1:Int))))) (fun _=>pn) (fun _ _ _=>cn)))) fun a43=>ai)) (fun _=>(.d (.d .nil))) (fun _=>rfl) (fun _=>rfl)) fun _=>rfl) fun _=>rfl)))))) (eB [some (.v (.d (D.str aC))),some (.v (.d (D.str (sS "")))),some (.own ((oL eY) ([]:List D))),none] (bY (cD D.str (sS ""))) rfl (Gu (P:=fun(c48:List Nat×List Nat×List D)=>[some (.v (.d (D.str c48.1))),some (.v (.d (D.str c48.2.1))),some (.own ((oL eY) c48.2.2)),none]) (S:=fun(c48:List Nat×List Nat×List D)=>σ) (rv:=fun q=>.val (.d (eY q))) (Sr:=fun q=>σ) (ι:=(fun q=>q)) (c0:=(aC,(sS ""),([]:List D))) (mt:=(fun(c48:List Nat×List Nat×List D)=>M.ok true)) (mb:=(fun(c48:List Nat×List Nat×List D)=>(((nox (recm c48.1)).bind fun one49=>(if(jh one49)=true then(M.ok (Lp.ret (eN ())))else((((bP one49 (0:Int)).bind fun a50=>(M.ok ()).bind fun w51=>M.ok (a50,w51)).bind fun z52=>iN c48.2.2 z52.1).bind fun eu=>((bP one49 (1:Int)).bind ig).bind fun cH=>(andM ((bc cH (none:Option Int) (some (1:Int))).bind fun a55=>M.ok (eqB a55 ((sS ")")))) (M.ok (decide ((1:Int)<(eu.length:Int))))).bind fun b56=>if b56=true then(((((((i8 ([(sS "&",sS "both"),(sS "|",sS "one")]:List (List Nat×List Nat)) c48.2.1).bind fun v=>M.ok (D.str v)).bind fun a57=>(M.ok ()).bind fun w58=>M.ok (a57,w58)).bind fun z59=>M.ok (D.tup [z59.1,((eL eY) eu)])).bind fun a60=>(((bc cH (some (1:Int)) (none:Option Int)).bind fun v=>M.ok (D.str v)).bind fun a61=>(M.ok ()).bind fun w62=>M.ok (a61,w62)).bind fun w63=>M.ok (a60,w63)).bind fun z64=>M.ok (D.tup [z64.1,z64.2.1])).bind fun v65=>M.ok (Lp.ret v65))else((orM ((bc cH (none:Option Int) (some (3:Int))).bind fun a66=>M.ok (!dc a66 [(sS " & "),(sS " | ")])) ((((fx cH (1:Int)).bind fun a67=>(M.ok ()).bind fun w68=>M.ok (a67,w68)).bind fun z69=>M.ok [(sS ""),z69.1]).bind fun a70=>M.ok (!dc c48.2.1 a70))).bind fun b71=>if b71=true then(M.ok (Lp.ret (eN ())))else((fx cH (1:Int)).bind fun kg=>(bc cH (some (3:Int)) (none:Option Int)).bind fun kK=>M.ok (.go (kK,kg,eu))))))):M (Lp (List Nat×List Nat×List D) D)))) (by(repeat' (first | exact trivial | refine And.intro rfl ?_))) rfl (fun c48=>(dU (sv (cD D.bl true)))) (fun c48=>(aL (fun one49=>[some (.v (.d (D.str c48.1))),some (.v (.d (D.str c48.2.1))),some (.own ((oL eY) c48.2.2)),some (.v (.d (eY one49)))]) (bY (cq (R':=R) (post:=(pD eY _ _)) (af (sv (aj (a:=c48.1) (e:=D.str) rfl)) ai) (.d .nil) rfl (srec (aC:=c48.1)) (fun _=>rfl))) (fun _=>rfl) fun one49=>(gj (dU (sv (au (sv (aj (a:=one49) (e:=eY) rfl)) (sv (cD eN ())) rZ))) (aV (il (toY (cD eN ())) rfl)) (aL (fun eu=>[some (.v (.d (D.str c48.1))),some (.v (.d (D.str c48.2.1))),some (.own ((oL eY) eu)),some (.v (.d (eY one49)))]) (je (xO (jd (jc (a:=c48.2.2) rfl)) (fun _ hf=>wM (mj rfl) hf) (aF (sv (au (sv (aj (a:=one49) (e:=eY) rfl)) (sv (cD D.int (0:Int))) dB)) fun a50=>ai) fun z52=>(uA rfl))) (fun _=>rfl) fun eu=>(aL (fun cH=>[some (.v (.d (D.str cH))),some (.v (.d (D.str c48.2.1))),some (.own ((oL eY) eu)),some (.v (.d (eY one49)))]) (bY (j7 (au (sv (aj (a:=one49) (e:=eY) rfl)) (sv (cD D.int (1:Int))) dB) ir jF)) (fun _=>rfl) fun cH=>(gu (b:=fun v=>v) (om (tB (b:=fun v=>v) (sv (bV (sv (bL (sv (aj (a:=cH) (e:=D.str) rfl)) pn (pe (sv (cD D.int (1:Int)))) cn)) (fun a55=>(sv (cD D.str ((sS ")"))))) fun a55=>(cW aT aT qS (by decide))))) (lZ (dU (sv (au (sv (eC (af (jd (jc (a:=eu) rfl)) ai) (oh (mj rfl)))) (sv (cD D.int (1:Int))) rR))))) (fun b56=>(aV (fm (φ:=fun v65=>Lp.ret v65) (Ev.map (fun(z64:D×(D×Unit))=>(D.tup [z64.1,z64.2.1])) (pD eY _ _) (bI (aF (sv (Ev.map (fun(z59:D×Unit)=>(D.tup [z59.1,((eL eY) eu)])) (pD eY _ _) (bI (aF (sv (toY (au (sn (tW (l:=([(sS "&",sS "both"),(sS "|",sS "one")]:List (List Nat×List Nat))) (by decide)) (fun v=>Ag _ v)) (sv (aj (a:=c48.2.1) (e:=D.str) rfl)) (rB Aq)))) fun a57=>(af (jd (jc (a:=eu) rfl)) ai)) (fun _=>(.d (.o rfl (bS _ _) .nil))) (fun _=>rfl) (fun _=>rfl)) fun _=>rfl)) fun a60=>(aF (sv (toY (bL (sv (aj (a:=cH) (e:=D.str) rfl)) (pe (sv (cD D.int (1:Int)))) pn cn))) fun a61=>ai)) (fun _=>(.d (.d .nil))) (fun _=>rfl) (fun _=>rfl)) fun _=>rfl) fun _=>rfl))) (fun b56=>(gu (b:=fun v=>v) (nQ (tB (b:=fun v=>v) (sv (bV (sv (bL (sv (aj (a:=cH) (e:=D.str) rfl)) pn (pe (sv (cD D.int (3:Int)))) cn)) (fun a66=>(sn (Ev.b6 (post2:=(pN (oL D.str) _ _)) (bH (l:=fun _=>([(sS " & "),(sS " | ")]:List (List Nat))) (e:=D.str) (af (sv (cD D.str (sS " & "))) (af (sv (cD D.str (sS " | "))) ai)) (fun _=>(.d (.d .nil))) (fun _=>rfl) (fun _=>rfl)) rfl) (fun v=>bS _ v))) fun a66=>(yU aT ck qS (by decide))))) (kM (tB (b:=fun v=>v) (sv (cC (sv (aj (a:=c48.2.1) (e:=D.str) rfl)) (sn (Ev.map (fun(z69:List Nat×Unit)=>[(sS ""),z69.1]) (pN (oL D.str) _ _) (bH (l:=fun z69=>([(sS ""),z69.1]:List (List Nat))) (e:=D.str) (af (sv (cD D.str (sS ""))) (aF (sv (au (sv (aj (a:=cH) (e:=D.str) rfl)) (sv (cD D.int (1:Int))) nH)) fun a67=>ai)) (fun _=>(.d (.d .nil))) (fun _=>rfl) (fun _=>rfl)) fun _=>rfl) (fun v=>bS _ v)) fun a70=>(yU aT ck qS (by decide))))))) (fun b71=>(aV (il (toY (cD eN ())) rfl))) (fun b71=>(aL (fun kg=>[some (.v (.d (D.str cH))),some (.v (.d (D.str kg))),some (.own ((oL eY) eu)),some (.v (.d (eY one49)))]) (bY (au (sv (aj (a:=cH) (e:=D.str) rfl)) (sv (cD D.int (1:Int))) nH)) (fun _=>rfl) fun kg=>(aL (fun kK=>[some (.v (.d (D.str kK))),some (.v (.d (D.str kg))),some (.own ((oL eY) eu)),some (.v (.d (eY one49)))]) (bY (bL (sv (aj (a:=cH) (e:=D.str) rfl)) (pe (sv (cD D.int (3:Int)))) pn cn)) (fun _=>rfl) fun kK=>(qk rfl (by(repeat' (first | exact trivial | refine And.intro rfl ?_))))))))))))))) (fun _=>rfl) fun r74=>(fun _ _=>trivial)))))))))
def gn:Nat→(List Nat)→M D
 | 0,_=>.bad
 | k+1,aC=>let recm:=gn k;((bc aC (none:Option Int) (some (1:Int))).bind fun a1=>M.ok (eqB a1 (sS "!"))).bind fun b2=>if b2=true then((((bc aC (some (1:Int)) (none:Option Int)).bind fun a3=>(M.ok ()).bind fun w4=>M.ok (a3,w4)).bind fun z5=>nox (recm z5.1)).bind fun gA=>(if(jh gA)=true then(M.ok ((eN ())))else((((((bP gA (0:Int)).bind fun a7=>(M.ok ()).bind fun w8=>M.ok (a7,w8)).bind fun z9=>M.ok (D.tup [(D.str (sS "not")),z9.1])).bind fun a10=>((bP gA (1:Int)).bind fun a11=>(M.ok ()).bind fun w12=>M.ok (a11,w12)).bind fun w13=>M.ok (a10,w13)).bind fun z14=>M.ok (D.tup [z14.1,z14.2.1])).bind fun v15=>M.ok (v15))))else(((bc aC (none:Option Int) (some (1:Int))).bind fun a16=>M.ok (eqB a16 ((sS "(")))).bind fun b17=>if b17=true then((((bc aC (some (1:Int)) (none:Option Int)).bind fun a18=>(M.ok ()).bind fun w19=>M.ok (a18,w19)).bind fun z20=>nox ((so recm) z20.1)).bind fun v21=>M.ok (v21))else(((((bc aC (none:Option Int) (some (1:Int))).bind fun a22=>M.ok (!(eqB a22 (sS "*")))).bind fun b23=>if b23=true then((nox (iX aC (sS "abcdefghijklmnopqrstuvwxyz"))).bind fun x2=>M.ok x2)else(M.ok (1:Int))):M Int).bind fun j25=>(orM (M.ok (eqB j25 (0:Int))) (orM (M.ok (decide ((12:Int)<j25))) ((bc aC (some j25) (some (j25+(1:Int)))).bind fun a27=>M.ok (!(eqB a27 (sS ":")))))).bind fun b28=>if b28=true then(M.ok ((eN ())))else((((bc aC (none:Option Int) (some j25)).bind fun a29=>((bc aC (some (j25+(1:Int))) (none:Option Int)).bind fun a30=>(M.ok ()).bind fun w31=>M.ok (a30,w31)).bind fun w32=>M.ok (a29,w32)).bind fun z33=>nox (lM z33.1 z33.2.1)).bind fun v34=>M.ok (v34))))
theorem Cb(k:Nat){R:List Ob→Prop}{σ:List Ob}{aC:List Nat}:fQ R (fN k) [.d (D.str aC)] σ (gn k aC) (fun v=>(.val (.d (eY v)),σ)):=by
 induction k generalizing aC σ with
 | zero=>exact trivial
 | succ k srec=>
  exact(gq (gu (b:=fun v=>v) (tB (b:=fun v=>v) (sv (bV (sv (bL (sv (aj (a:=aC) (e:=D.str) rfl)) pn (pe (sv (cD D.int (1:Int)))) cn)) (fun a1=>(sv (cD D.str (sS "!")))) fun a1=>(cW aT aT qS (by decide))))) (fun b2=>(aL (fun gA=>[some (.v (.d (D.str aC))),none,some (.v (.d (eY gA)))]) (bY (hG (R':=R) (post:=(pD eY _ _)) (aF (sv (bL (sv (aj (a:=aC) (e:=D.str) rfl)) (pe (sv (cD D.int (1:Int)))) pn cn)) fun a3=>ai) (fun _=>(.d .nil)) (fun _=>rfl) (fun z5=>(srec (aC:=z5.1))) (fun _ _=>rfl))) (fun _=>rfl) fun gA=>(gj (dU (sv (au (sv (aj (a:=gA) (e:=eY) rfl)) (sv (cD eN ())) rZ))) (aV (il (toY (cD eN ())) rfl)) (aV (fm (φ:=fun v15=>v15) (Ev.map (fun(z14:D×(D×Unit))=>(D.tup [z14.1,z14.2.1])) (pD eY _ _) (bI (aF (sv (Ev.map (fun(z9:D×Unit)=>(D.tup [(D.str (sS "not")),z9.1])) (pD eY _ _) (bI (af (sv (toY (cD D.str (sS "not")))) (aF (sv (au (sv (aj (a:=gA) (e:=eY) rfl)) (sv (cD D.int (0:Int))) dB)) fun a7=>ai)) (fun _=>(.d (.d .nil))) (fun _=>rfl) (fun _=>rfl)) fun _=>rfl)) fun a10=>(aF (sv (au (sv (aj (a:=gA) (e:=eY) rfl)) (sv (cD D.int (1:Int))) dB)) fun a11=>ai)) (fun _=>(.d (.d .nil))) (fun _=>rfl) (fun _=>rfl)) fun _=>rfl) fun _=>rfl))))) (fun b2=>(gu (b:=fun v=>v) (tB (b:=fun v=>v) (sv (bV (sv (bL (sv (aj (a:=aC) (e:=D.str) rfl)) pn (pe (sv (cD D.int (1:Int)))) cn)) (fun a16=>(sv (cD D.str ((sS "("))))) fun a16=>(cW aT aT qS (by decide))))) (fun b17=>(aV (fm (φ:=fun v21=>v21) (hG (R':=R) (post:=(pD eY _ _)) (aF (sv (bL (sv (aj (a:=aC) (e:=D.str) rfl)) (pe (sv (cD D.int (1:Int)))) pn cn)) fun a18=>ai) (fun _=>(.d .nil)) (fun _=>rfl) (fun z20=>(C9 srec (aC:=z20.1))) (fun _ _=>rfl)) fun _=>rfl))) (fun b17=>(eB [some (.v (.d (D.str aC))),some (.v (.d (D.int (1:Int)))),none] (bY (cD D.int (1:Int))) rfl (uE (b:=fun v=>v) (Pc:=fun(j25:Int)=>[some (.v (.d (D.str aC))),some (.v (.d (D.int j25))),none]) (Sc:=fun(j25:Int)=>σ) (tB (b:=fun v=>v) (sv (bV (sv (bL (sv (aj (a:=aC) (e:=D.str) rfl)) pn (pe (sv (cD D.int (1:Int)))) cn)) (fun a22=>(sv (cD D.str (sS "*")))) fun a22=>(DD aT aT qS (by decide))))) (fun b23=>(aL (fun x2=>[some (.v (.d (D.str aC))),some (.v (.d (D.int x2))),none]) (bY (cq (R':=R) (post:=(pD D.int _ _)) (af (sv (aj (a:=aC) (e:=D.str) rfl)) (af (sv (cD D.str (sS "abcdefghijklmnopqrstuvwxyz"))) ai)) (.d (.d .nil)) rfl (rk (aC:=aC) (cG:=(sS "abcdefghijklmnopqrstuvwxyz"))) (fun _=>rfl))) (fun _=>rfl) fun x2=>(iu rfl (by(repeat' (first | exact trivial | refine And.intro rfl ?_)))))) (fun b23=>(iu rfl (by(repeat' (first | exact trivial | refine And.intro rfl ?_))))) fun j25=>(gu (b:=fun v=>v) (nQ (dU (sv (au (sv (aj (a:=j25) (e:=D.int) rfl)) (sv (cD D.int (0:Int))) (cW aT aT qI (by decide))))) (nQ (dU (sv (au (sv (aj (a:=j25) (e:=D.int) rfl)) (sv (cD D.int (12:Int))) rR))) (kM (tB (b:=fun v=>v) (sv (bV (sv (bL (sv (aj (a:=aC) (e:=D.str) rfl)) (pe (sv (aj (a:=j25) (e:=D.int) rfl))) (pe (sv (au (sv (aj (a:=j25) (e:=D.int) rfl)) (sv (cD D.int (1:Int))) di))) cn)) (fun a27=>(sv (cD D.str (sS ":")))) fun a27=>(DD aT aT qS (by decide)))))))) (fun b28=>(aV (il (toY (cD eN ())) rfl))) (fun b28=>(aV (fm (φ:=fun v34=>v34) (hG (R':=R) (post:=(pD eY _ _)) (aF (sv (bL (sv (aj (a:=aC) (e:=D.str) rfl)) pn (pe (sv (aj (a:=j25) (e:=D.int) rfl))) cn)) fun a29=>(aF (sv (bL (sv (aj (a:=aC) (e:=D.str) rfl)) (pe (sv (au (sv (aj (a:=j25) (e:=D.int) rfl)) (sv (cD D.int (1:Int))) di))) pn cn)) fun a30=>ai)) (fun _=>(.d (.d .nil))) (fun _=>rfl) (fun z33=>(BQ (bh:=z33.1) (aC:=z33.2.1))) (fun _ _=>rfl)) fun _=>rfl)))))))))))
def kQ(aC:List Nat)(aX:List Int):M (List Nat×List Int):=(((((nox (dy aX)).bind fun a1=>M.ok ((a1.1%(4:Int)),a1.2)).bind fun a2=>(M.ok ()).bind fun w3=>M.ok (a2,w3)).bind fun z4=>(j3 0 z4.1.1).bind fun v=>M.ok (v,z4.1.2)).bind fun a5=>foldM (fun(c6:List Nat×List Int) (k7:Int)=>(nox (dy c6.2)).bind fun aS=>(((i9 c6.1).bind fun a9=>M.ok (a9+(1:Int))).bind fun a10=>ic aS.1 a10).bind fun at_11=>(((i9 (sS "~:!&|()<>[]\"*? abz059X")).bind fun a12=>ic (aS.1/(400:Int)) a12).bind fun a13=>fx (sS "~:!&|()<>[]\"*? abz059X") a13).bind fun gh=>((if(eqB ((aS.1/(10000:Int))%(4:Int)) (0:Int))=true then(((bc c6.1 (none:Option Int) (some at_11)).bind fun a19=>(bc c6.1 (some (at_11+(1:Int))) (none:Option Int)).bind fun a20=>aY a19 a20).bind fun rf=>M.ok rf)else(M.ok c6.1)):M (List Nat)).bind fun j18=>((if(eqB ((aS.1/(10000:Int))%(4:Int)) (1:Int))=true then((((bc j18 (none:Option Int) (some at_11)).bind fun a27=>aY a27 gh).bind fun a28=>(bc j18 (some at_11) (none:Option Int)).bind fun a29=>aY a28 a29).bind fun rg=>M.ok rg)else(M.ok j18)):M (List Nat)).bind fun j26=>((if(eqB ((aS.1/(10000:Int))%(4:Int)) (2:Int))=true then((((bc j26 (none:Option Int) (some at_11)).bind fun a36=>aY a36 gh).bind fun a37=>(bc j26 (some (at_11+(1:Int))) (none:Option Int)).bind fun a38=>aY a37 a38).bind fun rh=>M.ok rh)else(M.ok j26)):M (List Nat)).bind fun j35=>((if(eqB ((aS.1/(10000:Int))%(4:Int)) (3:Int))=true then((bc j35 (some at_11) (some ((at_11+(1:Int))+((aS.1/(40000:Int))%(9:Int))))).bind fun nE=>(((bc j35 (none:Option Int) (some at_11)).bind fun a47=>aY a47 nE).bind fun a48=>(bc j35 (some at_11) (none:Option Int)).bind fun a49=>aY a48 a49).bind fun rj=>M.ok rj)else(M.ok j35)):M (List Nat)).bind fun j45=>M.ok (j45,aS.2)) (aC,a5.2) a5.1).bind fun r51=>(bc r51.1 (none:Option Int) (some (400:Int))).bind fun v52=>M.ok ((v52,r51.2))
theorem Ae{R:List Ob→Prop}{S:(List Int)→List Ob}{n:Nat}(hr:∀ d,(S d)[n]? =some ((oL D.int) d))(hw:∀ d d',(S d).set n ((oL D.int) d')=S d'){aC:List Nat}{aX:List Int}:fQ R iQ [.d (D.str aC),.r n] (S aX) (kQ aC aX) (fun v=>(.val (.d (D.str v.1)),S v.2)):=(gq (eB [some (.v (.d (D.str aC))),some (.v (.r n)),some (.v (.d (D.str (sS "~:!&|()<>[]\"*? abz059X")))),none,none,none,none,none,none] (bY (cD D.str (sS "~:!&|()<>[]\"*? abz059X"))) rfl (qh (Am (P:=fun(c6:List Nat×List Int)=>[some (.v (.d (D.str c6.1))),some (.v (.r n)),some (.v (.d (D.str (sS "~:!&|()<>[]\"*? abz059X")))),none,none,none,none,none,none]) (S:=fun(c6:List Nat×List Int)=>S c6.2) (lA:=(fun(a5:List Int×List Int)=>a5.1)) (c0:=fun(a5:List Int×List Int)=>(aC,a5.2)) (mb:=(fun(c6:List Nat×List Int) (k7:Int)=>(nox (dy c6.2)).bind fun aS=>(((i9 c6.1).bind fun a9=>M.ok (a9+(1:Int))).bind fun a10=>ic aS.1 a10).bind fun at_11=>(((i9 (sS "~:!&|()<>[]\"*? abz059X")).bind fun a12=>ic (aS.1/(400:Int)) a12).bind fun a13=>fx (sS "~:!&|()<>[]\"*? abz059X") a13).bind fun gh=>((if(eqB ((aS.1/(10000:Int))%(4:Int)) (0:Int))=true then(((bc c6.1 (none:Option Int) (some at_11)).bind fun a19=>(bc c6.1 (some (at_11+(1:Int))) (none:Option Int)).bind fun a20=>aY a19 a20).bind fun rf=>M.ok rf)else(M.ok c6.1)):M (List Nat)).bind fun j18=>((if(eqB ((aS.1/(10000:Int))%(4:Int)) (1:Int))=true then((((bc j18 (none:Option Int) (some at_11)).bind fun a27=>aY a27 gh).bind fun a28=>(bc j18 (some at_11) (none:Option Int)).bind fun a29=>aY a28 a29).bind fun rg=>M.ok rg)else(M.ok j18)):M (List Nat)).bind fun j26=>((if(eqB ((aS.1/(10000:Int))%(4:Int)) (2:Int))=true then((((bc j26 (none:Option Int) (some at_11)).bind fun a36=>aY a36 gh).bind fun a37=>(bc j26 (some (at_11+(1:Int))) (none:Option Int)).bind fun a38=>aY a37 a38).bind fun rh=>M.ok rh)else(M.ok j26)):M (List Nat)).bind fun j35=>((if(eqB ((aS.1/(10000:Int))%(4:Int)) (3:Int))=true then((bc j35 (some at_11) (some ((at_11+(1:Int))+((aS.1/(40000:Int))%(9:Int))))).bind fun nE=>(((bc j35 (none:Option Int) (some at_11)).bind fun a47=>aY a47 nE).bind fun a48=>(bc j35 (some at_11) (none:Option Int)).bind fun a49=>aY a48 a49).bind fun rj=>M.ok rj)else(M.ok j35)):M (List Nat)).bind fun j45=>M.ok (j45,aS.2))) (IT (aF (sv (bV (sv (cq (R':=R) (post:=(pE D.int _ S)) (af (sv (cj (a:=aX) rfl)) ai) (.d .nil) rfl (iZ (aX:=aX) hr hw) (fun _=>rfl))) (fun a1=>(sv (cD D.int (4:Int)))) fun a1=>(Ev.b6 (post2:=(pE D.int _ S)) (gy (a:=a1.1) (b:=(4:Int)) (by decide)) rfl))) fun a2=>ai) fun z4=>Ev.map (fun v=>(v,z4.1.2)) (Pw (fun x=>.d (.int x)) _ S) yO fun _=>rfl) (fun _=>by(repeat' (first | exact trivial | refine And.intro rfl ?_))) (fun _=>rfl) (fun c6 k7=>jD) (fun c6 k7=>(aL (fun aS=>[some (.v (.d (D.str c6.1))),some (.v (.r n)),some (.v (.d (D.str (sS "~:!&|()<>[]\"*? abz059X")))),some (.v (.d (D.int k7))),some (.v (.d (D.int aS.1))),none,none,none,none]) (bY (cq (R':=R) (post:=(pE D.int _ S)) (af (sv (cj (a:=c6.2) rfl)) ai) (.d .nil) rfl (iZ (aX:=c6.2) hr hw) (fun _=>rfl))) (fun _=>rfl) fun aS=>(aL (fun at_11=>[some (.v (.d (D.str c6.1))),some (.v (.r n)),some (.v (.d (D.str (sS "~:!&|()<>[]\"*? abz059X")))),some (.v (.d (D.int k7))),some (.v (.d (D.int aS.1))),some (.v (.d (D.int at_11))),none,none,none]) (bY (cC (sv (aj (a:=aS.1) (e:=D.int) rfl)) (sv (bV (sv (eC (af (sv (aj (a:=c6.1) (e:=D.str) rfl)) ai) ox)) (fun a9=>(sv (cD D.int (1:Int)))) fun a9=>di)) fun a10=>jH)) (fun _=>rfl) fun at_11=>(aL (fun gh=>[some (.v (.d (D.str c6.1))),some (.v (.r n)),some (.v (.d (D.str (sS "~:!&|()<>[]\"*? abz059X")))),some (.v (.d (D.int k7))),some (.v (.d (D.int aS.1))),some (.v (.d (D.int at_11))),some (.v (.d (D.str gh))),none,none]) (bY (cC (sv (aj (a:=(sS "~:!&|()<>[]\"*? abz059X")) (e:=D.str) rfl)) (sv (cC (sv (au (sv (aj (a:=aS.1) (e:=D.int) rfl)) (sv (cD D.int (400:Int))) (eD (a:=aS.1) (b:=(400:Int)) (iF (by decide) (by decide))))) (sv (eC (af (sv (aj (a:=(sS "~:!&|()<>[]\"*? abz059X")) (e:=D.str) rfl)) ai) ox)) fun a12=>jH)) fun a13=>nH)) (fun _=>rfl) fun gh=>(eB [some (.v (.d (D.str c6.1))),some (.v (.r n)),some (.v (.d (D.str (sS "~:!&|()<>[]\"*? abz059X")))),some (.v (.d (D.int k7))),some (.v (.d (D.int aS.1))),some (.v (.d (D.int at_11))),some (.v (.d (D.str gh))),some (.v (.d (D.int ((aS.1/(10000:Int))%(4:Int))))),none] (bY (au (sv (au (sv (aj (a:=aS.1) (e:=D.int) rfl)) (sv (cD D.int (10000:Int))) (eD (a:=aS.1) (b:=(10000:Int)) (iF (by decide) (by decide))))) (sv (cD D.int (4:Int))) (gy (a:=(aS.1/(10000:Int))) (b:=(4:Int)) (by decide)))) rfl (qO (Pc:=fun(j18:List Nat)=>[some (.v (.d (D.str j18))),some (.v (.r n)),some (.v (.d (D.str (sS "~:!&|()<>[]\"*? abz059X")))),some (.v (.d (D.int k7))),some (.v (.d (D.int aS.1))),some (.v (.d (D.int at_11))),some (.v (.d (D.str gh))),some (.v (.d (D.int ((aS.1/(10000:Int))%(4:Int))))),none]) (Sc:=fun(j18:List Nat)=>S aS.2) (dU (sv (au (sv (aj (a:=((aS.1/(10000:Int))%(4:Int))) (e:=D.int) rfl)) (sv (cD D.int (0:Int))) (cW aT aT qI (by decide))))) (aL (fun rf=>[some (.v (.d (D.str rf))),some (.v (.r n)),some (.v (.d (D.str (sS "~:!&|()<>[]\"*? abz059X")))),some (.v (.d (D.int k7))),some (.v (.d (D.int aS.1))),some (.v (.d (D.int at_11))),some (.v (.d (D.str gh))),some (.v (.d (D.int ((aS.1/(10000:Int))%(4:Int))))),none]) (bY (iM (sv (bL (sv (aj (a:=c6.1) (e:=D.str) rfl)) pn (pe (sv (aj (a:=at_11) (e:=D.int) rfl))) cn)) (fun a19=>(sv (bL (sv (aj (a:=c6.1) (e:=D.str) rfl)) (pe (sv (au (sv (aj (a:=at_11) (e:=D.int) rfl)) (sv (cD D.int (1:Int))) di))) pn cn))) fun a19 a20=>bQ)) (fun _=>rfl) fun rf=>(iu rfl (by(repeat' (first | exact trivial | refine And.intro rfl ?_))))) (iu rfl (by(repeat' (first | exact trivial | refine And.intro rfl ?_)))) fun j18=>(qO (Pc:=fun(j26:List Nat)=>[some (.v (.d (D.str j26))),some (.v (.r n)),some (.v (.d (D.str (sS "~:!&|()<>[]\"*? abz059X")))),some (.v (.d (D.int k7))),some (.v (.d (D.int aS.1))),some (.v (.d (D.int at_11))),some (.v (.d (D.str gh))),some (.v (.d (D.int ((aS.1/(10000:Int))%(4:Int))))),none]) (Sc:=fun(j26:List Nat)=>S aS.2) (dU (sv (au (sv (aj (a:=((aS.1/(10000:Int))%(4:Int))) (e:=D.int) rfl)) (sv (cD D.int (1:Int))) (cW aT aT qI (by decide))))) (aL (fun rg=>[some (.v (.d (D.str rg))),some (.v (.r n)),some (.v (.d (D.str (sS "~:!&|()<>[]\"*? abz059X")))),some (.v (.d (D.int k7))),some (.v (.d (D.int aS.1))),some (.v (.d (D.int at_11))),some (.v (.d (D.str gh))),some (.v (.d (D.int ((aS.1/(10000:Int))%(4:Int))))),none]) (bY (iM (sv (bV (sv (bL (sv (aj (a:=j18) (e:=D.str) rfl)) pn (pe (sv (aj (a:=at_11) (e:=D.int) rfl))) cn)) (fun a27=>(sv (aj (a:=gh) (e:=D.str) rfl))) fun a27=>bQ)) (fun a28=>(sv (bL (sv (aj (a:=j18) (e:=D.str) rfl)) (pe (sv (aj (a:=at_11) (e:=D.int) rfl))) pn cn))) fun a28 a29=>bQ)) (fun _=>rfl) fun rg=>(iu rfl (by(repeat' (first | exact trivial | refine And.intro rfl ?_))))) (iu rfl (by(repeat' (first | exact trivial | refine And.intro rfl ?_)))) fun j26=>(qO (Pc:=fun(j35:List Nat)=>[some (.v (.d (D.str j35))),some (.v (.r n)),some (.v (.d (D.str (sS "~:!&|()<>[]\"*? abz059X")))),some (.v (.d (D.int k7))),some (.v (.d (D.int aS.1))),some (.v (.d (D.int at_11))),some (.v (.d (D.str gh))),some (.v (.d (D.int ((aS.1/(10000:Int))%(4:Int))))),none]) (Sc:=fun(j35:List Nat)=>S aS.2) (dU (sv (au (sv (aj (a:=((aS.1/(10000:Int))%(4:Int))) (e:=D.int) rfl)) (sv (cD D.int (2:Int))) (cW aT aT qI (by decide))))) (aL (fun rh=>[some (.v (.d (D.str rh))),some (.v (.r n)),some (.v (.d (D.str (sS "~:!&|()<>[]\"*? abz059X")))),some (.v (.d (D.int k7))),some (.v (.d (D.int aS.1))),some (.v (.d (D.int at_11))),some (.v (.d (D.str gh))),some (.v (.d (D.int ((aS.1/(10000:Int))%(4:Int))))),none]) (bY (iM (sv (bV (sv (bL (sv (aj (a:=j26) (e:=D.str) rfl)) pn (pe (sv (aj (a:=at_11) (e:=D.int) rfl))) cn)) (fun a36=>(sv (aj (a:=gh) (e:=D.str) rfl))) fun a36=>bQ)) (fun a37=>(sv (bL (sv (aj (a:=j26) (e:=D.str) rfl)) (pe (sv (au (sv (aj (a:=at_11) (e:=D.int) rfl)) (sv (cD D.int (1:Int))) di))) pn cn))) fun a37 a38=>bQ)) (fun _=>rfl) fun rh=>(iu rfl (by(repeat' (first | exact trivial | refine And.intro rfl ?_))))) (iu rfl (by(repeat' (first | exact trivial | refine And.intro rfl ?_)))) fun j35=>(qO (Pc:=fun(j45:List Nat)=>[some (.v (.d (D.str j45))),some (.v (.r n)),some (.v (.d (D.str (sS "~:!&|()<>[]\"*? abz059X")))),some (.v (.d (D.int k7))),some (.v (.d (D.int aS.1))),some (.v (.d (D.int at_11))),some (.v (.d (D.str gh))),some (.v (.d (D.int ((aS.1/(10000:Int))%(4:Int))))),none]) (Sc:=fun(j45:List Nat)=>S aS.2) (dU (sv (au (sv (aj (a:=((aS.1/(10000:Int))%(4:Int))) (e:=D.int) rfl)) (sv (cD D.int (3:Int))) (cW aT aT qI (by decide))))) (aL (fun nE=>[some (.v (.d (D.str j35))),some (.v (.r n)),some (.v (.d (D.str (sS "~:!&|()<>[]\"*? abz059X")))),some (.v (.d (D.int k7))),some (.v (.d (D.int aS.1))),some (.v (.d (D.int at_11))),some (.v (.d (D.str gh))),some (.v (.d (D.int ((aS.1/(10000:Int))%(4:Int))))),some (.v (.d (D.str nE)))]) (bY (bL (sv (aj (a:=j35) (e:=D.str) rfl)) (pe (sv (aj (a:=at_11) (e:=D.int) rfl))) (pe (sv (au (sv (au (sv (aj (a:=at_11) (e:=D.int) rfl)) (sv (cD D.int (1:Int))) di)) (sv (au (sv (au (sv (aj (a:=aS.1) (e:=D.int) rfl)) (sv (cD D.int (40000:Int))) (eD (a:=aS.1) (b:=(40000:Int)) (iF (by decide) (by decide))))) (sv (cD D.int (9:Int))) (gy (a:=(aS.1/(40000:Int))) (b:=(9:Int)) (by decide)))) di))) cn)) (fun _=>rfl) fun nE=>(aL (fun rj=>[some (.v (.d (D.str rj))),some (.v (.r n)),some (.v (.d (D.str (sS "~:!&|()<>[]\"*? abz059X")))),some (.v (.d (D.int k7))),some (.v (.d (D.int aS.1))),some (.v (.d (D.int at_11))),some (.v (.d (D.str gh))),some (.v (.d (D.int ((aS.1/(10000:Int))%(4:Int))))),some (.v (.d (D.str nE)))]) (bY (iM (sv (bV (sv (bL (sv (aj (a:=j35) (e:=D.str) rfl)) pn (pe (sv (aj (a:=at_11) (e:=D.int) rfl))) cn)) (fun a47=>(sv (aj (a:=nE) (e:=D.str) rfl))) fun a47=>bQ)) (fun a48=>(sv (bL (sv (aj (a:=j35) (e:=D.str) rfl)) (pe (sv (aj (a:=at_11) (e:=D.int) rfl))) pn cn))) fun a48 a49=>bQ)) (fun _=>rfl) fun rj=>(iu rfl (by(repeat' (first | exact trivial | refine And.intro rfl ?_)))))) (iu rfl (by(repeat' (first | exact trivial | refine And.intro rfl ?_)))) fun j45=>(qk rfl (by(repeat' (first | exact trivial | refine And.intro rfl ?_)))))))))))))) fun r51=>(aV (fm (φ:=fun v52=>(v52,r51.2)) (bL (sv (aj (a:=r51.1) (e:=D.str) rfl)) pn (pe (sv (cD D.int (400:Int)))) cn) fun _=>rfl)))))
def fJ:Nat→D→Int→M ((Int×Int))
 | 0,_,_=>.bad
 | k+1,az,aU=>let recm:=fJ k;(((bP az (0:Int)).bind ig).bind fun a1=>M.ok (dc a1 [(sS "both"),(sS "one")])).bind fun b2=>if b2=true then((((bP az (1:Int)).bind (zH (fun d=>M.ok d))).bind fun l4=>kr (fun(one3:D)=>M.ok true) (fun(one3:D)=>nox (recm one3 (aU+(1:Int)))) l4).bind fun jv=>((kr (fun(kU:Int×Int)=>M.ok true) (fun(kU:Int×Int)=>M.ok kU.2) jv).bind fun a7=>M.ok (maxD aU a7)).bind fun oA=>((((((kr (fun(kW:Int×Int)=>M.ok true) (fun(kW:Int×Int)=>M.ok kW.1) jv).bind fun a10=>(M.ok ()).bind fun w11=>M.ok (a10,w11)).bind fun z12=>M.ok (z12.1.sum)).bind fun a13=>M.ok ((1:Int)+a13)).bind fun a14=>(M.ok ()).bind fun w15=>M.ok (a14,w15)).bind fun z16=>M.ok (z16.1,oA)).bind fun v17=>M.ok (v17))else((((bP az (0:Int)).bind ig).bind fun a18=>M.ok (eqB a18 (sS "not"))).bind fun b19=>if b19=true then((((bP az (1:Int)).bind fun a20=>(M.ok ()).bind fun w21=>M.ok (a20,w21)).bind fun z22=>nox (recm z22.1 (aU+(1:Int)))).bind fun t23=>M.ok ((((1:Int)+t23.1),t23.2)))else(M.ok (((1:Int),aU))))
theorem Ce(k:Nat){R:List Ob→Prop}{σ:List Ob}{az:D}{aU:Int}:fQ R (gW k) [.d (eY az),.d (D.int aU)] σ (fJ k az aU) (fun v=>(.val (.d ((jK D.int D.int) v)),σ)):=by
 induction k generalizing az aU σ with
 | zero=>exact trivial
 | succ k srec=>
  exact(gq (gu (b:=fun v=>v) (tB (b:=fun v=>v) (sv (bV (sv (j7 (au (sv (aj (a:=az) (e:=eY) rfl)) (sv (cD D.int (0:Int))) dB) ir jF)) (fun a1=>(sn (Ev.b6 (post2:=(pN (oL D.str) _ _)) (bH (l:=fun _=>([(sS "both"),(sS "one")]:List (List Nat))) (e:=D.str) (af (sv (cD D.str (sS "both"))) (af (sv (cD D.str (sS "one"))) ai)) (fun _=>(.d (.d .nil))) (fun _=>rfl) (fun _=>rfl)) rfl) (fun v=>bS _ v))) fun a1=>(Bz aT ck qS (by decide))))) (fun b2=>(aL (fun jv=>[some (.v (.d (eY az))),some (.v (.d (D.int aU))),some (.own ((oL (jK D.int D.int)) jv)),none,none,none,none]) (nV (Ap (q:=[some (.v (.d (eY az))),some (.v (.d (D.int aU))),none,none,none,none,none]) (p2:=fun(one3:D)=>[some (.v (.d (eY az))),some (.v (.d (D.int aU))),none,none,none,some (.v (.d (eY one3))),none]) (p3:=fun(one3:D)=>[some (.v (.d (eY az))),some (.v (.d (D.int aU))),none,none,none,some (.v (.d (eY one3))),none]) (mt:=(fun(one3:D)=>M.ok true)) (me:=(fun(one3:D)=>nox ((fJ k) one3 (aU+(1:Int))))) (e:=(jK D.int D.int)) (Fq (sv (j7 (au (sv (aj (a:=az) (e:=eY) rfl)) (sv (cD D.int (1:Int))) dB) (Ds Df) (F3 FF)))) rfl (fun(one3:D)=>⟨jD,kH,(qi (cq (R':=R) (post:=(pD (jK D.int D.int) _ _)) (af (sv (aj (a:=one3) (e:=eY) rfl)) (af (sv (au (sv (aj (a:=aU) (e:=D.int) rfl)) (sv (cD D.int (1:Int))) di)) ai)) (.d (.d .nil)) rfl (srec (az:=one3) (aU:=(aU+(1:Int)))) (fun _=>rfl)))⟩) (fun _=>by(repeat' (first | exact trivial | refine And.intro rfl ?_))) (fun _=>by(repeat' (first | exact trivial | refine And.intro rfl ?_))))) (fun _=>rfl) fun jv=>(aL (fun oA=>[some (.v (.d (eY az))),some (.v (.d (D.int aU))),some (.v (.d ((eL (jK D.int D.int)) jv))),some (.v (.d (D.int oA))),none,none,none]) (bY (bV (sn (Dc (q:=[some (.v (.d (eY az))),some (.v (.d (D.int aU))),some (.v (.d ((eL (jK D.int D.int)) jv))),none,none,none,none]) (p2:=fun(kU:Int×Int)=>[some (.v (.d (eY az))),some (.v (.d (D.int aU))),some (.v (.d ((eL (jK D.int D.int)) jv))),none,none,none,some (.v (.d ((jK D.int D.int) kU)))]) (p3:=fun(kU:Int×Int)=>[some (.v (.d (eY az))),some (.v (.d (D.int aU))),some (.v (.d ((eL (jK D.int D.int)) jv))),none,none,none,some (.v (.d ((jK D.int D.int) kU)))]) (mt:=(fun(kU:Int×Int)=>M.ok true)) (me:=(fun(kU:Int×Int)=>M.ok kU.2)) (e:=D.int) (Hc rfl) rfl (fun(kU:Int×Int)=>⟨jD,kH,(qi (au (sv (aj (a:=kU) (e:=(jK D.int D.int)) rfl)) (sv (cD D.int (1:Int))) (J9 (a:=kU.2) (e:=D.int) rfl)))⟩) (fun _=>by(repeat' (first | exact trivial | refine And.intro rfl ?_))) (fun _=>by(repeat' (first | exact trivial | refine And.intro rfl ?_)))) (fun v=>bS _ v)) (fun a7=>(sv (aj (a:=aU) (e:=D.int) rfl))) fun a7=>(Kz ck))) (fun _=>rfl) fun oA=>(aV (fm (φ:=fun v17=>v17) (Ev.map (fun(z16:Int×Unit)=>(z16.1,oA)) (pD (jK D.int D.int) _ _) (bI (aF (sv (cC (sv (cD D.int (1:Int))) (sv (oa (aF (sn (Dc (q:=[some (.v (.d (eY az))),some (.v (.d (D.int aU))),some (.v (.d ((eL (jK D.int D.int)) jv))),some (.v (.d (D.int oA))),none,none,none]) (p2:=fun(kW:Int×Int)=>[some (.v (.d (eY az))),some (.v (.d (D.int aU))),some (.v (.d ((eL (jK D.int D.int)) jv))),some (.v (.d (D.int oA))),none,none,some (.v (.d ((jK D.int D.int) kW)))]) (p3:=fun(kW:Int×Int)=>[some (.v (.d (eY az))),some (.v (.d (D.int aU))),some (.v (.d ((eL (jK D.int D.int)) jv))),some (.v (.d (D.int oA))),none,none,some (.v (.d ((jK D.int D.int) kW)))]) (mt:=(fun(kW:Int×Int)=>M.ok true)) (me:=(fun(kW:Int×Int)=>M.ok kW.1)) (e:=D.int) (Fq (sv (aj (a:=jv) (e:=(eL (jK D.int D.int))) rfl))) rfl (fun(kW:Int×Int)=>⟨jD,kH,(qi (au (sv (aj (a:=kW) (e:=(jK D.int D.int)) rfl)) (sv (cD D.int (0:Int))) (J9 (a:=kW.1) (e:=D.int) rfl)))⟩) (fun _=>by(repeat' (first | exact trivial | refine And.intro rfl ?_))) (fun _=>by(repeat' (first | exact trivial | refine And.intro rfl ?_)))) (fun v=>bS _ v)) fun a10=>ai) fun z12=>(LZ ck))) fun a13=>di)) fun a14=>(af (sv (aj (a:=oA) (e:=D.int) rfl)) ai)) (fun _=>(.d (.d .nil))) (fun _=>rfl) (fun _=>rfl)) fun _=>rfl) fun _=>rfl))))) (fun b2=>(gu (b:=fun v=>v) (tB (b:=fun v=>v) (sv (bV (sv (j7 (au (sv (aj (a:=az) (e:=eY) rfl)) (sv (cD D.int (0:Int))) dB) ir jF)) (fun a18=>(sv (cD D.str (sS "not")))) fun a18=>(cW aT aT qS (by decide))))) (fun b19=>(aL (fun t23=>[some (.v (.d (eY az))),some (.v (.d (D.int aU))),none,some (.v (.d (D.int t23.2))),some (.v (.d (D.int t23.1))),none,none]) (M9 (sv (hG (R':=R) (post:=(pD (jK D.int D.int) _ _)) (aF (sv (au (sv (aj (a:=az) (e:=eY) rfl)) (sv (cD D.int (1:Int))) dB)) fun a20=>(af (sv (au (sv (aj (a:=aU) (e:=D.int) rfl)) (sv (cD D.int (1:Int))) di)) ai)) (fun _=>(.d (.d .nil))) (fun _=>rfl) (fun z22=>(srec (az:=z22.1) (aU:=(aU+(1:Int))))) (fun _ _=>rfl))) fun _=>(Fc rfl rfl (uT jD (uT jD Du)))) (fun _=>rfl) fun t23=>(aV (il (Ev.b6 (post2:=(pD (jK D.int D.int) _ _)) (bI (af (sv (au (sv (cD D.int (1:Int))) (sv (aj (a:=t23.1) (e:=D.int) rfl)) di)) (af (sv (aj (a:=t23.2) (e:=D.int) rfl)) ai)) (fun _=>(.d (.d .nil))) (fun _=>rfl) (fun _=>rfl)) rfl) rfl)))) (fun b19=>(aV (il (Ev.b6 (post2:=(pD (jK D.int D.int) _ _)) (bI (af (sv (cD D.int (1:Int))) (af (sv (aj (a:=aU) (e:=D.int) rfl)) ai)) (fun _=>(.d (.d .nil))) (fun _=>rfl) (fun _=>rfl)) rfl) rfl)))))))
end K82
namespace K82
open PySem L2 PyProof.Rows Vw
theorem g8{a m:Int}(h:0<m):0≤a%m∧a%m<m:=⟨Int.emod_nonneg _ (by omega),Int.emod_lt_of_pos _ h⟩
theorem Kr{a b:M Bool}(h1:∃ x,a=.ok x)(h2:∃ y,b=.ok y):∃ z,andM a b=.ok z:=by
 obtain⟨x,rfl⟩:=h1
 obtain⟨y,rfl⟩:=h2
 cases x
 ·exact⟨false,rfl⟩
 ·exact⟨y,rfl⟩
theorem Ht{a b:Int}(h1:0≤b)(h2:b≤1000000)(h3:a.natAbs<2^64):BZ a b=.ok (a^b.toNat):=by
 unfold BZ
 rw[g9 (decide_eq_true ⟨h1,h2,h3⟩),M.aa]
def CH:List Nat:=sS "abc012"
theorem mT(d:List Int):Sat (dy d) fun _=>True:=by
 unfold dy
 refine iP (fun _=>aJ trivial) fun h=>?_
 by_cases hd:d=[]
 ·subst hd;exact absurd rfl h
 ·obtain⟨y,_,e⟩:=Iu hd
  rw[e];exact aJ trivial
theorem qM{T:Type}{l:List T}{lo hi:Option Int}:∀ x∈dg l lo hi,x∈l:=fun x hx=>by
 unfold dg at hx
 exact List.mem_of_mem_drop (List.mem_of_mem_take hx)
theorem uW{T:Type}{l:List T}{lo hi:Option Int}:(dg l lo hi).length≤l.length:=by
 unfold dg
 simp only[List.length_take,List.length_drop];omega
def Wd(u:List Nat):Prop:=u≠[]∧u.length≤38∧∀ c∈u,c∈CH
def th(W:List (List Nat)):Prop:=W.length=6∧∀ u∈W,Wd u
theorem tA{a b:List Nat}(ha:∀ c∈a,c∈CH)(hb:∀ c∈b,c∈CH)(hl:a.length+b.length≤38)(hn:0<a.length+b.length):Wd (a++b):=by
 refine⟨fun h=>?_,by simpa using hl,fun c hc=>?_⟩
 ·obtain⟨rfl,rfl⟩:=List.append_eq_nil_iff.mp h
  simp at hn
 ·rcases List.mem_append.mp hc with h | h
  ·exact ha c h
  ·exact hb c h
theorem Iv:∀ v∈[(1:Int),2,3,12],(match oU (sS "abc") v with | .ok u=>decide (0<u.length)&&decide (u.length≤36)&&u.all (fun c=>decide (c∈CH)) | _=>false)=true:=by decide+kernel
theorem Fe(d:List Int):Sat (mY d) fun r=>th r.1:=by
 unfold mY
 refine ay (fG (mT d)) fun n _=>?_
 have hS:∀ c∈(sS "abc1b2acb"),c∈CH:=by decide+kernel
 have hL:(sS "abc1b2acb").length=9:=by decide+kernel
 refine ay (P:=fun(st:List Nat)=>st.length≤2∧∀ c∈st,c∈CH) ?_ fun st hst=>?_
 ·rw[dq (by omega)]
  simp only[M.aa]
  rw[dq (Nat.le_trans uW (by omega))]
  refine aJ ⟨?_,fun c hc=>hS c (qM c (qM c hc))⟩
  have h3:=g8 (a:=n.1/7) (m:=3) (by decide)
  obtain⟨k,ek⟩:=Int.eq_ofNat_of_zero_le h3.1
  rw[ek,Sh.jz,List.length_take]
  omega
 ·have c1:∀ c∈(sS "a"),c∈CH:=by decide+kernel
  have c2:∀ c∈(sS "b"),c∈CH:=by decide+kernel
  have c3:∀ c∈(sS "ab"),c∈CH:=by decide+kernel
  have l1:(sS "a").length=1:=rfl
  have l2:(sS "b").length=1:=rfl
  have l3:(sS "ab").length=2:=rfl
  have w5:Wd (sS "c0"):=by refine⟨by decide,by decide,by decide+kernel⟩
  rw[aN (by omega),aN (by omega),aN (by omega),aN (by omega)]
  simp only[M.aa]
  refine ay (P:=fun(l:List (List Nat))=>th l) (ay (P:=fun(l:List (List Nat))=>l.length=1∧∀ u∈l,Wd u) ?_ fun l hl=>?_) fun v hv=>aJ hv
  ·refine ay (P:=fun(z:List Nat×Unit)=>Wd z.1) ?_ fun z hz=>aJ ⟨rfl,fun u hu=>by rw[List.mem_singleton]at hu;rw[hu];exact hz⟩
   refine ay (P:=fun(u:List Nat)=>Wd u) ?_ fun u hu=>aJ hu
   refine ay (P:=fun(u:List Nat)=>0<u.length∧u.length≤36∧∀ c∈u,c∈CH) ?_ fun u hu=>?_
   ·refine ay (Ek (l:=[(1:Int),2,3,12]) (P:=fun v=>v∈[(1:Int),2,3,12]) (by decide) (fun a ha=>ha)) fun v hv=>?_
    have hm:=Iv v hv
    cases e:oU (sS "abc") v with
    | ok u=>
     rw[e]at hm
     simp only[Bool.and_eq_true,decide_eq_true_eq,List.all_eq_true]at hm
     exact aJ ⟨hm.1.1,hm.1.2,hm.2⟩
    | exc x=>rw[e]at hm;cases hm
    | bad=>rw[e]at hm;cases hm
   ·rw[aN (by omega)]
    exact aJ (tA hst.2 hu.2.2 (by omega) (by omega))
  ·rw[oZ (by simp[hl.1])]
   refine aJ ⟨by simp[hl.1],fun u hu=>?_⟩
   simp only[List.mem_append,List.mem_cons,List.not_mem_nil,or_false]at hu
   rcases hu with(rfl | rfl | rfl | rfl | rfl) | hu
   ·exact tA hst.2 c1 (by omega) (by omega)
   ·exact tA hst.2 c2 (by omega) (by omega)
   ·exact tA hst.2 c3 (by omega) (by omega)
   ·exact tA c1 hst.2 (by omega) (by omega)
   ·exact w5
   ·exact hl.2 u hu
theorem Hv{c t:Int}(h0:0≤t)(h1:t<1000):Sat (lL c t) fun v=>0≤v∧v<2147483629:=by
 unfold lL
 have hc:=g8 (a:=c) (m:=2147483647) (by decide)
 obtain⟨u,hu⟩:∃ u,u=t*t:=⟨_,rfl⟩
 have hu0:0≤u:=by rw[hu];exact Int.mul_nonneg h0 h0
 have hu1:u≤998001:=by
  rw[hu]
  have:=Int.mul_le_mul (show t≤999 by omega) (show t≤999 by omega) h0 (by decide)
  omega
 rw[mS 10 10 (by omega) (by omega) (by decide) (by decide) (by decide)]
 rw[M.aa,←hu,mS 20 13 (by omega) (by decide) (by decide) (by decide) (by decide)]
 simp only[M.aa]
 rw[mS 35 16 (by omega) (by decide) (by decide) (by decide) (by decide)]
 simp only[M.aa]
 obtain⟨n,hn⟩:∃ n,n=(c%2147483647+u*7919+104729)*48271%2147483647:=⟨_,rfl⟩
 rw[←hn]
 have hn2:=g8 (a:=(c%2147483647+u*7919+104729)*48271) (m:=2147483647) (by decide)
 rw[←hn]at hn2
 rw[mS 31 31 (by omega) (by omega) (by decide) (by decide) (by decide),mS 17 10 (by decide) (by omega) (by decide) (by decide) (by decide)]
 simp only[M.aa]
 exact aJ (g8 (by decide))
theorem Ir{a b:M Bool}(h1:Sat a fun _=>True)(h2:Sat b fun _=>True):Sat (Vw.andM a b) fun _=>True:=by
 obtain⟨x,e1,_⟩:=h1
 obtain⟨y,e2,_⟩:=h2
 obtain⟨z,e⟩:=Kr ⟨x,e1⟩ ⟨y,e2⟩
 exact⟨z,e,trivial⟩
theorem rV{ns:List Int}{a b:Int}(hl:ns.length≤63)(ha:0≤a)(hb:0≤b)(hab:a+b≤1000):Sat (iG ns a b) fun _=>True:=by
 unfold iG
 have hcl:=uW (l:=ns) (lo:=none) (hi:=some 63)
 rw[oZ (by simp;omega),M.aa]
 obtain⟨cells,hcells⟩:∃ cells,cells=dg ns none (some 63)++[a]:=⟨_,rfl⟩
 rw[←hcells]
 have h1:0<cells.length:=by rw[hcells];simp
 have h2:cells.length≤64:=by rw[hcells];simp;omega
 rw[nz (F:=fun c=>c/100000) (fun _ _=>rfl) (fun _ _=>rfl) (by omega),M.aa,uL (by omega) (by omega),M.aa]
 refine ay (Ge (fun n (c:List Int×List Int)=>c.1.length=cells.length∧c.2.length≤n) ⟨by simp,Nat.le_refl _⟩ ?_) fun v _=>aJ trivial
 intro n c k hk hn hc
 have hk:=HK hk
 rw[List.length_map,List.length_range]at hn
 rw[jS (by omega),M.aa]
 have hat:=g8 (a:=k) (m:=(cells.length:Int)) (by omega)
 refine ay (ay (ay (fU (P:=fun _=>True) hat.1 hat.2 fun _ _=>trivial) fun v _=>aJ (P:=fun _=>True) trivial) fun z _=>fG (Hv hk.1 (by omega))) fun nu hnu=>?_
 rw[mS 31 31 (by omega) (by omega) (by decide) (by decide) (by decide),mS 3 10 (by decide) (by omega) (by decide) (by decide) (by decide)]
 simp only[M.aa]
 refine ay (P:=fun(j:List Int×Int)=>j.1.length=cells.length) ?_ fun j hj=>?_
 ·refine ay (Ir ?_ ?_) fun b _=>iP (fun _=>?_) fun _=>aJ hc.1
  ·refine ay (fU (P:=fun _=>True) hat.1 hat.2 fun _ _=>trivial) fun v _=>?_
   rw[Ht (by decide) (by decide) (by decide),M.aa]
   exact aJ trivial
  ·exact ay (fU (P:=fun _=>True) hat.1 (by rw[hc.1];exact hat.2) fun _ _=>trivial) fun v _=>aJ trivial
  ·refine ay (ay (fU (P:=fun _=>True) hat.1 (by rw[hc.1];exact hat.2) fun _ _=>trivial) fun v _=>aJ (P:=fun _=>True) trivial) fun v _=>?_
   refine ay (P:=fun(l:List Int)=>l.length=cells.length) ?_ fun l hl=>aJ hl
   refine ay (ay (fU (P:=fun _=>True) hat.1 (by rw[hc.1];exact hat.2) fun _ _=>trivial) fun v _=>aJ (P:=fun _=>True) trivial) fun v _=>?_
   rw[Ia hat.1 (by rw[hc.1];exact hat.2)]
   exact aJ (by simpa using hc.1)
 ·rw[oB (by omega),M.aa]
  exact aJ ⟨hj,by simp;omega⟩
abbrev Ws:Type:=List (List Nat)
inductive Qn where
 | word (f w:List Nat)
 | like (f p:List Nat)
 | row (f:List Nat) (ns:Ws)
 | near (f:List Nat) (w:Nat) (ns:Ws)
 | chain (f:List Nat) (w:Nat) (ns:Ws)
 | neg (q:Qn)
 | both (qs:List Qn)
 | one (qs:List Qn)
mutual
def eQ:Qn→D
 | .word f w=>.tup [.str (sS "word"),.str f,.str w]
 | .like f p=>.tup [.str (sS "like"),.str f,.str p]
 | .row f ns=>.tup [.str (sS "row"),.str f,eL D.str ns]
 | .near f w ns=>.tup [.str (sS "near"),.str f,.int w,eL D.str ns]
 | .chain f w ns=>.tup [.str (sS "chain"),.str f,.int w,eL D.str ns]
 | .neg q=>.tup [.str (sS "not"),eQ q]
 | .both qs=>.tup [.str (sS "both"),.lst (Bm qs)]
 | .one qs=>.tup [.str (sS "one"),.lst (Bm qs)]
def Bm:List Qn→List D
 | []=>[]
 | q::qs=>eQ q::Bm qs
end
theorem uM:∀ qs:List Qn,Bm qs=qs.map eQ
 | []=>by rw[Bm];rfl
 | q::qs=>by rw[Bm,uM qs];rfl
def AN:List Nat:=sS "abcdefghijklmnopqrstuvwxyz0123456789"
def jx:List Nat:=sS "abcdefghijklmnopqrstuvwxyz0123456789?*"
def FQ:Ws:=[sS "title",sS "body",sS "h",sS "*",sS "zz"]
def xE(u:List Nat):Prop:=1≤u.length∧u.length≤40∧∀ c∈u,c∈AN
def OZ(u:List Nat):Prop:=1≤u.length∧u.length≤40∧∀ c∈u,c∈jx
def uk(ns:Ws):Prop:=(∀ u∈ns,xE u)∧1≤ns.length∧ns.length≤6
def um:Qn→Prop
 | .word f w=>f∈FQ∧xE w
 | .like f p=>f∈FQ∧OZ p
 | .row f ns=>f∈FQ∧uk ns
 | .near f w ns=>f∈FQ∧uk ns∧1≤w∧w≤20
 | .chain f w ns=>f∈FQ∧uk ns∧1≤w∧w≤20
 | _=>False
def WQ:Nat→Qn→Prop
 | 0,q=>um q
 | k+1,q=>match q with
  | .neg q=>WQ k q
  | .both qs=>qs.length≤4∧∀ q∈qs,WQ k q
  | .one qs=>qs.length≤4∧∀ q∈qs,WQ k q
  | q=>um q
theorem L4:∀ c∈CH,c∈AN:=by decide+kernel
theorem L0:∀ c∈AN,c∈jx:=by decide+kernel
theorem KO{u:List Nat}(h:Wd u):xE u:=⟨List.length_pos_iff.mpr h.1,by have:=h.2.1;omega,fun c hc=>L4 c (h.2.2 c hc)⟩
theorem Oc:xE (sS "zz"):=⟨by decide,by decide,by decide+kernel⟩
theorem F9(t:List Nat)(n:Nat):(List.replicate n t).flatten.length=n*t.length:=by
 induction n with
 | zero=>simp
 | succ n ih=>rw[List.replicate_succ,List.flatten_cons,List.length_append,ih,Nat.succ_mul];omega
theorem kh{α:Type}(l:List α)(k:Nat):dg l (some (k:Int)) none=l.drop k:=by
 unfold dg
 rw[HT.sIx_nat]
 have e:HT.sIx l.length l.length none=l.length:=rfl
 rw[e]
 by_cases h:k≤l.length
 ·rw[Nat.min_eq_left h]
  exact List.take_of_length_le (by simp)
 ·rw[Nat.min_eq_right (by omega),List.drop_length,List.drop_eq_nil_of_le (by omega)]
  simp
def Q0(n:Nat)(t:List Nat):Prop:=t.length≤n∧∀ c∈t,c∈jx
def QP(t:List Nat):Prop:=1≤t.length∧Q0 40 t
theorem Mr:∀ c∈CH,c∈jx:=by decide+kernel
theorem Hr{n:Nat}{w:List Nat}{lo hi:Option Int}(hn:n≤40)(h:Q0 n w):Sat (bc w lo hi) (Q0 n):=by
 rw[dq (by have:=h.1;omega)]
 exact aJ ⟨Nat.le_trans uW h.1,fun c hc=>h.2 c (qM c hc)⟩
theorem xC{n m:Nat}{a b:List Nat}(hn:n+m≤80)(ha:Q0 n a)(hb:Q0 m b):Sat (aY a b) fun t=>Q0 (n+m) t∧t.length=a.length+b.length:=by
 have h1:=ha.1;have h2:=hb.1
 rw[aN (by omega)]
 refine aJ ⟨⟨by simp;omega,fun c hc=>?_⟩,by simp⟩
 rcases List.mem_append.mp hc with h | h
 ·exact ha.2 c h
 ·exact hb.2 c h
theorem oP:Q0 1 (sS "*")∧(sS "*").length=1:=⟨⟨by decide,by decide+kernel⟩,rfl⟩
theorem C2:Q0 1 (sS "?")∧(sS "?").length=1:=⟨⟨by decide,by decide+kernel⟩,rfl⟩
theorem qG{n:Nat}{t:List Nat}(h:Q0 n t)(h1:1≤t.length)(hn:n≤40):QP t:=⟨h1,by have:=h.1;omega,h.2⟩
theorem EV{w k:List Nat}{i:Int}(hi:0≤i)(hw:Q0 38 w)(hk:Q0 1 k)(hk1:k.length=1):Sat (((bc w (none:Option Int) (some i)).bind fun a22=>aY a22 k).bind fun a23=>(bc w (some (i+(1:Int))) (none:Option Int)).bind fun a24=>aY a23 a24) QP:=by
 have hl:∀ {lo hi:Option Int},(dg w lo hi).length≤38:=Nat.le_trans uW hw.1
 have hw1:=hw.1
 rw[dq (by omega),M.aa,aN (by have:=hl (lo:=none) (hi:=some i);omega),M.aa,dq (by omega),M.aa]
 have e:(dg w none (some i)).length+(dg w (some (i+1)) none).length≤39:=by
  obtain⟨j,rfl⟩:=Int.eq_ofNat_of_zero_le hi
  rw[Sh.jz,show((j:Int)+1)=((j+1:Nat):Int) by omega,kh]
  simp only[List.length_take,List.length_drop]
  omega
 rw[aN (by simp;omega)]
 refine aJ ⟨by simp;omega,by simp;omega,fun c hc=>?_⟩
 simp only[List.mem_append]at hc
 rcases hc with(h | h) | h
 ·exact hw.2 c (qM c h)
 ·exact hk.2 c h
 ·exact hw.2 c (qM c h)
theorem Mj:Q0 38 (sS "zz")∧(sS "zz")≠[]:=⟨⟨by decide,by decide+kernel⟩,by decide⟩
theorem B6{W:List (List Nat)}(hW:th W)(d:List Int):Sat (jj d W) fun r=>QP r.1:=by
 unfold jj
 refine ay (fG (mT d)) fun n _=>?_
 refine ay (P:=fun(w:List Nat)=>1≤w.length∧Q0 38 w) ?_ fun w hw=>?_
 ·have hWl:=hW.1
  rw[oZ (by simp;omega),M.aa,jS (by omega),M.aa]
  have hi:=g8 (a:=n.1) (m:=(W.length:Int)+1) (by omega)
  refine fU hi.1 (by simp;omega) fun u hu=>?_
  rcases List.mem_append.mp hu with h | h
  ·have h:=hW.2 u h
   exact⟨List.length_pos_iff.mpr h.1,h.2.1,fun c hc=>Mr c (h.2.2 c hc)⟩
  ·simp at h;rw[h];exact⟨by decide,Mj.1⟩
 obtain⟨hw1,hw⟩:=hw
 have hwl:=hw.1
 refine ay (P:=fun(i:Int)=>0≤i∧i<w.length) ?_ fun i hi=>?_
 ·rw[iT (by omega),M.aa,jS (by omega)]
  exact aJ (g8 (by omega))
 have hs1:=oP.2
 have ha1:=C2.2
 refine ay (P:=fun(l:List (List Nat))=>l.length=6∧∀ t∈l,QP t) ?_ fun l hl=>?_
 ·refine ay (P:=fun(z:List Nat×List Nat×List Nat×List Nat×Unit)=>QP z.1∧QP z.2.1∧QP z.2.2.1∧QP z.2.2.2.1) ?_ fun z hz=>aJ ⟨rfl,fun t ht=>?_⟩
  ·refine ay (P:=QP) (ay (Hr (by decide) hw) fun a ha=>oC (xC (by decide) ha oP.1) fun v hv=>qG hv.1 (by omega) (by decide)) fun a8 h8=>?_
   refine ay (P:=fun(z:List Nat×List Nat×List Nat×Unit)=>QP z.1∧QP z.2.1∧QP z.2.2.1) ?_ fun z hz=>aJ ⟨h8,hz⟩
   refine ay (P:=QP) (ay (Hr (by decide) hw) fun a ha=>oC (xC (by decide) oP.1 ha) fun v hv=>qG hv.1 (by omega) (by decide)) fun a10 h10=>?_
   refine ay (P:=fun(z:List Nat×List Nat×Unit)=>QP z.1∧QP z.2.1) ?_ fun z hz=>aJ ⟨h10,hz⟩
   refine ay (EV hi.1 hw C2.1 ha1) fun a14 h14=>?_
   refine ay (P:=fun(z:List Nat×Unit)=>QP z.1) ?_ fun z hz=>aJ ⟨h14,hz⟩
   refine ay (P:=QP) ?_ fun a15 h15=>aJ h15
   unfold oU
   have hk:(1+i).toNat≤38∧1≤(1+i).toNat:=by omega
   rw[g9 (decide_eq_true ⟨by omega,by omega,by rw[ha1];omega⟩),M.aa]
   have hlen:(List.replicate (1+i).toNat (sS "?")).flatten.length=(1+i).toNat:=by rw[F9,ha1];omega
   refine aJ ⟨by omega,by omega,fun c hc=>?_⟩
   obtain⟨u,hu,hcu⟩:=List.mem_flatten.mp hc
   rw[(List.mem_replicate.mp hu).2]at hcu
   exact C2.1.2 c hcu
  ·simp only[List.mem_cons,List.not_mem_nil,or_false]at ht
   rcases ht with rfl | rfl | rfl | rfl | rfl | rfl
   ·exact hz.1
   ·exact hz.2.1
   ·exact hz.2.2.1
   ·exact qG hw hw1 (by decide)
   ·exact qG oP.1 (by omega) (by decide)
   ·exact hz.2.2.2
 refine ay (P:=QP) ?_ fun t ht=>aJ ht
 refine ay (P:=fun(l:List (List Nat))=>l.length=8∧∀ t∈l,QP t) ?_ fun k hk=>?_
 ·refine ay (P:=fun(l:List (List Nat))=>l.length=2∧∀ t∈l,QP t) ?_ fun k hk=>?_
  ·refine ay (P:=fun(z:List Nat×List Nat×Unit)=>QP z.1∧QP z.2.1) ?_ fun z hz=>aJ ⟨rfl,fun t ht=>?_⟩
   ·refine ay (EV hi.1 hw oP.1 hs1) fun a25 h25=>?_
    refine ay (P:=fun(z:List Nat×Unit)=>QP z.1) ?_ fun z hz=>aJ ⟨h25,hz⟩
    refine ay (P:=QP) ?_ fun a28 h28=>aJ h28
    obtain⟨c,hc,e⟩:=EI (l:=w) hi.1 hi.2 (by omega)
    rw[e,M.aa]
    have hc1:Q0 1 [c]:=⟨by simp,fun x hx=>by rw[List.mem_singleton]at hx;rw[hx];exact hw.2 c hc⟩
    exact ay (xC (by decide) oP.1 hc1) fun a ha=>oC (xC (by decide) ha.1 oP.1) fun v hv=>qG hv.1 (by omega) (by decide)
   ·simp only[List.mem_cons,List.not_mem_nil,or_false]at ht
    rcases ht with rfl | rfl
    ·exact hz.1
    ·exact hz.2
  ·rw[oZ (by have:=hl.1;have:=hk.1;omega)]
   refine aJ ⟨by have:=hl.1;have:=hk.1;simp;omega,fun t ht=>?_⟩
   rcases List.mem_append.mp ht with h | h
   ·exact hl.2 t h
   ·exact hk.2 t h
 ·have h8:=g8 (a:=n.1/256) (m:=8) (by decide)
  exact fU h8.1 (by rw[hk.1];exact h8.2) hk.2
theorem oE{a b:Int}:(eqB a b=true)↔a=b:=by unfold eqB;exact decide_eq_true_iff
theorem Ey(d:List Int):Sat (lG d) fun v=>v.1∈FQ:=by
 unfold lG
 refine ay (P:=fun(v:List Nat×List Int)=>v.1∈FQ) (ay (ay (fG (mT d)) fun a _=>aJ (P:=fun(z:Int×List Int)=>0≤z.1∧z.1<6) (g8 (by decide))) fun z hz=>?_) fun v hv=>aJ hv
 exact ay (fU (P:=fun v=>v∈FQ) hz.1 (by simpa using hz.2) fun a ha=>by
  unfold FQ
  simp only[List.mem_cons,List.not_mem_nil,or_false]at ha ⊢
  rcases ha with h | h | h | h | h | h<;> simp[h]) fun v hv=>aJ (P:=fun(z:List Nat×List Int)=>z.1∈FQ) hv
theorem Fv{q:Qn}(h:um q):∀ k,WQ k q
 | 0=>h
 | k+1=>by cases q<;> first | exact h | exact h.elim
def GQ(k:Nat)(v:D):Prop:=∃ q,v=eQ q∧WQ k q
theorem oM{q:Qn}{k:Nat}(h:um q):GQ k (eQ q):=⟨q,rfl,Fv h k⟩
theorem Cp{k:Nat}:∀ l:List D,(∀ y∈l,GQ k y)→∃ qs:List Qn,l=qs.map eQ∧∀ q∈qs,WQ k q
 | [],_=>⟨[],rfl,fun q h=>by cases h⟩
 | y::l,h=>by
  obtain⟨q,e,hq⟩:=h y (by simp)
  obtain⟨qs,e2,h2⟩:=Cp l fun z hz=>h z (by simp[hz])
  refine⟨q::qs,by rw[e,e2];rfl,fun z hz=>?_⟩
  rcases List.mem_cons.mp hz with rfl | hz
  ·exact hq
  ·exact h2 z hz
theorem Ls{W:List (List Nat)}(hW:th W){w:List Nat}(h:w∈W++[sS "zz"]):xE w:=by
 rcases List.mem_append.mp h with h | h
 ·exact KO (hW.2 w h)
 ·rw[List.mem_singleton]at h;rw[h];exact Oc
theorem Dk{W:List (List Nat)}(hW:th W){ns:List (List Nat)}(h:(∀ u∈ns,u∈W)∧ns≠[]∧ns.length≤6):uk ns:=⟨fun u hu=>KO (hW.2 u (h.1 u hu)),List.length_pos_iff.mpr h.2.1,h.2.2⟩
theorem uj{W:List (List Nat)}(hW:th W):∀ (k:Nat) (deep:Int) (d:List Int),0≤deep→deep<k→deep≤3→Sat (gv k d W deep) fun v=>GQ deep.toNat v.1
 | 0,deep,d,h0,h1,h2=>by omega
 | k+1,deep,d,h0,h1,h2=>by
  have hWl:=hW.1
  unfold gv
  dsimp only
  refine ay (fG (mT d)) fun n _=>?_
  have h9:=g8 (a:=n.1) (m:=9) (by decide)
  have h5:=g8 (a:=n.1%9) (m:=5) (by decide)
  refine ay (P:=fun(j:Int)=>0≤j∧j<9∧(deep=0→j<5)) (iP (fun h=>aJ ⟨h5.1,by omega,fun _=>h5.2⟩) fun h=>aJ ⟨h9.1,h9.2,fun e=>absurd (oE.mpr e) h⟩) fun j hj=>?_
  have many:∀ d',Sat ((((cT [(4:Int),(6:Int)] ((n.1/(2000:Int))%(2:Int))).bind fun a14=>ic (n.1/(18:Int)) a14).bind fun a15=>M.ok ((1:Int)+a15)).bind fun kf=>((j3 0 kf).bind fun a22=>kL (fun(k17:Int) (c18:List Int)=>M.ok true) (fun k17 c18=>((nox (dy c18)).bind fun a19=>(cT [(2:Int),(W.length:Int)] ((n.1/(9:Int))%(2:Int))).bind fun a20=>(ic a19.1 a20).bind fun v=>M.ok (v,a19.2)).bind fun a21=>(cT W a21.1).bind fun v=>M.ok (v,a21.2)) a22 d')) fun(r:List (List Nat)×List Int)=>(∀ u∈r.1,u∈W)∧r.1≠[]∧r.1.length≤6:=fun d'=>by
   have i1:=g8 (a:=n.1/2000) (m:=2) (by decide)
   have i2:=g8 (a:=n.1/9) (m:=2) (by decide)
   refine ay (P:=fun(m:Int)=>1≤m∧m≤6) ?_ fun m hm=>?_
   ·refine ay (ay (fU (P:=fun v=>0<v∧v≤6) i1.1 (by simpa using i1.2) (by intro a ha;simp at ha;omega)) fun v hv=>?_) fun v hv=>aJ hv
    rw[jS hv.1]
    have:=g8 (a:=n.1/18) hv.1
    exact aJ (P:=fun x=>1≤1+x∧1+x≤6) (by omega)
   ·rw[uL (by omega) (by omega),M.aa]
    refine oC (zd (fun _=>True) (fun u=>u∈W) trivial (fun _ _ _=>rfl) (fun x hx c _=>?_) (by simp;omega)) fun v hv=>?_
    ·refine ay (P:=fun(z:Int×List Int)=>0≤z.1∧z.1<6) ?_ fun z hz=>?_
     ·refine ay (fG (mT _)) fun a _=>?_
      refine ay (fU (P:=fun v=>0<v∧v≤6) i2.1 (by simpa using i2.2) (by intro a ha;simp at ha;omega)) fun v hv=>?_
      rw[jS hv.1,M.aa]
      have:=g8 (a:=a.1) hv.1
      exact aJ (by dsimp only;omega)
     ·exact ay (fU (P:=fun u=>u∈W) hz.1 (by rw[hWl];omega) fun a ha=>ha) fun v hv=>aJ ⟨hv,trivial⟩
    ·have hu:=hv.2.1
     have hv:=hv.1
     rw[List.length_map,List.length_range]at hv
     exact⟨hu,fun e=>by rw[e]at hv;simp at hv;omega,by omega⟩
  refine iP (fun hj5=>?_) fun hj5=>?_
  ·have hj5:=of_decide_eq_true hj5
   refine ay (fG (Ey _)) fun f hf=>?_
   refine iP (fun _=>?_) fun hj0=>iP (fun _=>?_) fun hj1=>iP (fun _=>?_) fun h=>absurd (decide_eq_true hj5) h
   ·rw[oZ (by simp;omega),M.aa,jS (by omega),M.aa]
    have hi:=g8 (a:=n.1/9) (m:=(W.length:Int)+1) (by omega)
    refine ay (P:=GQ deep.toNat) (ay (P:=fun(z:D×Unit)=>∃ w,z.1=.str w∧w∈W++[sS "zz"]) (ay (P:=fun(z:D)=>∃ w,z=.str w∧w∈W++[sS "zz"]) (ay (fU (P:=fun w=>w∈W++[sS "zz"]) hi.1 (by simp;omega) fun a ha=>ha) fun v hv=>aJ ⟨v,rfl,hv⟩) fun v hv=>aJ hv) fun z hz=>?_) fun v hv=>aJ hv
    obtain⟨w,e,hw⟩:=hz
    rw[e]
    exact aJ (oM (q:=.word f.1 w) ⟨hf,Ls hW hw⟩)
   ·refine ay (P:=fun(v:D×List Int)=>GQ deep.toNat v.1) (ay (P:=fun(z:(D×List Int)×Unit)=>∃ w,z.1.1=.str w∧QP w) (ay (P:=fun(z:D×List Int)=>∃ w,z.1=.str w∧QP w) (ay (fG (B6 hW _)) fun v hv=>aJ ⟨_,rfl,hv⟩) fun v hv=>aJ hv) fun z hz=>?_) fun v hv=>aJ hv
    obtain⟨w,e,hw⟩:=hz
    refine aJ ?_
    show GQ _ (D.tup [_,_,z.1.1])
    rw[e]
    exact oM (q:=.like f.1 w) ⟨hf,hw⟩
   ·have hm:=many f.2
    rw[←M.bind_assoc]
    refine ay hm fun ws hws=>?_
    have hj0':j≠0:=fun e=>hj0 (oE.mpr e)
    have hj1':j≠1:=fun e=>hj1 (oE.mpr e)
    refine iP (fun _=>aJ (oM (q:=.row f.1 ws.1) ⟨hf,Dk hW hws⟩)) fun hj2=>?_
    have hj2':j≠2:=fun e=>hj2 (oE.mpr e)
    refine ay (P:=GQ deep.toNat) ?_ fun v hv=>aJ hv
    refine ay (P:=fun(z:D×D×Unit)=>(z.1=.str (sS "near")∨z.1=.str (sS "chain"))∧∃ w:Nat,z.2.1=.int (w:Int)∧w≤20∧1≤w) ?_ fun z hz=>?_
    ·refine ay (P:=fun(v:D)=>v=.str (sS "near")∨v=.str (sS "chain")) (ay (fU (P:=fun v=>v=sS "near"∨v=sS "chain") (i:=j- 3) (by omega) (by simp;omega) (by intro a ha;simpa using ha)) fun v hv=>aJ (by rcases hv with rfl | rfl<;> simp)) fun a ha=>?_
     refine ay (P:=fun(w:D×Unit)=>∃ k:Nat,w.1=.int (k:Int)∧k≤20∧1≤k) ?_ fun w hw=>aJ ⟨ha,hw⟩
     refine ay (P:=fun(w:D)=>∃ k:Nat,w=.int (k:Int)∧k≤20∧1≤k) ?_ fun w hw=>aJ hw
     refine ay (P:=fun(v:Int)=>1≤v∧v≤20) ?_ fun v hv=>aJ ⟨v.toNat,by rw[Int.toNat_of_nonneg (by omega)],by omega,by omega⟩
     refine ay (P:=fun(v:Int)=>0≤v∧v<20) ?_ fun v hv=>aJ (by omega)
     have i4:=g8 (a:=n.1/4000) (m:=2) (by decide)
     refine ay (fU (P:=fun v=>0<v∧v≤20) i4.1 (by simpa using i4.2) (by intro a ha;simp at ha;omega)) fun v hv=>?_
     rw[jS hv.1]
     have:=g8 (a:=n.1/72) hv.1
     exact aJ (by omega)
    ·obtain⟨hk,w,e,hw⟩:=hz
     refine aJ ?_
     rw[e]
     rcases hk with hk | hk
     ·rw[hk];exact oM (q:=.near f.1 w ws.1) ⟨hf,Dk hW hws,hw.2,hw.1⟩
     ·rw[hk];exact oM (q:=.chain f.1 w ws.1) ⟨hf,Dk hW hws,hw.2,hw.1⟩
  ·have hj5:¬ j<5:=fun h=>hj5 (decide_eq_true h)
   have hd1:1≤deep:=by
    by_cases e:deep=0
    ·exact absurd (hj.2.2 e) hj5
    ·omega
   have ed:deep.toNat=(deep- 1).toNat+1:=by omega
   have srec:=fun d'=>uj hW k (deep- 1) d' (by omega) (by omega) (by omega)
   refine iP (fun h=>absurd (oE.mp h) (by omega)) fun _=>iP (fun h=>absurd (oE.mp h) (by omega)) fun _=>iP (fun h=>absurd (of_decide_eq_true h) hj5) fun _=>iP (fun _=>?_) fun _=>?_
   ·refine ay (P:=fun(v:D×List Int)=>GQ deep.toNat v.1) (ay (P:=fun(z:(D×List Int)×Unit)=>GQ (deep- 1).toNat z.1.1) (ay (fG (srec _)) fun v hv=>aJ hv) fun z hz=>?_) fun v hv=>aJ hv
    obtain⟨q,e,hq⟩:=hz
    refine aJ ⟨.neg q,?_,?_⟩
    ·show D.tup [_,z.1.1]=_
     rw[e];rfl
    ·rw[ed];exact hq
   ·refine ay (P:=fun(r:List D×List Int)=>r.1.length≤4∧∀ y∈r.1,GQ (deep- 1).toNat y) ?_ fun v hv=>?_
    ·refine ay (P:=fun(l:List Int)=>l.length≤4) ?_ fun l hl=>?_
     ·refine ay (P:=fun(z:Int×Unit)=>0≤z.1∧z.1≤4) ?_ fun z hz=>?_
      ·refine ay (P:=fun(z:Int)=>0≤z∧z≤4) ?_ fun z hz=>aJ hz
       refine ay (fU (P:=fun v=>0<v∧v≤4) h0 (by simp;omega) (by intro a ha;simp at ha;omega)) fun v hv=>?_
       rw[jS hv.1]
       have:=g8 (a:=n.1/9) hv.1
       exact aJ (by omega)
      ·rw[uL (by omega) (by omega)]
       exact aJ (by simp;omega)
     ·exact oC (zd (fun _=>True) (GQ (deep- 1).toNat) trivial (fun _ _ _=>rfl) (fun x hx c _=>oC (fG (srec c)) fun _ h=>⟨h,trivial⟩) (by omega)) fun v hv=>⟨by have:=hv.1;omega,hv.2.1⟩
    ·have i2:=g8 (a:=j) (m:=2) (by decide)
     obtain⟨qs,eqs,hqs⟩:=Cp v.1 hv.2
     have hl:=hv.1
     rw[eqs,List.length_map]at hl
     refine ay (P:=GQ deep.toNat) (ay (P:=fun(z:D×Unit)=>z.1=.str (sS "both")∨z.1=.str (sS "one")) (ay (P:=fun(z:D)=>z=.str (sS "both")∨z=.str (sS "one")) (ay (fU (P:=fun v=>v=sS "both"∨v=sS "one") i2.1 (by simpa using i2.2) (by intro a ha;simpa using ha)) fun v hv=>aJ (by rcases hv with rfl | rfl<;> simp)) fun v hv=>aJ hv) fun z hz=>?_) fun v hv=>aJ hv
     refine aJ ?_
     have el:eL eY v.1=.lst (Bm qs):=by
      rw[uM,←eqs]
      show D.lst (v.1.map fun x=>x)=_
      rw[List.map_id']
     rw[el,ed]
     rcases hz with hz | hz
     ·rw[hz];exact⟨.both qs,rfl,hl,hqs⟩
     ·rw[hz];exact⟨.one qs,rfl,hl,hqs⟩
end K82
namespace K82
open PySem L2 PyProof.Rows Vw
def rs(P X:List Nat):List Nat×Int:=(P++X,(P.length:Int))
theorem JD(P t Y:List Nat):((P++(t++Y),(P.length:Int)+(t.length:Int)):List Nat×Int)=rs (P++t) Y:=by
 unfold rs;simp
theorem c7{T:Type}[DecidableEq T](a:T):eqB a a=true:=by unfold eqB;exact decide_eq_true rfl
theorem jL{T:Type}[DecidableEq T]{a b:T}(h:a≠b):eqB a b=false:=by unfold eqB;exact decide_eq_false h
theorem tR{P X t:List Nat}(h:P.length+X.length+t.length≤1000000):ax (rs P X) t=.ok (eqB (X.take t.length) t):=by
 unfold ax rs
 rw[iT (by omega)]
 simp only[M.aa]
 rw[dq (by simp;omega)]
 simp only[M.aa]
 rw[show(P.length:Int)+(t.length:Int)=((P.length+t.length:Nat):Int)from(Int.natCast_add ..).symm,oJ,Nat.add_sub_cancel_left,List.drop_left]
theorem Az{P t Y:List Nat}(h:P.length+(t++Y).length+t.length≤1000000):ax (rs P (t++Y)) t=.ok true:=by
 rw[tR h,List.take_left,c7]
theorem Fs{P X:List Nat}{c:Nat}(h:P.length+X.length≤999999)(hc:X.head? ≠some c):ax (rs P X) [c]=.ok false:=by
 rw[tR (by simp;omega)]
 cases X with
 | nil=>rfl
 | cons x X=>rw[jL (fun e=>hc (by simp at e;rw[e];rfl))]
theorem tQ(s:List Nat×Int):bD s true=.ok ():=rfl
theorem D7{P t Y:List Nat}(h:P.length+(t++Y).length+t.length≤1000000):av (rs P (t++Y)) t=.ok ((),rs (P++t) Y):=by
 unfold av
 rw[Az h]
 simp only[cg,M.aa]
 rw[tQ,M.aa,iT (by omega)]
 simp only[M.aa]
 rw[←JD]
 rfl
theorem AO{S:List Nat}:∀ (w P Y:List Nat) (n:Nat),(∀ c∈w,c∈S)→(∀ c,Y.head? =some c→c∉S)→w.length<n→P.length+w.length+Y.length≤1000000→
  lq (fun(c1:List Nat×Int)=>andM ((i9 c1.1).bind fun a2=>M.ok (decide (c1.2<a2))) ((fx c1.1 c1.2).bind fun a3=>M.ok (subIn a3 S))) (fun(c1:List Nat×Int)=>((M.ok (1:Int)).bind fun a4=>M.ok (c1.1,(c1.2+a4))).bind fun d5=>M.ok d5) n (rs P (w++Y))=.ok (rs (P++w) Y)
 | [],P,Y,0,h1,h2,h3,h4=>by omega
 | [],P,Y,n+1,h1,h2,h3,h4=>by
  rw[List.append_nil]
  refine CK ?_
  unfold rs
  dsimp only[List.nil_append]
  rw[iT (by simp at h4 ⊢;omega)]
  simp only[M.aa]
  cases Y with
  | nil=>
   rw[decide_eq_false (by simp)]
   rfl
  | cons c Y=>
   rw[decide_eq_true (by simp;omega)]
   simp only[cR,if_true]
   unfold fx
   rw[g9 (decide_eq_true (by simp at h4 ⊢;rw[zL];omega)),M.aa,Vw.atI_nat (by simp)]
   simp only[List.getElem_append_right,Nat.le_refl,Nat.sub_self,List.getElem_cons_zero,M.aa]
   rw[kE,decide_eq_false (h2 c rfl)]
 | c::w,P,Y,0,h1,h2,h3,h4=>by omega
 | c::w,P,Y,n+1,h1,h2,h3,h4=>by
  have hl:P.length+(c::w++Y).length≤1000000:=by simp at h4 ⊢;omega
  rw[BI (c':=rs (P++[c]) (w++Y)) ?_ ?_]
  ·rw[AO w (P++[c]) Y n (fun x hx=>h1 x (by simp[hx])) h2 (by simpa using h3) (by simp at h4 ⊢;omega)]
   rw[List.append_assoc]
   rfl
  ·unfold rs
   dsimp only
   rw[iT (by simp at hl ⊢;omega)]
   simp only[M.aa]
   rw[decide_eq_true (by simp;omega)]
   simp only[cR,if_true]
   unfold fx
   rw[g9 (decide_eq_true (by simp at hl ⊢;rw[zL];omega)),M.aa,Vw.atI_nat (by simp)]
   simp only[List.cons_append,List.getElem_append_right,Nat.le_refl,Nat.sub_self,List.getElem_cons_zero,M.aa]
   rw[kE,decide_eq_true (h1 c (by simp))]
  ·simp only[M.aa]
   unfold rs
   simp
end K82
namespace K82
open PySem L2 PyProof.Rows Vw
theorem HU:∀ w∈List.range 20,BC (gN (((w+1:Nat)):Int))=some (((w+1:Nat)):Int):=by decide+kernel
theorem K6:∀ w∈List.range 20,1≤(gN (((w+1:Nat)):Int)).length∧(gN (((w+1:Nat)):Int)).length≤2∧∀ c∈gN (((w+1:Nat)):Int),c∈AN:=by decide+kernel
theorem Nu{w:Nat}(h:1≤w∧w≤20):BC (gN (w:Int))=some (w:Int):=by
 have:=HU (w- 1) (List.mem_range.mpr (by omega))
 rwa[show w- 1+1=w by omega]at this
theorem yM{w:Nat}(h:1≤w∧w≤20):1≤(gN (w:Int)).length∧(gN (w:Int)).length≤2∧∀ c∈gN (w:Int),c∈AN:=by
 have:=K6 (w- 1) (List.mem_range.mpr (by omega))
 rwa[show w- 1+1=w by omega]at this
theorem t6:aY (sS "abcdefghijklmnopqrstuvwxyz") (sS "0123456789")=.ok AN:=by kernel_rfl
theorem I0:aY AN (sS "?*")=.ok jx:=by kernel_rfl
theorem JL:sS "\""=[34]:=by kernel_rfl
theorem Jq:sS "~"=[126]:=by kernel_rfl
theorem Oo:sS "<"=[60]:=by kernel_rfl
theorem Nk:sS ">"=[62]:=by kernel_rfl
theorem Nm:sS "["=[91]:=by kernel_rfl
theorem N8:sS "]"=[93]:=by kernel_rfl
theorem p7:sS " "=[32]:=by kernel_rfl
theorem yj:sS ":"=[58]:=by kernel_rfl
theorem Jw:sS "!"=[33]:=by kernel_rfl
theorem Fj:sS "("=[40]:=by kernel_rfl
theorem wt:sS ")"=[41]:=by kernel_rfl
theorem EX:sS "*"=[42]:=by kernel_rfl
theorem Jz:sS "?"=[63]:=by kernel_rfl
theorem Fp:sS "&"=[38]:=by kernel_rfl
theorem FZ:sS "|"=[124]:=by kernel_rfl
theorem Nl:sS "&|"=[38,124]:=by kernel_rfl
theorem G5:∀ c∈jx,c≠63→c≠42→c∈AN:=by decide+kernel
def jn(ns:Ws):List Nat:=TL.joinL [32] ns
def pZ(ns:Ws):List Nat:=ns.flatMap fun w=>32::w
theorem AQ(a:List Nat):∀ (u:List Nat) (r:Ws),TL.joinL a (u::r)=u++r.flatMap fun w=>a++w
 | u,[]=>by simp[TL.joinL]
 | u,v::r=>by
  rw[TL.joinL,AQ a v r,List.flatMap_cons]
  simp
theorem ym(u:List Nat)(r:Ws):jn (u::r)=u++pZ r:=AQ [32] u r
theorem yP:∀ r:Ws,(∀ u∈r,xE u)→(pZ r).length≤41*r.length
 | [],h=>by simp[pZ]
 | u::r,h=>by
  have h1:=yP r fun v hv=>h v (by simp[hv])
  have h2:=(h u (by simp)).2.1
  unfold pZ at h1 ⊢
  rw[List.flatMap_cons]
  simp at h1 ⊢
  omega
theorem qU{ns:Ws}(h:uk ns):(jn ns).length≤250:=by
 obtain⟨h1,h2,h3⟩:=h
 cases ns with
 | nil=>simp at h2
 | cons u r=>
  rw[ym,List.length_append]
  have:=yP r fun v hv=>h1 v (by simp[hv])
  have:=(h1 u (by simp)).2.1
  simp at h3
  omega
end K82
namespace K82
open PySem L2 PyProof.Rows Vw
def sf(p:List Nat):Bool:=decide (63∈p)||decide (42∈p)
def bd:Qn→List Nat
 | .word _ w=>w
 | .like _ p=>if sf p=true then p else 126::p
 | .row _ ns=>34::(jn ns++[34])
 | .near _ w ns=>gN (w:Int)++60::(jn ns++[62])
 | .chain _ w ns=>gN (w:Int)++91::(jn ns++[93])
 | _=>[]
def fieldOf:Qn→List Nat
 | .word f _=>f
 | .like f _=>f
 | .row f _=>f
 | .near f _ _=>f
 | .chain f _ _=>f
 | _=>[]
theorem I8:(j3 (1:Int) (21:Int)).bind (fun l24=>kr (fun(hJ:Int)=>M.ok true) (fun(hJ:Int)=>p9 hJ) l24)=.ok ((List.range 20).map fun i=>gN ((i+1:Nat):Int)):=by
 have e:j3 (1:Int) (21:Int)=.ok ((List.range 20).map fun(i:Nat)=>((i+1:Nat):Int)):=by kernel_rfl
 rw[e,M.aa,nz (F:=gN) (fun _ _=>rfl) (fun x hx=>?_) (by simp),List.map_map]
 ·rfl
 ·obtain⟨i,hi,rfl⟩:=List.mem_map.mp hx
  have hi:=List.mem_range.mp hi
  unfold p9
  have:(((i+1:Nat):Int)).natAbs.log2<1920:=by
   rw[Int.natAbs_natCast]
   exact Nat.lt_of_lt_of_le (Nat.log2_lt (by omega) |>.mpr (show i+1<2^10 by omega)) (by decide)
  rw[g9 (decide_eq_true this),M.aa]
theorem yE{T:Type}[DecidableEq T]{a:T}{l:List T}(h:a∈l):dc a l=true:=by unfold dc;exact decide_eq_true h
theorem Iy{w:Nat}(h:1≤w∧w≤20):uf (gN (w:Int))=.ok (w:Int):=by
 unfold uf
 rw[Nu h]
end K82
namespace K82
open PySem L2 PyProof.Rows Vw
def nr(sg:Nat):List (List Nat)→List Nat
 | []=>[sg]
 | [x]=>sg::32::x
 | x::y::r=>x++(y::r).flatMap fun w=>[32,sg,32]++w
mutual
def ln:Qn→List Nat
 | .word f w=>f++58::bd (.word f w)
 | .like f p=>f++58::bd (.like f p)
 | .row f ns=>f++58::bd (.row f ns)
 | .near f w ns=>f++58::bd (.near f w ns)
 | .chain f w ns=>f++58::bd (.chain f w ns)
 | .neg q=>33::ln q
 | .both qs=>40::(nr 38 (zG qs)++[41])
 | .one qs=>40::(nr 124 (zG qs)++[41])
def zG:List Qn→List (List Nat)
 | []=>[]
 | q::qs=>ln q::zG qs
end
theorem mG:∀ qs:List Qn,zG qs=qs.map ln
 | []=>by rw[zG];rfl
 | q::qs=>by rw[zG,mG qs];rfl
theorem wz{q:Qn}(h:um q):ln q=fieldOf q++58::bd q:=by
 cases q<;> first | (rw[ln];rfl) | exact h.elim
theorem wb{f:List Nat}(h:f∈FQ):f=[42]∨(1≤f.length∧f.length≤12∧∀ c∈f,c∈sS "abcdefghijklmnopqrstuvwxyz"):=by
 have:∀ f∈FQ,f=[42]∨(1≤f.length∧f.length≤12∧∀ c∈f,c∈sS "abcdefghijklmnopqrstuvwxyz"):=by decide+kernel
 exact this f h
theorem wx{q:Qn}(h:um q):fieldOf q∈FQ:=by
 cases q<;> first | exact h.1 | exact h.elim
theorem Jm:∀ c∈sS "abcdefghijklmnopqrstuvwxyz",c∈AN:=by decide+kernel
theorem Hx:i8 ([(sS "&",sS "both"),(sS "|",sS "one")]:List (List Nat×List Nat)) [38]=.ok (sS "both"):=by kernel_rfl
theorem HV:i8 ([(sS "&",sS "both"),(sS "|",sS "one")]:List (List Nat×List Nat)) [124]=.ok (sS "one"):=by kernel_rfl
theorem Hj(l:List D):eL eY l=.lst l:=by
 show D.lst (l.map fun x=>x)=_
 rw[List.map_id']
def zD(sg:Nat)(l:List (List Nat)):List Nat:=l.flatMap fun w=>[32,sg,32]++w
end K82
namespace K82
open PySem L2 PyProof.Rows Vw
theorem EU{q:Qn}(h:um q):(bd q).length≤260:=by
 cases q with
 | word f w=>have:=h.2.2.1;show w.length≤260;omega
 | like f p=>
  have:=h.2.2.1
  show(if sf p=true then p else 126::p).length≤260
  split
  ·omega
  ·simp;omega
 | row f ns=>have:=qU h.2;show(34::(jn ns++[34])).length≤260;simp;omega
 | near f w ns=>have:=qU h.2.1;have:=(yM h.2.2).2.1;show(gN (w:Int)++60::(jn ns++[62])).length≤260;simp;omega
 | chain f w ns=>have:=qU h.2.1;have:=(yM h.2.2).2.1;show(gN (w:Int)++91::(jn ns++[93])).length≤260;simp;omega
 | _=>exact h.elim
theorem lx{q:Qn}(h:um q):(ln q).length≤300:=by
 rw[wz h]
 have:=EU h
 have hf:(fieldOf q).length≤12:=by
  rcases wb (wx h)with e | ⟨_,h2,_⟩
  ·rw[e];decide
  ·exact h2
 simp
 omega
theorem uI{sg B:Nat}{l:List (List Nat)}(h:∀ x∈l,x.length≤B)(hn:l.length≤4):(nr sg l).length≤4*B+10:=by
 match l,h,hn with
 | [],h,hn=>simp[nr]
 | [a],h,hn=>have:=h a (by simp);simp[nr];omega
 | [a,b],h,hn=>have:=h a (by simp);have:=h b (by simp);simp[nr];omega
 | [a,b,c],h,hn=>have:=h a (by simp);have:=h b (by simp);have:=h c (by simp);simp[nr];omega
 | [a,b,c,d],h,hn=>have:=h a (by simp);have:=h b (by simp);have:=h c (by simp);have:=h d (by simp);simp[nr];omega
 | a::b::c::d::e::r,h,hn=>exact absurd hn (by simp)
theorem oQ:∀ (k:Nat) {q:Qn},WQ k q→(ln q).length≤300*5^k
 | 0,q,h=>by have:=lx h;omega
 | k+1,q,h=>by
  have hp:1≤5^k:=Nat.one_le_pow _ _ (by decide)
  have e5:300*5^(k+1)=300*5^k*5:=by rw[Nat.pow_succ,Nat.mul_assoc]
  rw[e5]
  cases q with
  | word f w=>have:=lx (q:=.word f w) h;omega
  | like f w=>have:=lx (q:=.like f w) h;omega
  | row f w=>have:=lx (q:=.row f w) h;omega
  | near f w n=>have:=lx (q:=.near f w n) h;omega
  | chain f w n=>have:=lx (q:=.chain f w n) h;omega
  | neg q=>have:=oQ k (q:=q) h;rw[ln];simp;omega
  | both qs=>
   rw[ln,mG]
   have:=uI (sg:=38) (B:=300*5^k) (l:=qs.map ln) (fun x hx=>by obtain⟨q,hq,rfl⟩:=List.mem_map.mp hx;exact oQ k (h.2 q hq)) (by rw[List.length_map];exact h.1)
   simp
   omega
  | one qs=>
   rw[ln,mG]
   have:=uI (sg:=124) (B:=300*5^k) (l:=qs.map ln) (fun x hx=>by obtain⟨q,hq,rfl⟩:=List.mem_map.mp hx;exact oQ k (h.2 q hq)) (by rw[List.length_map];exact h.1)
   simp
   omega
end K82
namespace K82
open PySem L2 PyProof.Rows Vw
theorem dD:eqB (sS "word") (sS "like")=false:=by kernel_rfl
theorem e9:eqB (sS "word") (sS "row")=false:=by kernel_rfl
theorem dS:eqB (sS "word") (sS "near")=false:=by kernel_rfl
theorem d7:eqB (sS "word") (sS "not")=false:=by kernel_rfl
theorem dF:eqB (sS "word") (sS "both")=false:=by kernel_rfl
theorem eG:eqB (sS "word") (sS "one")=false:=by kernel_rfl
theorem dE:eqB (sS "like") (sS "word")=false:=by kernel_rfl
theorem eM:eqB (sS "like") (sS "row")=false:=by kernel_rfl
theorem dN:eqB (sS "like") (sS "near")=false:=by kernel_rfl
theorem ee:eqB (sS "like") (sS "not")=false:=by kernel_rfl
theorem dH:eqB (sS "like") (sS "both")=false:=by kernel_rfl
theorem fh:eqB (sS "like") (sS "one")=false:=by kernel_rfl
theorem eK:eqB (sS "row") (sS "word")=false:=by kernel_rfl
theorem e6:eqB (sS "row") (sS "like")=false:=by kernel_rfl
theorem eJ:eqB (sS "row") (sS "near")=false:=by kernel_rfl
theorem fC:eqB (sS "row") (sS "not")=false:=by kernel_rfl
theorem eZ:eqB (sS "row") (sS "both")=false:=by kernel_rfl
theorem fX:eqB (sS "row") (sS "one")=false:=by kernel_rfl
theorem dO:eqB (sS "near") (sS "word")=false:=by kernel_rfl
theorem dR:eqB (sS "near") (sS "like")=false:=by kernel_rfl
theorem eR:eqB (sS "near") (sS "row")=false:=by kernel_rfl
theorem d9:eqB (sS "near") (sS "not")=false:=by kernel_rfl
theorem dC:eqB (sS "near") (sS "both")=false:=by kernel_rfl
theorem eI:eqB (sS "near") (sS "one")=false:=by kernel_rfl
theorem c9:eqB (sS "chain") (sS "word")=false:=by kernel_rfl
theorem da:eqB (sS "chain") (sS "like")=false:=by kernel_rfl
theorem dQ:eqB (sS "chain") (sS "row")=false:=by kernel_rfl
theorem df:eqB (sS "chain") (sS "near")=false:=by kernel_rfl
theorem dh:eqB (sS "chain") (sS "not")=false:=by kernel_rfl
theorem cX:eqB (sS "chain") (sS "both")=false:=by kernel_rfl
theorem dJ:eqB (sS "chain") (sS "one")=false:=by kernel_rfl
theorem e8:eqB (sS "not") (sS "word")=false:=by kernel_rfl
theorem eW:eqB (sS "not") (sS "like")=false:=by kernel_rfl
theorem f7:eqB (sS "not") (sS "row")=false:=by kernel_rfl
theorem eO:eqB (sS "not") (sS "near")=false:=by kernel_rfl
theorem eU:eqB (sS "not") (sS "both")=false:=by kernel_rfl
theorem fS:eqB (sS "not") (sS "one")=false:=by kernel_rfl
theorem dG:eqB (sS "both") (sS "word")=false:=by kernel_rfl
theorem dM:eqB (sS "both") (sS "like")=false:=by kernel_rfl
theorem eT:eqB (sS "both") (sS "row")=false:=by kernel_rfl
theorem dP:eqB (sS "both") (sS "near")=false:=by kernel_rfl
theorem eP:eqB (sS "both") (sS "not")=false:=by kernel_rfl
theorem e7:eqB (sS "both") (sS "one")=false:=by kernel_rfl
theorem fg:eqB (sS "one") (sS "word")=false:=by kernel_rfl
theorem eS:eqB (sS "one") (sS "like")=false:=by kernel_rfl
theorem fW:eqB (sS "one") (sS "row")=false:=by kernel_rfl
theorem eH:eqB (sS "one") (sS "near")=false:=by kernel_rfl
theorem fV:eqB (sS "one") (sS "not")=false:=by kernel_rfl
theorem eV:eqB (sS "one") (sS "both")=false:=by kernel_rfl
theorem gO:eqB (sS "word") (sS "word")=true:=c7 _
theorem gM:eqB (sS "like") (sS "like")=true:=c7 _
theorem iz:eqB (sS "row") (sS "row")=true:=c7 _
theorem gP:eqB (sS "near") (sS "near")=true:=c7 _
theorem g0:eqB (sS "not") (sS "not")=true:=c7 _
theorem gQ:eqB (sS "both") (sS "both")=true:=c7 _
theorem iA:eqB (sS "one") (sS "one")=true:=c7 _
theorem kx(t:List Nat):ig (.str t)=.ok t:=rfl
theorem mJ(t:Int):CV (.int t)=.ok t:=rfl
theorem uB:∀ l:List D,qj (fun d=>M.ok d) l=.ok l
 | []=>rfl
 | a::l=>by rw[qj,M.aa,uB l];rfl
theorem uP(ws:Ws):zH (fun d=>M.ok d) (eL D.str ws)=.ok (ws.map D.str):=uB _
theorem GL(l:List D):zH (fun d=>M.ok d) (.lst l)=.ok l:=uB l
theorem GA{w:Nat}(h:1≤w∧w≤20):p9 (w:Int)=.ok (gN (w:Int)):=by
 unfold p9
 have:((w:Int)).natAbs.log2<1920:=by
  rw[Int.natAbs_natCast]
  exact Nat.lt_of_lt_of_le (Nat.log2_lt (by omega) |>.mpr (show w<2^10 by omega)) (by decide)
 rw[g9 (decide_eq_true this),M.aa]
end K82
namespace K82
open PySem L2 PyProof.Rows Vw
theorem uV(F:List Nat→D→M (List Nat))(hF:∀ (c u:List Nat),c.length≤100000→u.length≤40→F c (.str u)=.ok (c++(32::u))):∀ (ns:Ws) (acc:List Nat),(∀ u∈ns,xE u)→acc.length+41*ns.length≤100000→foldM F acc (ns.map D.str)=.ok (acc++pZ ns)
 | [],acc,h,hl=>by simp[pZ]
 | u::r,acc,h,hl=>by
  have hu:=(h u (by simp)).2.1
  rw[List.map_cons,kj,hF acc u (by omega) hu,M.aa,uV F hF r _ (fun v hv=>h v (by simp[hv])) (by simp at hl ⊢;omega)]
  unfold pZ
  rw[List.flatMap_cons]
  simp
theorem FP{ns:Ws}(h:uk ns):(pZ ns).drop 1=jn ns:=by
 have h2:=h.2.1
 cases ns with
 | nil=>simp at h2
 | cons u r=>
  rw[ym]
  unfold pZ
  rw[List.flatMap_cons]
  simp
theorem FC{ns:Ws}(h:uk ns):(pZ ns).length≤246:=by
 have a:=yP ns h.1
 have b:=h.2.2
 omega
theorem AH{ns:Ws}(h:uk ns):bc (pZ ns) (some (1:Int)) (none:Option Int)=.ok (jn ns):=by
 have:=FC h
 have e:=kh (pZ ns) 1
 rw[dq (by omega),show(1:Int)=((1:Nat):Int)from rfl,e,FP h]
theorem Ef{n:Nat}(h:n<2):oU [32] (n:Int)=.ok (List.replicate n 32):=by
 have:n=0∨n=1:=by omega
 rcases this with e | e<;> subst e<;> kernel_rfl
theorem EA(F:List Nat→(Int×D)→M (List Nat))(sg:Nat)(B:Nat):∀ (qs:List Qn) (n:Nat) (c:List Nat),(∀ (c:List Nat) (i:Int) (q:Qn),q∈qs→c.length≤1000000→F c (i,eQ q)=.ok (if 0<i then c++([32,sg,32]++ln q)else c++ln q))→1≤n→(∀ q∈qs,(ln q).length≤B)→c.length+(B+3)*qs.length≤1000000→foldM F c ((qs.map eQ).mapIdx fun i x=>(((i+n:Nat):Int),x))=.ok (c++zD sg (qs.map ln))
 | [],n,c,hF,hn,hB,hl=>by simp[zD]
 | q::r,n,c,hF,hn,hB,hl=>by
  have hq:=hB q (by simp)
  have e:(B+3)*(q::r).length=(B+3)*r.length+(B+3):=by rw[List.length_cons,Nat.mul_succ]
  rw[e]at hl
  rw[List.map_cons,List.mapIdx_cons,kj,hF c _ q (by simp) (by omega),M.aa,if_pos (by omega)]
  have e2:(fun(i:Nat) (x:D)=>(((i+1+n:Nat):Int),x))=fun i x=>(((i+(n+1):Nat):Int),x):=by
   funext i x
   rw[show i+1+n=i+(n+1) by omega]
  rw[e2,EA F sg B r (n+1) _ (fun c i v hv=>hF c i v (by simp[hv])) (by omega) (fun v hv=>hB v (by simp[hv])) (by simp only[List.length_append,List.length_cons,List.length_nil]at hl ⊢;omega)]
  unfold zD
  rw[List.map_cons,List.flatMap_cons]
  simp
def jE(sg:Nat):List (List Nat)→List Nat
 | []=>[]
 | x::r=>x++zD sg r
theorem CP(F:List Nat→(Int×D)→M (List Nat))(sg:Nat)(B:Nat)(qs:List Qn)(c:List Nat)(hF:∀ (c:List Nat) (i:Int) (q:Qn),q∈qs→c.length≤1000000→F c (i,eQ q)=.ok (if 0<i then c++([32,sg,32]++ln q)else c++ln q))(hB:∀ q∈qs,(ln q).length≤B)(hl:c.length+(B+3)*qs.length≤1000000):foldM F c (rq (qs.map eQ))=.ok (c++jE sg (qs.map ln)):=by
 unfold rq
 cases qs with
 | nil=>simp[jE]
 | cons q r=>
  have hq:=hB q (by simp)
  have e:(B+3)*(q::r).length=(B+3)*r.length+(B+3):=by rw[List.length_cons,Nat.mul_succ]
  rw[e]at hl
  rw[List.map_cons,List.mapIdx_cons,kj,hF c _ q (by simp) (by omega),M.aa,if_neg (by simp)]
  rw[EA F sg B r 1 _ (fun c i v hv=>hF c i v (by simp[hv])) (by omega) (fun v hv=>hB v (by simp[hv])) (by simp only[List.length_append]at hl ⊢;omega)]
  unfold jE
  simp
theorem KW(sg:Nat):∀ qs:List Qn,qs.length<2→[40]++([sg]++List.replicate qs.length 32)++jE sg (qs.map ln)++[41]=40::(nr sg (qs.map ln)++[41])
 | [],_=>rfl
 | [a],_=>by simp[jE,zD,nr]
 | a::b::r,h2=>by simp only[List.length_cons]at h2;omega
theorem IV(sg:Nat):∀ qs:List Qn,¬ qs.length<2→[40]++jE sg (qs.map ln)++[41]=40::(nr sg (qs.map ln)++[41])
 | [],h2=>by simp at h2
 | [a],h2=>by simp at h2
 | a::b::r,_=>by simp[jE,zD,nr]
theorem K9(sg:Nat):∀ qs:List Qn,(nr sg (qs.map ln)).length≤400000→(jE sg (qs.map ln)).length≤400000
 | [],_=>by simp[jE]
 | [a],this=>by simp[jE,nr,zD]at this ⊢;omega
 | a::b::r,this=>by simp[jE,nr,zD]at this ⊢;omega
theorem jN{q:Qn}(h:um q)(j:Nat):cO (j+1) (eQ q)=.ok (ln q):=by
 have hb:=EU h
 have hf:(fieldOf q).length≤12:=by
  rcases wb (wx h)with e | ⟨_,h2,_⟩
  ·rw[e];decide
  ·exact h2
 rw[wz h]
 unfold cO
 dsimp only
 cases q with
 | word f w=>
  have k0:bP (eQ (.word f w)) (0:Int)=.ok (.str (sS "word")):=rfl
  have k1:bP (eQ (.word f w)) (1:Int)=.ok (.str f):=rfl
  have hf:f.length≤12:=hf
  have k2:bP (eQ (.word f w)) (2:Int)=.ok (.str w):=rfl
  have hw:=h.2.2.1
  simp only[k0,k1,k2,M.aa,cg,kx,mJ,if_true,if_false,Bool.false_eq_true,Bool.not_true,Bool.not_false,cR,d4,dD,e9,dS,d7,dF,eG,dE,eM,dN,ee,dH,fh,eK,e6,eJ,fC,eZ,fX,dO,dR,eR,d9,dC,eI,c9,da,dQ,df,dh,cX,dJ,e8,eW,f7,eO,eU,fS,dG,dM,eT,dP,eP,e7,fg,eS,fW,eH,fV,eV,gO,gM,iz,gP,g0,gQ,iA]
  rw[yj,aN (by simp;omega),M.aa]
  try simp only[k0,k1,k2,M.aa,cg,kx,mJ,if_true,if_false,Bool.false_eq_true,Bool.not_true,Bool.not_false,cR,d4,dD,e9,dS,d7,dF,eG,dE,eM,dN,ee,dH,fh,eK,e6,eJ,fC,eZ,fX,dO,dR,eR,d9,dC,eI,c9,da,dQ,df,dh,cX,dJ,e8,eW,f7,eO,eU,fS,dG,dM,eT,dP,eP,e7,fg,eS,fW,eH,fV,eV,gO,gM,iz,gP,g0,gQ,iA]
  rw[aN (by simp;omega)]
  show M.ok (f++[58]++_)=M.ok (f++58::_)
  simp[bd]
 | like f p=>
  have k0:bP (eQ (.like f p)) (0:Int)=.ok (.str (sS "like")):=rfl
  have k1:bP (eQ (.like f p)) (1:Int)=.ok (.str f):=rfl
  have hf:f.length≤12:=hf
  have k2:bP (eQ (.like f p)) (2:Int)=.ok (.str p):=rfl
  have hp:=h.2.2.1
  simp only[k0,k1,k2,M.aa,cg,kx,mJ,if_true,if_false,Bool.false_eq_true,Bool.not_true,Bool.not_false,cR,d4,dD,e9,dS,d7,dF,eG,dE,eM,dN,ee,dH,fh,eK,e6,eJ,fC,eZ,fX,dO,dR,eR,d9,dC,eI,c9,da,dQ,df,dh,cX,dJ,e8,eW,f7,eO,eU,fS,dG,dM,eT,dP,eP,e7,fg,eS,fW,eH,fV,eV,gO,gM,iz,gP,g0,gQ,iA]
  rw[yj,aN (by simp;omega),M.aa]
  try simp only[k0,k1,k2,M.aa,cg,kx,mJ,if_true,if_false,Bool.false_eq_true,Bool.not_true,Bool.not_false,cR,d4,dD,e9,dS,d7,dF,eG,dE,eM,dN,ee,dH,fh,eK,e6,eJ,fC,eZ,fX,dO,dR,eR,d9,dC,eI,c9,da,dQ,df,dh,cX,dJ,e8,eW,f7,eO,eU,fS,dG,dM,eT,dP,eP,e7,fg,eS,fW,eH,fV,eV,gO,gM,iz,gP,g0,gQ,iA]
  rw[Jz,EX,Jq,kE,kE]
  have e1:oU [126] (1:Int)=.ok [126]:=rfl
  have e0:oU [126] (0:Int)=.ok []:=rfl
  by_cases hw:sf p=true
  ·have hz:(if(!decide (63∈p))=true then M.ok (!decide (42∈p))else M.ok false)=M.ok false:=by
    unfold sf at hw
    by_cases h1:63∈p
    ·simp[h1]
    ·simp[h1]at hw;simp[h1,hw]
   rw[hz]
   simp only[M.aa,Bool.false_eq_true,if_false]
   rw[e0,M.aa,aN (by simp;omega),M.aa,aN (by simp;omega)]
   show M.ok _=M.ok (f++58::(if sf p=true then p else 126::p))
   rw[if_pos hw]
   simp
  ·have hz:(if(!decide (63∈p))=true then M.ok (!decide (42∈p))else M.ok false)=M.ok true:=by
    unfold sf at hw
    simp at hw
    simp[hw.1,hw.2]
   rw[hz]
   simp only[M.aa,if_true]
   rw[e1,M.aa,aN (by simp;omega),M.aa,aN (by simp;omega)]
   show M.ok _=M.ok (f++58::(if sf p=true then p else 126::p))
   rw[if_neg hw]
   simp
 | row f ns=>
  have k0:bP (eQ (.row f ns)) (0:Int)=.ok (.str (sS "row")):=rfl
  have k1:bP (eQ (.row f ns)) (1:Int)=.ok (.str f):=rfl
  have hf:f.length≤12:=hf
  have hn:uk ns:=h.2
  have hj:=qU hn
  have k3:bP (eQ (.row f ns)) (-(1:Int))=.ok (eL D.str ns):=rfl
  simp only[k0,k1,k3,M.aa,cg,kx,mJ,if_true,if_false,Bool.false_eq_true,Bool.not_true,Bool.not_false,cR,d4,dD,e9,dS,d7,dF,eG,dE,eM,dN,ee,dH,fh,eK,e6,eJ,fC,eZ,fX,dO,dR,eR,d9,dC,eI,c9,da,dQ,df,dh,cX,dJ,e8,eW,f7,eO,eU,fS,dG,dM,eT,dP,eP,e7,fg,eS,fW,eH,fV,eV,gO,gM,iz,gP,g0,gQ,iA,uP]
  rw[yj,aN (by simp;omega),M.aa]
  try simp only[k0,k1,k3,M.aa,cg,kx,mJ,if_true,if_false,Bool.false_eq_true,Bool.not_true,Bool.not_false,cR,d4,dD,e9,dS,d7,dF,eG,dE,eM,dN,ee,dH,fh,eK,e6,eJ,fC,eZ,fX,dO,dR,eR,d9,dC,eI,c9,da,dQ,df,dh,cX,dJ,e8,eW,f7,eO,eU,fS,dG,dM,eT,dP,eP,e7,fg,eS,fW,eH,fV,eV,gO,gM,iz,gP,g0,gQ,iA,uP]
  rw[show sS ""=[]from by kernel_rfl,uV _ (fun c u hc hu=>by
   rw[p7,aN (by simp;omega),M.aa,kx,M.aa,aN (by simp;omega)]
   simp) ns _ hn.1 (by have:=hn.2.2;simp;omega),M.aa]
  rw[List.nil_append]
  simp only[AH hn,M.aa]
  rw[JL,aN (by simp;omega),M.aa,aN (by simp;omega),M.aa,aN (by simp;omega)]
  show M.ok _=M.ok (f++58::(34::(jn ns++[34])))
  simp
 | near f w ns=>
  have k0:bP (eQ (.near f w ns)) (0:Int)=.ok (.str (sS "near")):=rfl
  have k1:bP (eQ (.near f w ns)) (1:Int)=.ok (.str f):=rfl
  have hf:f.length≤12:=hf
  have hn:uk ns:=h.2.1
  have hj:=qU hn
  have k3:bP (eQ (.near f w ns)) (-(1:Int))=.ok (eL D.str ns):=rfl
  have k2:bP (eQ (.near f w ns)) (2:Int)=.ok (.int w):=rfl
  have hw:=h.2.2
  have hd:=(yM hw).2.1
  simp only[k0,k1,k2,k3,M.aa,cg,kx,mJ,if_true,if_false,Bool.false_eq_true,Bool.not_true,Bool.not_false,cR,d4,dD,e9,dS,d7,dF,eG,dE,eM,dN,ee,dH,fh,eK,e6,eJ,fC,eZ,fX,dO,dR,eR,d9,dC,eI,c9,da,dQ,df,dh,cX,dJ,e8,eW,f7,eO,eU,fS,dG,dM,eT,dP,eP,e7,fg,eS,fW,eH,fV,eV,gO,gM,iz,gP,g0,gQ,iA,uP]
  rw[yj,aN (by simp;omega),M.aa]
  try simp only[k0,k1,k2,k3,M.aa,cg,kx,mJ,if_true,if_false,Bool.false_eq_true,Bool.not_true,Bool.not_false,cR,d4,dD,e9,dS,d7,dF,eG,dE,eM,dN,ee,dH,fh,eK,e6,eJ,fC,eZ,fX,dO,dR,eR,d9,dC,eI,c9,da,dQ,df,dh,cX,dJ,e8,eW,f7,eO,eU,fS,dG,dM,eT,dP,eP,e7,fg,eS,fW,eH,fV,eV,gO,gM,iz,gP,g0,gQ,iA,uP]
  rw[show sS ""=[]from by kernel_rfl,uV _ (fun c u hc hu=>by
   rw[p7,aN (by simp;omega),M.aa,kx,M.aa,aN (by simp;omega)]
   simp) ns _ hn.1 (by have:=hn.2.2;simp;omega),M.aa]
  rw[List.nil_append]
  simp only[AH hn,M.aa]
  try simp only[GA hw,M.aa]
  rw[show cT [(sS "[]"),(sS "<>")] (1:Int)=.ok (sS "<>")from rfl]
  simp only[M.aa,show fx (sS "<>") (0:Int)=.ok [60]from by kernel_rfl,show fx (sS "<>") (1:Int)=.ok [62]from by kernel_rfl]
  rw[aN (by simp;omega),M.aa,aN (by simp;omega),M.aa,aN (by simp;omega),M.aa,aN (by simp;omega)]
  show M.ok _=M.ok (f++58::(gN (w:Int)++60::(jn ns++[62])))
  simp
 | chain f w ns=>
  have k0:bP (eQ (.chain f w ns)) (0:Int)=.ok (.str (sS "chain")):=rfl
  have k1:bP (eQ (.chain f w ns)) (1:Int)=.ok (.str f):=rfl
  have hf:f.length≤12:=hf
  have hn:uk ns:=h.2.1
  have hj:=qU hn
  have k3:bP (eQ (.chain f w ns)) (-(1:Int))=.ok (eL D.str ns):=rfl
  have k2:bP (eQ (.chain f w ns)) (2:Int)=.ok (.int w):=rfl
  have hw:=h.2.2
  have hd:=(yM hw).2.1
  simp only[k0,k1,k2,k3,M.aa,cg,kx,mJ,if_true,if_false,Bool.false_eq_true,Bool.not_true,Bool.not_false,cR,d4,dD,e9,dS,d7,dF,eG,dE,eM,dN,ee,dH,fh,eK,e6,eJ,fC,eZ,fX,dO,dR,eR,d9,dC,eI,c9,da,dQ,df,dh,cX,dJ,e8,eW,f7,eO,eU,fS,dG,dM,eT,dP,eP,e7,fg,eS,fW,eH,fV,eV,gO,gM,iz,gP,g0,gQ,iA,uP]
  rw[yj,aN (by simp;omega),M.aa]
  try simp only[k0,k1,k2,k3,M.aa,cg,kx,mJ,if_true,if_false,Bool.false_eq_true,Bool.not_true,Bool.not_false,cR,d4,dD,e9,dS,d7,dF,eG,dE,eM,dN,ee,dH,fh,eK,e6,eJ,fC,eZ,fX,dO,dR,eR,d9,dC,eI,c9,da,dQ,df,dh,cX,dJ,e8,eW,f7,eO,eU,fS,dG,dM,eT,dP,eP,e7,fg,eS,fW,eH,fV,eV,gO,gM,iz,gP,g0,gQ,iA,uP]
  rw[show sS ""=[]from by kernel_rfl,uV _ (fun c u hc hu=>by
   rw[p7,aN (by simp;omega),M.aa,kx,M.aa,aN (by simp;omega)]
   simp) ns _ hn.1 (by have:=hn.2.2;simp;omega),M.aa]
  rw[List.nil_append]
  simp only[AH hn,M.aa]
  try simp only[GA hw,M.aa]
  rw[show cT [(sS "[]"),(sS "<>")] (0:Int)=.ok (sS "[]")from rfl]
  simp only[M.aa,show fx (sS "[]") (0:Int)=.ok [91]from by kernel_rfl,show fx (sS "[]") (1:Int)=.ok [93]from by kernel_rfl]
  rw[aN (by simp;omega),M.aa,aN (by simp;omega),M.aa,aN (by simp;omega),M.aa,aN (by simp;omega)]
  show M.ok _=M.ok (f++58::(gN (w:Int)++91::(jn ns++[93])))
  simp
 | neg q=>exact h.elim
 | both qs=>exact h.elim
 | one qs=>exact h.elim
theorem rY:∀ (k:Nat) {q:Qn},WQ k q→∀ j,k≤2→cO (k+j+1) (eQ q)=.ok (ln q)
 | 0,q,h,j,hk=>jN h _
 | k+1,q,h,j,hk=>by
  cases q with
  | word f w=>exact jN (q:=.word f w) h _
  | like f p=>exact jN (q:=.like f p) h _
  | row f ns=>exact jN (q:=.row f ns) h _
  | near f w ns=>exact jN (q:=.near f w ns) h _
  | chain f w ns=>exact jN (q:=.chain f w ns) h _
  | neg q=>
   have hB:300*5^k≤90000:=by have:5^k≤5^2:=Nat.pow_le_pow_right (by decide) (by omega);omega
   have hq:=oQ k (q:=q) h
   have ih:=rY k (q:=q) h j (by omega)
   have k0:bP (eQ (.neg q)) (0:Int)=.ok (.str (sS "not")):=by rw[eQ];rfl
   have k1:bP (eQ (.neg q)) (1:Int)=.ok (eQ q):=by rw[eQ];rfl
   rw[ln]
   unfold cO
   dsimp only
   simp only[k0,k1,M.aa,cg,kx,mJ,if_true,if_false,Bool.false_eq_true,Bool.not_true,Bool.not_false,cR,d4,dD,e9,dS,d7,dF,eG,dE,eM,dN,ee,dH,fh,eK,e6,eJ,fC,eZ,fX,dO,dR,eR,d9,dC,eI,c9,da,dQ,df,dh,cX,dJ,e8,eW,f7,eO,eU,fS,dG,dM,eT,dP,eP,e7,fg,eS,fW,eH,fV,eV,gO,gM,iz,gP,g0,gQ,iA]
   rw[show k+1+j=k+j+1 by omega,ih,cg,M.aa,Jw,aN (by simp;omega),M.aa]
   rfl
  | both qs=>
   have hB:300*5^k≤90000:=by have:5^k≤5^2:=Nat.pow_le_pow_right (by decide) (by omega);omega
   have hx:∀ q∈qs,(ln q).length≤300*5^k:=fun q hq=>oQ k (h.2 q hq)
   have ih:∀ q∈qs,cO (k+j+1) (eQ q)=.ok (ln q):=fun q hq=>rY k (h.2 q hq) j (by omega)
   have k0:bP (eQ (.both qs)) (0:Int)=.ok (.str (sS "both")):=by rw[eQ];rfl
   have k1:bP (eQ (.both qs)) (1:Int)=.ok (.lst (qs.map eQ)):=by rw[eQ,uM];rfl
   have kl:AK (.lst (qs.map eQ))=.ok (qs.length:Int):=by show M.ok _=_;rw[List.length_map]
   have hn:=h.1
   rw[ln,mG]
   unfold cO
   dsimp only
   simp only[k0,k1,kl,M.aa,cg,kx,mJ,if_true,if_false,Bool.false_eq_true,Bool.not_true,Bool.not_false,cR,d4,dD,e9,dS,d7,dF,eG,dE,eM,dN,ee,dH,fh,eK,e6,eJ,fC,eZ,fX,dO,dR,eR,d9,dC,eI,c9,da,dQ,df,dh,cX,dJ,e8,eW,f7,eO,eU,fS,dG,dM,eT,dP,eP,e7,fg,eS,fW,eH,fV,eV,gO,gM,iz,gP,g0,gQ,iA,GL]
   rw[show cT [(sS "|"),(sS "&")] (1:Int)=.ok (sS "&")from rfl]
   simp only[M.aa]
   have hm:(300*5^k+3)*qs.length≤90003*4:=Nat.mul_le_mul (by omega) hn
   have fold:∀ (F:List Nat→(Int×D)→M (List Nat)) (c:List Nat),c.length≤10→(∀ (c:List Nat) (i:Int) (q:Qn),q∈qs→c.length≤1000000→F c (i,eQ q)=.ok (if 0<i then c++([32,38,32]++ln q)else c++ln q))→foldM F c (rq (qs.map eQ))=.ok (c++jE 38 (qs.map ln)):=fun F c hc hF=>CP F 38 (300*5^k) qs c hF hx (by omega)
   have step:∀ (c:List Nat) (i:Int) (q:Qn),q∈qs→c.length≤1000000→((if(decide ((0:Int)<i))=true then((((aY c [32]).bind fun a44=>aY a44 [38]).bind fun a45=>aY a45 [32]).bind fun kI=>M.ok kI)else(M.ok c)).bind fun j43=>((nox (cO (k+1+j) (eQ q))).bind fun a47=>aY j43 a47).bind fun kJ=>M.ok kJ)=.ok (if 0<i then c++([32,38,32]++ln q)else c++ln q):=fun c i q hq hc=>by
    have hlq:=hx q hq
    rw[show k+1+j=k+j+1 by omega,ih q hq]
    by_cases hi:0<i
    ·rw[if_pos (decide_eq_true hi),if_pos hi,aN (by simp;omega),M.aa,aN (by simp;omega),M.aa,aN (by simp;omega),M.aa,M.aa,cg,M.aa,aN (by simp;omega),M.aa]
     simp
    ·rw[if_neg (by simp;omega),if_neg hi,M.aa,cg,M.aa,aN (by omega),M.aa]
   rw[Fp,Fj,wt,p7]
   have blen:(jE 38 (qs.map ln)).length≤400000:=by
    have:=uI (sg:=38) (l:=qs.map ln) (B:=300*5^k) (fun x hx'=>by obtain⟨q,hq,rfl⟩:=List.mem_map.mp hx';exact hx q hq) (by rw[List.length_map];exact hn)
    exact K9 38 qs (Nat.le_trans this (by omega))
   by_cases h2:qs.length<2
   ·rw[if_pos (decide_eq_true (by omega)),aN (by simp),M.aa]
    have em:=Ef h2
    rw[em,M.aa,aN (by simp;omega)]
    simp only[M.aa]
    rw[fold _ _ (by simp;omega) step,M.aa,aN (by simp;omega)]
    exact congrArg M.ok (KW 38 qs h2)
   ·rw[if_neg (by simp;omega)]
    simp only[M.aa]
    rw[fold _ _ (by simp) step,M.aa,aN (by simp;omega)]
    exact congrArg M.ok (IV 38 qs h2)
  | one qs=>
   have hB:300*5^k≤90000:=by have:5^k≤5^2:=Nat.pow_le_pow_right (by decide) (by omega);omega
   have hx:∀ q∈qs,(ln q).length≤300*5^k:=fun q hq=>oQ k (h.2 q hq)
   have ih:∀ q∈qs,cO (k+j+1) (eQ q)=.ok (ln q):=fun q hq=>rY k (h.2 q hq) j (by omega)
   have k0:bP (eQ (.one qs)) (0:Int)=.ok (.str (sS "one")):=by rw[eQ];rfl
   have k1:bP (eQ (.one qs)) (1:Int)=.ok (.lst (qs.map eQ)):=by rw[eQ,uM];rfl
   have kl:AK (.lst (qs.map eQ))=.ok (qs.length:Int):=by show M.ok _=_;rw[List.length_map]
   have hn:=h.1
   rw[ln,mG]
   unfold cO
   dsimp only
   simp only[k0,k1,kl,M.aa,cg,kx,mJ,if_true,if_false,Bool.false_eq_true,Bool.not_true,Bool.not_false,cR,d4,dD,e9,dS,d7,dF,eG,dE,eM,dN,ee,dH,fh,eK,e6,eJ,fC,eZ,fX,dO,dR,eR,d9,dC,eI,c9,da,dQ,df,dh,cX,dJ,e8,eW,f7,eO,eU,fS,dG,dM,eT,dP,eP,e7,fg,eS,fW,eH,fV,eV,gO,gM,iz,gP,g0,gQ,iA,GL]
   rw[show cT [(sS "|"),(sS "&")] (0:Int)=.ok (sS "|")from rfl]
   simp only[M.aa]
   have hm:(300*5^k+3)*qs.length≤90003*4:=Nat.mul_le_mul (by omega) hn
   have fold:∀ (F:List Nat→(Int×D)→M (List Nat)) (c:List Nat),c.length≤10→(∀ (c:List Nat) (i:Int) (q:Qn),q∈qs→c.length≤1000000→F c (i,eQ q)=.ok (if 0<i then c++([32,124,32]++ln q)else c++ln q))→foldM F c (rq (qs.map eQ))=.ok (c++jE 124 (qs.map ln)):=fun F c hc hF=>CP F 124 (300*5^k) qs c hF hx (by omega)
   have step:∀ (c:List Nat) (i:Int) (q:Qn),q∈qs→c.length≤1000000→((if(decide ((0:Int)<i))=true then((((aY c [32]).bind fun a44=>aY a44 [124]).bind fun a45=>aY a45 [32]).bind fun kI=>M.ok kI)else(M.ok c)).bind fun j43=>((nox (cO (k+1+j) (eQ q))).bind fun a47=>aY j43 a47).bind fun kJ=>M.ok kJ)=.ok (if 0<i then c++([32,124,32]++ln q)else c++ln q):=fun c i q hq hc=>by
    have hlq:=hx q hq
    rw[show k+1+j=k+j+1 by omega,ih q hq]
    by_cases hi:0<i
    ·rw[if_pos (decide_eq_true hi),if_pos hi,aN (by simp;omega),M.aa,aN (by simp;omega),M.aa,aN (by simp;omega),M.aa,M.aa,cg,M.aa,aN (by simp;omega),M.aa]
     simp
    ·rw[if_neg (by simp;omega),if_neg hi,M.aa,cg,M.aa,aN (by omega),M.aa]
   rw[FZ,Fj,wt,p7]
   have blen:(jE 124 (qs.map ln)).length≤400000:=by
    have:=uI (sg:=124) (l:=qs.map ln) (B:=300*5^k) (fun x hx'=>by obtain⟨q,hq,rfl⟩:=List.mem_map.mp hx';exact hx q hq) (by rw[List.length_map];exact hn)
    exact K9 124 qs (Nat.le_trans this (by omega))
   by_cases h2:qs.length<2
   ·rw[if_pos (decide_eq_true (by omega)),aN (by simp),M.aa]
    have em:=Ef h2
    rw[em,M.aa,aN (by simp;omega)]
    simp only[M.aa]
    rw[fold _ _ (by simp;omega) step,M.aa,aN (by simp;omega)]
    exact congrArg M.ok (KW 124 qs h2)
   ·rw[if_neg (by simp;omega)]
    simp only[M.aa]
    rw[fold _ _ (by simp) step,M.aa,aN (by simp;omega)]
    exact congrArg M.ok (IV 124 qs h2)
end K82
namespace K82
open PySem L2 PyProof.Rows Vw
theorem AL{S L:List Nat}:∀ (w P Y:List Nat) (n:Nat),L=P++(w++Y)→(∀ c∈w,c∈S)→(∀ c,Y.head? =some c→c∉S)→w.length<n→L.length≤1000000→
  lq (fun(c1:Int)=>andM ((i9 L).bind fun a2=>M.ok (decide (c1<a2))) ((fx L c1).bind fun a3=>M.ok (subIn a3 S))) (fun(c1:Int)=>M.ok (c1+(1:Int))) n (P.length:Int)=.ok (((P++w).length:Nat):Int)
 | w,P,Y,0,_,h1,h2,h3,h4=>by omega
 | [],P,Y,n+1,hL,h1,h2,h3,h4=>by
  rw[List.append_nil]
  refine CK ?_
  rw[iT (by omega),M.aa]
  cases Y with
  | nil=>
   rw[decide_eq_false (by subst hL;simp)]
   rfl
  | cons c Y=>
   subst hL
   rw[decide_eq_true (by simp;omega)]
   simp only[cR,if_true]
   unfold fx
   rw[g9 (decide_eq_true (by rw[zL];omega)),M.aa,Vw.atI_nat (by simp)]
   simp only[List.nil_append,List.getElem_append_right,Nat.le_refl,Nat.sub_self,List.getElem_cons_zero,M.aa]
   rw[kE,decide_eq_false (h2 c rfl)]
 | c::w,P,Y,n+1,hL,h1,h2,h3,h4=>by
  rw[BI (c':=(((P++[c]).length:Nat):Int)) ?_ ?_]
  ·rw[AL w (P++[c]) Y n (by rw[hL];simp) (fun x hx=>h1 x (by simp[hx])) h2 (by simpa using h3) h4]
   simp
  ·rw[iT (by omega),M.aa]
   subst hL
   rw[decide_eq_true (by simp;omega)]
   simp only[cR,if_true]
   unfold fx
   rw[g9 (decide_eq_true (by rw[zL];omega)),M.aa,Vw.atI_nat (by simp)]
   simp only[List.cons_append,List.getElem_append_right,Nat.le_refl,Nat.sub_self,List.getElem_cons_zero,M.aa]
   rw[kE,decide_eq_true (h1 c (by simp))]
  ·congr 1
   simp
def tw(S X:List Nat):List Nat:=X.takeWhile fun c=>decide (c∈S)
theorem t7{X S:List Nat}(h:X.length≤900000):iX X S=.ok ((tw S X).length:Int):=by
 have hX:X=[]++(X.takeWhile (fun c=>decide (c∈S))++X.dropWhile (fun c=>decide (c∈S))):=by rw[List.nil_append,List.takeWhile_append_dropWhile]
 have hY:∀ c,(X.dropWhile (fun c=>decide (c∈S))).head? =some c→c∉S:=fun c hc hm=>by
  have:=List.head?_dropWhile_not (fun c=>decide (c∈S)) X
  rw[hc]at this
  simp at this
  exact this hm
 have hl:(X.takeWhile (fun c=>decide (c∈S))).length≤X.length:=(List.takeWhile_prefix _).length_le
 unfold iX
 have:=AL (S:=S) (L:=X) _ [] _ dj hX (fun c hc=>of_decide_eq_true (List.all_eq_true.mp List.all_takeWhile c hc)) hY (by unfold dj;omega) (by omega)
 rw[show((([]:List Nat).length:Nat):Int)=(0:Int)from rfl]at this
 rw[this,M.aa,List.nil_append]
 rfl
theorem Av(S X:List Nat):(tw S X).length≤X.length:=(List.takeWhile_prefix _).length_le
theorem CJ{S w Y:List Nat}(h1:∀ c∈w,c∈S)(h2:∀ c,Y.head? =some c→c∉S):tw S (w++Y)=w:=by
 unfold tw
 induction w with
 | nil=>
  cases Y with
  | nil=>rfl
  | cons c Y=>simp[h2 c rfl]
 | cons c w ih=>
  rw[List.cons_append,List.takeWhile_cons,if_pos (decide_eq_true (h1 c (by simp))),ih fun x hx=>h1 x (by simp[hx])]
theorem tX{S X:List Nat}:∀ c∈tw S X,c∈S:=fun c hc=>of_decide_eq_true (List.all_eq_true.mp List.all_takeWhile c hc)
theorem j1(S X:List Nat):X=tw S X++X.drop (tw S X).length:=by
 have h:tw S X <+: X:=List.takeWhile_prefix _
 obtain⟨t,e⟩:=h
 have:X.drop (tw S X).length=t:=by
  conv=>lhs;rw[←e]
  rw[List.drop_left' (by rw[e])]
 rw[this,e]
def NT:Exn:=⟨"NoText",none⟩
abbrev jA:Type:=(List Nat)×Int
theorem lH{P X S:List Nat}{most:Int}(h:P.length+X.length≤90000):aI (rs P X) S most=if decide (0<(tw S X).length)&&decide (((tw S X).length:Int)≤most)then .ok (tw S X,rs (P++tw S X) (X.drop (tw S X).length))else .exc NT:=by
 have hX:=j1 S X
 have hY:∀ c,(X.drop (tw S X).length).head? =some c→c∉S:=fun c hc hm=>by
  have h1:=List.head?_dropWhile_not (fun c=>decide (c∈S)) X
  have h2:X.dropWhile (fun c=>decide (c∈S))=X.drop (tw S X).length:=by
   have h3:X=X.takeWhile (fun c=>decide (c∈S))++X.dropWhile (fun c=>decide (c∈S)):=(List.takeWhile_append_dropWhile).symm
   have h4:tw S X++X.dropWhile (fun c=>decide (c∈S))=tw S X++X.drop (tw S X).length:=by rw[←j1];exact h3.symm
   exact List.append_cancel_left h4
  rw[h2,hc]at h1
  simp at h1
  exact h1 hm
 have hW:∀ c∈tw S X,c∈S:=tX
 generalize tw S X=w at *
 generalize X.drop w.length=Y at *
 subst hX
 have hl:(w++Y).length=w.length+Y.length:=by simp
 unfold aI
 rw[AO w P Y dj hW hY (by unfold dj;omega) (by omega),M.aa]
 have e:(rs (P++w) Y).2-(rs P (w++Y)).2=(w.length:Int):=by unfold rs;simp;omega
 rw[e]
 have e2:decide ((0:Int)<(w.length:Int))=decide (0<w.length):=by simp
 rw[e2]
 cases hb:(decide (0<w.length)&&decide ((w.length:Int)≤most))with
 | false=>rfl
 | true=>
  rw[tQ,M.aa]
  unfold rs
  dsimp only
  rw[dq (by simp;omega),M.aa,oJ]
  rw[show(P++w).length-P.length=w.length by simp,List.append_assoc,List.drop_left,List.take_left]
  rfl
theorem Cu{S X:List Nat}:∀ c,(X.drop (tw S X).length).head? =some c→c∉S:=fun c hc hm=>by
 have h1:=List.head?_dropWhile_not (fun c=>decide (c∈S)) X
 have h2:X.dropWhile (fun c=>decide (c∈S))=X.drop (tw S X).length:=by
  have h3:X=X.takeWhile (fun c=>decide (c∈S))++X.dropWhile (fun c=>decide (c∈S)):=(List.takeWhile_append_dropWhile).symm
  have h4:tw S X++X.dropWhile (fun c=>decide (c∈S))=tw S X++X.drop (tw S X).length:=by rw[←j1];exact h3.symm
  exact List.append_cancel_left h4
 rw[h2,hc]at h1
 simp at h1
 exact h1 hm
theorem iK{P Y:List Nat}{c:Nat}(h:P.length+(c::Y).length≤90000):av (rs P (c::Y)) [c]=.ok ((),rs (P++[c]) Y):=by
 have:=D7 (P:=P) (t:=[c]) (Y:=Y) (by simp at h ⊢;omega)
 exact this
theorem Hf{P X t:List Nat}(h:P.length+X.length+t.length≤90000)(hx:X.take t.length≠t):av (rs P X) t=.exc NT:=by
 unfold av
 rw[tR (by omega),jL hx]
 rfl
theorem n5{P X:List Nat}{c:Nat}(h:P.length+X.length≤80000)(hx:X.head? ≠some c):av (rs P X) [c]=.exc NT:=by
 refine Hf (by simp;omega) fun e=>?_
 cases X with
 | nil=>cases e
 | cons x X=>simp at e;exact hx (by rw[e];rfl)
theorem Hq{P Y:List Nat}{c:Nat}(h:P.length+(c::Y).length≤90000):ax (rs P (c::Y)) [c]=.ok true:=Az (P:=P) (t:=[c]) (Y:=Y) (by simp at h ⊢;omega)
theorem GC{P X:List Nat}{c:Nat}(h:P.length+X.length≤90000)(hx:X.head? ≠some c):ax (rs P X) [c]=.ok false:=Fs (by omega) hx
theorem ia{X:List Nat}{c:Nat}:eqB (X.take 1) [c]=decide (X.head? =some c):=by
 cases X with
 | nil=>rfl
 | cons x X=>
  by_cases h:x=c
  ·subst h;simp[eqB]
  ·rw[jL (by simpa using h)]
   simp[h]
theorem xI{X:List Nat}{i:Nat}{c:Nat}(hX:X.length≤90000)(h:X[i]? =some c):fx X (i:Int)=.ok [c]:=by
 obtain⟨hi,e⟩:=List.getElem?_eq_some_iff.mp h
 unfold fx
 rw[g9 (decide_eq_true (by rw[zL];omega)),M.aa,Vw.atI_nat hi]
 dsimp only
 rw[e]
def tH(e:Nat):List (List Nat)×jA→M Bool:=fun(c8:(List (List Nat))×(List Nat×Int))=>(nox (ax c8.2 [e])).bind fun v=>M.ok (!v)
def p6:List (List Nat)×jA→M (List (List Nat)×jA):=fun(c8:(List (List Nat))×(List Nat×Int))=>(av c8.2 (sS " ")).bind fun u9=>(((((aY (sS "abcdefghijklmnopqrstuvwxyz") (sS "0123456789")).bind fun a10=>(M.ok ()).bind fun w11=>M.ok (a10,w11)).bind fun z12=>aI u9.2 z12.1 (40:Int)).bind fun a13=>(M.ok ()).bind fun w14=>M.ok (a13,w14)).bind fun z15=>(iN c8.1 z15.1.1).bind fun v=>M.ok (v,z15.1.2)).bind fun cK=>M.ok (cK.1,cK.2)
def DJ(e:Nat)(r17:List (List Nat)×jA):M (List (List Nat)×jA):=(av r17.2 [e]).bind fun u18=>(bD u18.2 (decide ((r17.1.length:Int)≤(6:Int)))).bind fun u19=>M.ok ((r17.1,u18.2))
def wA(e n:Nat)(acc:List (List Nat))(P X:List Nat):M (List (List Nat)×jA):=(aI (rs P X) AN (40:Int)).bind fun a=>(lq (tH e) p6 n (acc++[a.1],a.2)).bind (DJ e)
def lB(e:Nat):List Nat×(List (List Nat))→M (Lp (List Nat×(List (List Nat))) D):=(fun(c1:List Nat×(List (List Nat)))=>(((nox (iX c1.1 (sS "abcdefghijklmnopqrstuvwxyz0123456789"))).bind fun b9=>(orM (M.ok (eqB b9 (0:Int))) (orM (M.ok (decide ((40:Int)<b9))) ((i9 c1.1).bind fun a3=>M.ok (eqB b9 a3)))).bind fun b4=>if b4=true then(M.ok (Lp.ret (eN ())))else((((bc c1.1 (none:Option Int) (some b9)).bind fun a5=>(M.ok ()).bind fun w6=>M.ok (a5,w6)).bind fun z7=>iN c1.2 z7.1).bind fun gK=>((fx c1.1 b9).bind fun a9=>M.ok (eqB a9 [e])).bind fun b10=>if b10=true then((if(decide ((6:Int)<(gK.length:Int)))=true then(M.ok (Lp.ret (eN ())))else(((((bc c1.1 (some (b9+(1:Int))) (none:Option Int)).bind fun v=>M.ok (D.str v)).bind fun a11=>(M.ok ()).bind fun w12=>M.ok (a11,w12)).bind fun z13=>M.ok (D.tup [((eL D.str) gK),z13.1])).bind fun v14=>M.ok (Lp.ret v14))))else(((fx c1.1 b9).bind fun a15=>M.ok (!(eqB a15 (sS " ")))).bind fun b16=>if b16=true then(M.ok (Lp.ret (eN ())))else((bc c1.1 (some (b9+(1:Int))) (none:Option Int)).bind fun nD=>M.ok (.go (nD,gK)))))):M (Lp (List Nat×(List (List Nat))) D)))
def wB(e n:Nat)(X:List Nat)(acc:List (List Nat)):M D:=(tL (fun(c1:List Nat×(List (List Nat)))=>M.ok true) (lB e) n (X,acc)).bind (wI (fun r18=>.bad) (fun q=>q))
theorem KJ{e:Nat}{acc:List (List Nat)}{P Y:List Nat}(h:P.length+(e::Y).length≤80000):tH e (acc,rs P (e::Y))=.ok false:=by
 unfold tH
 dsimp only
 rw[Hq (by omega)]
 rfl
theorem Em{e:Nat}{acc:List (List Nat)}{P X:List Nat}(h:P.length+X.length≤80000)(hx:X.head? ≠some e):tH e (acc,rs P X)=.ok true:=by
 unfold tH
 dsimp only
 rw[GC (by omega) hx]
 rfl
theorem En{acc:List (List Nat)}{P X:List Nat}(h:P.length+X.length≤80000)(hx:X.head? ≠some 32):p6 (acc,rs P X)=.exc NT:=by
 unfold p6
 dsimp only
 rw[p7,n5 h hx]
 rfl
theorem La{acc:List (List Nat)}{P X:List Nat}(h:P.length+(32::X).length≤80000)(ha:acc.length≤5000):p6 (acc,rs P (32::X))=(aI (rs (P++[32]) X) AN (40:Int)).bind fun a=>.ok (acc++[a.1],a.2):=by
 unfold p6
 dsimp only
 rw[p7,iK (by omega),t6]
 simp only[M.aa,M.bind_assoc]
 congr 1
 funext a
 rw[oB (by omega),M.aa]
theorem BY{e:Nat}{X:List Nat}{acc:List (List Nat)}(hX:X.length≤5000)(h:(tw AN X).length=0∨40<(tw AN X).length∨(tw AN X).length=X.length):lB e (X,acc)=.ok (.ret .non):=by
 unfold lB
 dsimp only
 rw[show sS "abcdefghijklmnopqrstuvwxyz0123456789"=AN from rfl,t7 (by omega)]
 simp only[cg,M.aa]
 rw[iT (by omega)]
 simp only[M.aa,d4]
 by_cases c1:(tw AN X).length=0
 ·rw[show eqB ((tw AN X).length:Int) (0:Int)=true from by rw[c1];exact c7 _]
  rfl
 rw[jL (show((tw AN X).length:Int)≠0 by omega)]
 by_cases c2:(40:Int)<((tw AN X).length:Int)
 ·rw[decide_eq_true c2]
  rfl
 rw[decide_eq_false c2]
 have c3:(tw AN X).length=X.length:=by omega
 rw[show eqB ((tw AN X).length:Int) (X.length:Int)=true from by rw[c3];exact c7 _]
 rfl
theorem Mu{e z:Nat}{u X Z:List Nat}{acc:List (List Nat)}(hX:X.length≤5000)(ha:acc.length≤5000)(hu:tw AN X=u)(h0:u.length≠0)(h40:u.length≤40)(hap:X=u++z::Z):lB e (X,acc)=if z=e then(if 6<acc.length+1 then .ok (.ret .non)else .ok (.ret (.tup [eL D.str (acc++[u]),.str Z])))else if z=32 then .ok (.go (Z,acc++[u]))else .ok (.ret .non):=by
 have hlX:X.length=u.length+(Z.length+1):=by
  have:=congrArg List.length hap
  simpa using this
 have ht:dg X (none:Option Int) (some (u.length:Int))=u:=by
  rw[Sh.jz]
  conv=>lhs;rw[hap]
  rw[List.take_left]
 have hd:dg X (some ((u.length:Int)+1)) (none:Option Int)=Z:=by
  rw[show(u.length:Int)+1=((u.length+1:Nat):Int)from rfl,kh,←List.drop_drop]
  conv=>lhs;rw[hap]
  rw[List.drop_left]
  rfl
 have hi:fx X (u.length:Int)=.ok [z]:=xI (by omega) (by rw[hap,List.getElem?_append_right (Nat.le_refl _),Nat.sub_self];rfl)
 unfold lB
 dsimp only
 rw[show sS "abcdefghijklmnopqrstuvwxyz0123456789"=AN from rfl,t7 (by omega),p7,hu]
 simp only[cg,M.aa]
 rw[iT (by omega)]
 simp only[M.aa,d4]
 rw[jL (show(u.length:Int)≠0 by omega),decide_eq_false (show ¬ (40:Int)<(u.length:Int) by omega),jL (show(u.length:Int)≠(X.length:Int) by omega)]
 simp only[Bool.false_eq_true,if_false]
 rw[dq (by omega),ht]
 simp only[M.aa]
 rw[oB (by omega)]
 simp only[M.aa]
 rw[hi]
 simp only[M.aa]
 by_cases c3:z=e
 ·subst c3
  rw[c7,if_pos rfl,if_pos rfl]
  by_cases c4:(6:Int)<((acc++[u]).length:Int)
  ·rw[decide_eq_true c4,if_pos (show 6<acc.length+1 by simp at c4;omega)]
   rfl
  ·rw[decide_eq_false c4,if_neg (show ¬ 6<acc.length+1 by simp at c4;omega)]
   simp only[Bool.false_eq_true,if_false]
   rw[dq (by omega),hd]
   rfl
 ·rw[jL (show [z]≠[e] by simpa using c3),if_neg c3]
  simp only[Bool.false_eq_true,if_false]
  by_cases c4:z=32
  ·subst c4
   rw[c7,if_pos rfl]
   simp only[Bool.not_true,Bool.false_eq_true,if_false]
   rw[dq (by omega),hd]
   rfl
  ·rw[jL (show [z]≠[32] by simpa using c4),if_neg c4]
   rfl
theorem D9{e:Nat}(he:e=34∨e=62∨e=93):∀ (n m:Nat) (X P:List Nat) (acc:List (List Nat)),X.length<n→X.length<m→acc.length+X.length≤5000→P.length+X.length≤5000→
  (wA e n acc P X=.exc NT∧wB e m X acc=.ok .non)∨∃ ws w Y,X=w++Y∧1≤w.length∧wA e n acc P X=.ok (ws,rs (P++w) Y)∧wB e m X acc=.ok (.tup [eL D.str ws,.str Y]):=by
 have he32:e≠32:=by omega
 intro n
 induction n with
 | zero=>intro m X P acc h1;omega
 | succ n ih=>
  intro m X P acc h1 h2 h3 h4
  obtain⟨m,rfl⟩:∃ k,m=k+1:=⟨m- 1,by omega⟩
  have hle:=Av AN X
  have hap:=j1 AN X
  have hB:∀ r:Lp (List Nat×List (List Nat)) D,lB e (X,acc)=.ok r→wB e (m+1) X acc=match r with
    | .go c=>wB e m c.1 c.2
    | .brk c=>.bad
    | .ret q=>.ok q:=fun r hr=>by
   unfold wB
   rw[tL,M.aa,if_pos rfl,hr,M.aa]
   cases r<;> rfl
  by_cases c1:(tw AN X).length=0
  ·refine .inl ⟨?_,hB _ (BY (by omega) (.inl c1))⟩
   unfold wA
   rw[lH (by omega),c1]
   rfl
  by_cases c2:40<(tw AN X).length
  ·refine .inl ⟨?_,hB _ (BY (by omega) (.inr (.inl c2)))⟩
   unfold wA
   rw[lH (by omega),decide_eq_true (show 0<(tw AN X).length by omega),decide_eq_false (show ¬ ((tw AN X).length:Int)≤40 by omega)]
   rfl
  have hA:wA e (n+1) acc P X=((tH e (acc++[tw AN X],rs (P++tw AN X) (X.drop (tw AN X).length))).bind fun b=>if b=true then(p6 (acc++[tw AN X],rs (P++tw AN X) (X.drop (tw AN X).length))).bind fun c=>lq (tH e) p6 n c else .ok (acc++[tw AN X],rs (P++tw AN X) (X.drop (tw AN X).length))).bind (DJ e):=by
   unfold wA
   rw[lH (by omega),decide_eq_true (show 0<(tw AN X).length by omega),decide_eq_true (show((tw AN X).length:Int)≤40 by omega)]
   rfl
  rw[hA]
  generalize hu:tw AN X=u at *
  cases hZ:X.drop u.length with
  | nil=>
   rw[hZ]at hap
   have hlen:u.length=X.length:=by
    have:=congrArg List.length hap
    simpa using this.symm
   refine .inl ⟨?_,hB _ (BY (by omega) (.inr (.inr (by rw[hu];exact hlen))))⟩
   rw[Em (by simp;omega) (by simp),M.aa,if_pos rfl,En (by simp;omega) (by simp)]
   rfl
  | cons z Z=>
   rw[hZ]at hap
   have hlX:X.length=u.length+(Z.length+1):=by
    have:=congrArg List.length hap
    simpa using this
   have hPl:(P++u).length+(z::Z).length=P.length+X.length:=by simp;omega
   have hL:=Mu (e:=e) (z:=z) (X:=X) (Z:=Z) (acc:=acc) (by omega) (by omega) hu c1 (by omega) hap
   by_cases c3:z=e
   ·subst c3
    rw[if_pos rfl]at hL
    rw[KJ (by omega),M.aa,if_neg (by decide),M.aa]
    unfold DJ
    rw[iK (by omega),M.aa]
    by_cases c4:6<acc.length+1
    ·rw[if_pos c4]at hL
     refine .inl ⟨?_,hB _ hL⟩
     rw[decide_eq_false (show ¬ ((acc++[u]).length:Int)≤6 by simp;omega)]
     rfl
    ·rw[if_neg c4]at hL
     refine .inr ⟨acc++[u],u++[z],Z,by rw[hap];simp,by simp,?_,hB _ hL⟩
     rw[decide_eq_true (show((acc++[u]).length:Int)≤6 by simp;omega),tQ,M.aa,List.append_assoc]
   ·rw[if_neg c3]at hL
    rw[Em (by omega) (by simpa using c3),M.aa,if_pos rfl]
    by_cases c4:z=32
    ·subst c4
     rw[if_pos rfl]at hL
     rw[La (by omega) (by simp;omega),hB _ hL]
     have ih2:=ih m Z (P++u++[32]) (acc++[u]) (by omega) (by omega) (by simp;omega) (by simp;omega)
     have eA:(((aI (rs (P++u++[32]) Z) AN (40:Int)).bind fun a=>M.ok (acc++[u]++[a.1],a.2)).bind fun c=>lq (tH e) p6 n c).bind (DJ e)=wA e n (acc++[u]) (P++u++[32]) Z:=by
      unfold wA
      simp only[M.bind_assoc,M.aa]
     rw[eA]
     rcases ih2 with⟨e1,e2⟩ | ⟨ws,w,Y,e0,e1,e2,e3⟩
     ·exact .inl ⟨e1,e2⟩
     ·exact .inr ⟨ws,u++32::w,Y,by rw[hap,e0];simp,by simp;omega,by
       have:P++(u++32::w)=P++u++[32]++w:=by simp
       rw[this,e2],e3⟩
    ·rw[if_neg c4]at hL
     rw[En (by omega) (by simpa using c4)]
     exact .inl ⟨rfl,hB _ hL⟩
theorem FI{e:Nat}{P X:List Nat}:bW (rs P X) [e]=wA e dj [] P X:=by
 have hb:p6=(fun c8:List (List Nat)×jA=>(av c8.2 (sS " ")).bind fun u9=>(aI u9.2 AN (40:Int)).bind fun a=>(iN c8.1 a.1).bind fun v=>M.ok (v,a.2)):=by
  funext c
  unfold p6
  rw[t6]
  simp only[M.aa,M.bind_assoc]
 unfold bW wA
 rw[hb,t6]
 simp only[M.aa,M.bind_assoc]
 rfl
theorem EB{e:Nat}{X:List Nat}:iS X [e]=wB e dj X []:=rfl
theorem ti{e:Nat}(he:e=34∨e=62∨e=93){P X:List Nat}(h:P.length+X.length≤5000):(bW (rs P X) [e]=.exc NT∧iS X [e]=.ok .non)∨∃ ws w Y,X=w++Y∧1≤w.length∧bW (rs P X) [e]=.ok (ws,rs (P++w) Y)∧iS X [e]=.ok (.tup [eL D.str ws,.str Y]):=by
 rw[FI,EB]
 exact D9 he dj dj X P [] (by unfold dj;omega) (by unfold dj;omega) (by simp;omega) h
end K82
namespace K82
open PySem L2 PyProof.Rows Vw
inductive QS:Nat→D→Prop
 | word {k:Nat} (f u:List Nat):QS k (.tup [.str (sS "word"),.str f,.str u])
 | like {k:Nat} (f u:List Nat):QS k (.tup [.str (sS "like"),.str f,.str u])
 | row {k:Nat} (f:List Nat) (ws:List (List Nat)):QS k (.tup [.str (sS "row"),.str f,eL D.str ws])
 | near {k:Nat} (f:List Nat) (n:Int) (ws:List (List Nat)):QS k (.tup [.str (sS "near"),.str f,.int n,eL D.str ws])
 | chain {k:Nat} (f:List Nat) (n:Int) (ws:List (List Nat)):QS k (.tup [.str (sS "chain"),.str f,.int n,eL D.str ws])
 | neg {k:Nat} {d:D} (h:QS k d):QS (k+1) (.tup [.str (sS "not"),d])
 | both {k:Nat} (ds:List D) (hl:ds.length≤5000) (h:∀ d∈ds,QS k d):QS (k+1) (.tup [.str (sS "both"),.lst ds])
 | one {k:Nat} (ds:List D) (hl:ds.length≤5000) (h:∀ d∈ds,QS k d):QS (k+1) (.tup [.str (sS "one"),.lst ds])
def nJ(k:Nat)(A:M (D×jA))(B:M D)(P X:List Nat):Prop:=(A=.exc NT∧B=.ok .non)∨(∃ d w Y,X=w++Y∧1≤w.length∧A=.ok (d,rs (P++w) Y)∧B=.ok (.tup [d,.str Y])∧QS k d)∨(∃ d w Y,X=w++Y∧A=.ok (d,rs (P++w) Y)∧B=.ok .non∧(Y.head? =some 63∨Y.head? =some 42))
theorem l8{P X:List Nat}{c:Nat}(h:P.length+X.length≤80000):ax (rs P X) [c]=.ok (decide (X.head? =some c)):=by
 by_cases hx:X.head? =some c
 ·cases X with
  | nil=>cases hx
  | cons x X=>
   simp at hx
   subst hx
   rw[Hq (by omega)]
   simp
 ·rw[GC (by omega) hx,decide_eq_false hx]
theorem n9{X:List Nat}(h:X.length≤90000):bc X (none:Option Int) (some (1:Int))=.ok (X.take 1):=by
 rw[dq (by omega)]
 exact congrArg M.ok (Sh.jz X 1)
theorem oc{X:List Nat}(n:Nat)(h:X.length≤90000):bc X (some (n:Int)) (none:Option Int)=.ok (X.drop n):=by
 rw[dq (by omega),kh]
theorem uF{X:List Nat}(h:X.length≤90000):bc X (some (1:Int)) (none:Option Int)=.ok (X.drop 1):=oc 1 h
theorem Lj{X:List Nat}(h:X.length≤90000):bc X (some (0:Int)) (none:Option Int)=.ok X:=oc 0 h
theorem xN{X:List Nat}(i j:Nat)(h:X.length≤90000):bc X (some (i:Int)) (some (j:Int))=.ok ((X.drop i).take (j-i)):=by
 rw[dq (by omega),oJ]
theorem Hw{X:List Nat}(h:∀ c∈tw jx X,c≠63∧c≠42):tw AN X=tw jx X:=by
 have e:=j1 jx X
 have:=CJ (S:=AN) (w:=tw jx X) (Y:=X.drop (tw jx X).length) (fun c hc=>G5 c (tX c hc) (h c hc).1 (h c hc).2) (fun c hc hm=>Cu (S:=jx) c hc (L0 c hm))
 rw[←e]at this
 exact this
theorem Ii{X:List Nat}(h:63∈tw jx X∨42∈tw jx X):(X.drop (tw AN X).length).head? =some 63∨(X.drop (tw AN X).length).head? =some 42:=by
 have e:=j1 jx X
 generalize hv:tw jx X=v at *
 have e2:=j1 AN v
 have hne:v.drop (tw AN v).length≠[]:=fun z=>by
  rw[z,List.append_nil]at e2
  have h1:∀ c∈v,c∈AN:=fun c hc=>by rw[e2]at hc;exact tX c hc
  have h2:63∉AN∧42∉AN:=by decide+kernel
  rcases h with h | h
  ·exact h2.1 (h1 _ h)
  ·exact h2.2 (h1 _ h)
 cases hd:v.drop (tw AN v).length with
 | nil=>exact absurd hd hne
 | cons c r=>
  have hc:c∉AN:=Cu (S:=AN) (X:=v) c (by rw[hd];rfl)
  have hv2:c∈jx:=by
   have:c∈v:=List.mem_of_mem_drop (i:=(tw AN v).length) (by rw[hd];simp)
   rw[←hv]at this
   exact tX c this
  have hc2:c=63∨c=42:=by
   by_cases h1:c=63
   ·exact .inl h1
   ·by_cases h2:c=42
    ·exact .inr h2
    ·exact absurd (G5 c hv2 h1 h2) hc
  rw[hd]at e2
  have eX:X=tw AN v++(c::(r++X.drop v.length)):=by
   calc X=v++X.drop v.length:=e
    _=(tw AN v++c::r)++X.drop v.length:=by rw[←e2]
    _=_:=by simp
  have:tw AN X=tw AN v:=by
   have:=CJ (S:=AN) (w:=tw AN v) (Y:=c::(r++X.drop v.length)) (fun c hc=>tX c hc) (fun x hx=>by simp at hx;rw[←hx];exact hc)
   rw[←eX]at this
   exact this
  have hd2:X.drop (tw AN v).length=c::(r++X.drop v.length):=by
   conv=>lhs;rw[eX]
   rw[List.drop_left]
  rw[this,hd2]
  rcases hc2 with rfl | rfl
  ·exact .inl rfl
  ·exact .inr rfl
theorem mem_of{T:Type}[DecidableEq T]{a:T}{l:List T}(h:dc a l=true):a∈l:=by unfold dc at h;exact of_decide_eq_true h
theorem uH{T:Type}[DecidableEq T]{a:T}{l:List T}(h:a∉l):dc a l=false:=by unfold dc;exact decide_eq_false h
theorem MO:i8 ([([60],[62]),([91],[93])]:List (List Nat×List Nat)) [60]=.ok [62]:=by kernel_rfl
theorem LQ:i8 ([([60],[62]),([91],[93])]:List (List Nat×List Nat)) [91]=.ok [93]:=by kernel_rfl
theorem Gg{c:Nat}{X:List Nat}(h:X.length≤80000):fx (c::X) (0:Int)=.ok [c]:=xI (X:=c::X) (i:=0) (by simp;omega) rfl
theorem BK{v:List Nat}(h:dc v ((List.range 20).map fun i=>gN ((i+1:Nat):Int))=true):∃ n:Nat,uf v=.ok (n:Int):=by
 have:v∈(List.range 20).map fun i=>gN ((i+1:Nat):Int):=mem_of h
 obtain⟨i,hi,rfl⟩:=List.mem_map.mp this
 rw[List.mem_range]at hi
 exact⟨i+1,Iy (by omega)⟩
theorem zl{k:Nat}{f P X:List Nat}(h:P.length+X.length≤4000):nJ k (fZ (rs P X) f) (lM f X) P X:=by
 unfold fZ lM
 rw[JL,Jq,Oo,Nm,Nk,N8,Jz,EX,n9 (by omega),uF (by omega),l8 (by omega),l8 (by omega)]
 simp only[cg,M.aa]
 rw[ia,ia]
 by_cases h34:X.head? =some 34
 ·rw[decide_eq_true h34,if_pos rfl,if_pos rfl]
  cases X with
  | nil=>cases h34
  | cons x X=>
  simp at h34
  subst h34
  rw[iK (by omega)]
  simp only[M.aa,List.drop_succ_cons,List.drop_zero]
  simp only[List.length_cons]at h
  rcases ti (e:=34) (.inl rfl) (P:=P++[34]) (X:=X) (by simp;omega)with⟨e1,e2⟩ | ⟨ws,w,Y,e0,e1,e2,e3⟩
  ·rw[e1,e2]
   exact .inl ⟨rfl,rfl⟩
  ·rw[e2,e3]
   refine .inr (.inl ⟨.tup [.str (sS "row"),.str f,eL D.str ws],34::w,Y,by rw[e0];rfl,by simp,?_,rfl,.row f ws⟩)
   simp only[M.aa]
   rw[show P++34::w=P++[34]++w by simp]
 rw[decide_eq_false h34]
 simp only[Bool.false_eq_true,if_false]
 by_cases h126:X.head? =some 126
 ·rw[decide_eq_true h126]
  simp only[if_true]
  cases X with
  | nil=>cases h126
  | cons x X=>
  simp at h126
  subst h126
  simp only[List.length_cons]at h
  rw[iK (by simp;omega),t6,uF (by simp;omega),show sS "abcdefghijklmnopqrstuvwxyz0123456789?*"=jx from rfl]
  simp only[M.aa,List.drop_succ_cons,List.drop_zero]
  rw[t7 (by omega),lH (by simp;omega)]
  simp only[cg,M.aa]
  have hle:=Av jx X
  have hap:=j1 jx X
  have hwl:=Ii (X:=X)
  have hsm:=Hw (X:=X)
  generalize hv:tw jx X=v at *
  have ht:((126::X).drop 1).take (1+v.length- 1)=v:=by
   rw[Nat.add_sub_cancel_left]
   show X.take v.length=v
   conv=>lhs;rw[hap]
   rw[List.take_left]
  have hd:(126::X).drop (1+v.length)=X.drop v.length:=by rw[Nat.add_comm,List.drop_succ_cons]
  have sA:bc (126::X) (some (1:Int)) (some ((1:Int)+(v.length:Int)))=.ok v:=by
   have:=xN (X:=126::X) 1 (1+v.length) (by simp;omega)
   rw[ht]at this
   exact this
  have sB:bc (126::X) (some ((1:Int)+(v.length:Int))) (none:Option Int)=.ok (X.drop v.length):=by
   have:=oc (X:=126::X) (1+v.length) (by simp;omega)
   rw[hd]at this
   exact this
  rw[sA,sB]
  simp only[M.aa]
  rw[n9 (by rw[List.length_drop];omega)]
  simp only[M.aa,cR]
  have hb:∀ b:Bool,(if b=true then M.ok (eqB (1:Int) (0:Int))else M.ok false:M Bool)=.ok false:=fun b=>by cases b<;> rfl
  rw[hb]
  simp only[M.aa,Bool.false_eq_true,if_false]
  rw[show eqB (1:Int) (1:Int)=true from rfl,kE,kE]
  simp only[Bool.true_and,Bool.true_or,if_true]
  by_cases w1:63∈v∨42∈v
  ·-- with a sf sign
   have hn:((if(eqB (v.length:Int) (0:Int)||decide ((40:Int)<(v.length:Int)))=true then M.ok (eN ())else if(decide (63∈v)||decide (42∈v))=true then M.ok (eN ())else M.ok (D.tup [D.tup [D.str (sS "like"),D.str f,D.str v],D.str (X.drop v.length)])):M D)=.ok .non:=by
    have:(decide (63∈v)||decide (42∈v))=true:=by
     rcases w1 with w | w
     ·rw[decide_eq_true w];rfl
     ·rw[decide_eq_true w,Bool.or_true]
    rw[this]
    split<;> rfl
   rw[hn]
   have hu:=hwl w1
   have hapA:=j1 AN X
   cases hq:(decide (0<(tw AN X).length)&&decide (((tw AN X).length:Int)≤40))with
   | false=>exact .inl ⟨rfl,rfl⟩
   | true=>
    refine .inr (.inr ⟨.tup [.str (sS "like"),.str f,.str (tw AN X)],126::tw AN X,X.drop (tw AN X).length,?_,?_,rfl,hu⟩)
    ·rw[List.cons_append,←hapA]
    ·simp only[if_true,M.aa]
     rw[show P++126::tw AN X=P++[126]++tw AN X by simp]
  ·have e1:=hsm fun c hc=>⟨fun z=>w1 (.inl (by rw[←z];exact hc)),fun z=>w1 (.inr (by rw[←z];exact hc))⟩
   rw[e1]
   have hw0:(decide (63∈v)||decide (42∈v))=false:=by
    rw[decide_eq_false (fun z=>w1 (.inl z)),decide_eq_false (fun z=>w1 (.inr z))]
    rfl
   rw[hw0]
   by_cases c1:v.length=0
   ·rw[show eqB (v.length:Int) (0:Int)=true from by rw[c1];exact c7 _,c1]
    exact .inl ⟨rfl,rfl⟩
   rw[jL (show(v.length:Int)≠0 by omega),decide_eq_true (show 0<v.length by omega)]
   by_cases c2:(40:Int)<(v.length:Int)
   ·rw[decide_eq_true c2,decide_eq_false (show ¬ (v.length:Int)≤40 by omega)]
    exact .inl ⟨rfl,rfl⟩
   rw[decide_eq_false c2,decide_eq_true (show(v.length:Int)≤40 by omega)]
   refine .inr (.inl ⟨.tup [.str (sS "like"),.str f,.str v],126::v,X.drop v.length,by rw[List.cons_append,←hap],by simp,?_,rfl,.like f v⟩)
   simp only[Bool.and_self,if_true,M.aa]
   rw[show P++126::v=P++[126]++v by simp]
 rw[decide_eq_false h126]
 simp only[Bool.false_eq_true,if_false]
 rw[t6]
 simp only[M.aa]
 rw[I0,Lj (by omega),show sS "abcdefghijklmnopqrstuvwxyz0123456789?*"=jx from rfl]
 simp only[M.aa]
 rw[t7 (by omega),lH (by omega)]
 simp only[cg,M.aa,Int.zero_add]
 have hle:=Av jx X
 have hap:=j1 jx X
 generalize hv:tw jx X=v at *
 have ht:(X.drop 0).take (v.length- 0)=v:=by
  show X.take v.length=v
  conv=>lhs;rw[hap]
  rw[List.take_left]
 have sA:bc X (some (0:Int)) (some (v.length:Int))=.ok v:=by
  have:=xN (X:=X) 0 v.length (by omega)
  rw[ht]at this
  exact this
 rw[sA,oc v.length (by omega)]
 simp only[M.aa]
 have hlX:X.length=v.length+(X.drop v.length).length:=by rw[List.length_drop];omega
 generalize X.drop v.length=Z at hap hlX ⊢
 by_cases c1:v.length=0
 ·rw[show eqB (v.length:Int) (0:Int)=true from by rw[c1];exact c7 _,c1]
  exact .inl ⟨rfl,rfl⟩
 rw[jL (show(v.length:Int)≠0 by omega),decide_eq_true (show 0<v.length by omega)]
 by_cases c2:(40:Int)<(v.length:Int)
 ·rw[decide_eq_true c2,decide_eq_false (show ¬ (v.length:Int)≤40 by omega)]
  exact .inl ⟨rfl,rfl⟩
 rw[decide_eq_false c2,decide_eq_true (show(v.length:Int)≤40 by omega)]
 simp only[Bool.or_self,Bool.and_self,Bool.false_eq_true,if_false,if_true,M.aa]
 have hPl:(P++v).length+Z.length=P.length+X.length:=by simp;omega
 rw[l8 (by omega),l8 (by omega),n9 (by omega),uF (by omega)]
 simp only[cg,M.aa,d4,cR]
 rw[show eqB (0:Int) (0:Int)=true from rfl]
 by_cases z1:Z.head? =some 60
 ·rw[decide_eq_true z1]
  cases Z with
  | nil=>cases z1
  | cons y Z=>
  simp at z1
  subst z1
  rw[show dc ((60::Z).take 1) ([[60],[91]]:List (List Nat))=true from yE (by simp)]
  simp only[Bool.false_eq_true,if_true,if_false,M.aa,List.take_succ_cons,List.take_zero,List.drop_succ_cons,List.drop_zero]
  rw[I8]
  simp only[M.aa]
  rw[Gg (by simp at hlX;omega)]
  simp only[M.aa]
  rw[MO]
  simp only[if_true,M.aa]
  simp only[List.length_cons]at hPl hlX
  rw[iK (by simp at hPl ⊢;omega)]
  have hsim:=ti (e:=62) (by decide) (P:=P++v++[60]) (X:=Z) (by simp at hPl ⊢;omega)
  cases hd:dc v ((List.range 20).map fun i=>gN ((i+1:Nat):Int))with
  | false=>
   refine .inl ⟨rfl,?_⟩
   rcases hsim with⟨e1,e2⟩ | ⟨ws,w,Y,e0,e1,e2,e3⟩
   ·rw[e2];rfl
   ·rw[e3];rfl
  | true=>
   obtain⟨n,en⟩:=BK hd
   rw[tQ,en]
   simp only[M.aa]
   rcases hsim with⟨e1,e2⟩ | ⟨ws,w,Y,e0,e1,e2,e3⟩
   ·rw[e1,e2]
    exact .inl ⟨rfl,rfl⟩
   ·rw[e2,e3]
    refine .inr (.inl ⟨.tup [.str (sS "near"),.str f,.int (n:Int),eL D.str ws],v++60::w,Y,by rw[hap,e0];simp,by simp;omega,?_,rfl,.near f _ ws⟩)
    simp only[M.aa]
    rw[show P++(v++60::w)=P++v++[60]++w by simp]
 by_cases z2:Z.head? =some 91
 ·rw[decide_eq_true z2]
  cases Z with
  | nil=>cases z2
  | cons y Z=>
  simp at z2
  subst z2
  rw[show dc ((91::Z).take 1) ([[60],[91]]:List (List Nat))=true from yE (by simp)]
  rw[show decide ((91::Z).head? =some 60)=false from by simp]
  simp only[Bool.false_eq_true,if_true,if_false,M.aa,List.take_succ_cons,List.take_zero,List.drop_succ_cons,List.drop_zero]
  rw[I8]
  simp only[M.aa]
  rw[Gg (by simp at hlX;omega)]
  simp only[M.aa]
  rw[LQ]
  simp only[if_true,M.aa]
  simp only[List.length_cons]at hPl hlX
  rw[iK (by simp at hPl ⊢;omega)]
  have hsim:=ti (e:=93) (by decide) (P:=P++v++[91]) (X:=Z) (by simp at hPl ⊢;omega)
  cases hd:dc v ((List.range 20).map fun i=>gN ((i+1:Nat):Int))with
  | false=>
   refine .inl ⟨rfl,?_⟩
   rcases hsim with⟨e1,e2⟩ | ⟨ws,w,Y,e0,e1,e2,e3⟩
   ·rw[e2];rfl
   ·rw[e3];rfl
  | true=>
   obtain⟨n,en⟩:=BK hd
   rw[tQ,en]
   simp only[M.aa]
   rcases hsim with⟨e1,e2⟩ | ⟨ws,w,Y,e0,e1,e2,e3⟩
   ·rw[e1,e2]
    exact .inl ⟨rfl,rfl⟩
   ·rw[e2,e3]
    refine .inr (.inl ⟨.tup [.str (sS "chain"),.str f,.int (n:Int),eL D.str ws],v++91::w,Y,by rw[hap,e0];simp,by simp;omega,?_,rfl,.chain f _ ws⟩)
    simp only[M.aa]
    rw[show P++(v++91::w)=P++v++[91]++w by simp]
 rw[decide_eq_false z1,decide_eq_false z2]
 have hm:dc (Z.take 1) [[60],[91]]=false:=by
  cases Z with
  | nil=>decide
  | cons z Z=>
   simp at z1 z2
   refine uH fun h=>?_
   simp at h
   rcases h with h | h
   ·exact z1 h
   ·exact z2 h
 rw[hm]
 simp only[Bool.false_eq_true,if_false,M.aa]
 rw[show eqB (0:Int) (1:Int)=false from rfl,kE,kE]
 simp only[Bool.false_and,Bool.false_or,Bool.false_eq_true,if_false]
 cases hw:(decide (63∈v)||decide (42∈v))with
 | true=>exact .inr (.inl ⟨.tup [.str (sS "like"),.str f,.str v],v,Z,hap,by omega,rfl,rfl,.like f v⟩)
 | false=>exact .inr (.inl ⟨.tup [.str (sS "word"),.str f,.str v],v,Z,hap,by omega,rfl,rfl,.word f v⟩)
end K82
namespace K82
open PySem L2 PyProof.Rows Vw
abbrev sj:Type:=jA→M (D×jA)
abbrev p8:Type:=List Nat→M D
def tF:List D×jA→M Bool:=(fun(c33:List D×(List Nat×Int))=>(nox (ax c33.2 ((sS ")")))).bind fun v=>M.ok (!v))
def qg(recm:sj)(sg:List Nat):List D×jA→M (List D×jA):=(fun(c33:List D×(List Nat×Int))=>((((aY (sS " ") sg).bind fun a34=>aY a34 (sS " ")).bind fun a35=>(M.ok ()).bind fun w36=>M.ok (a35,w36)).bind fun z37=>av c33.2 z37.1).bind fun u38=>(((recm u38.2).bind fun a39=>(M.ok ()).bind fun w40=>M.ok (a39,w40)).bind fun z41=>(iN c33.1 z41.1.1).bind fun v=>M.ok (v,z41.1.2)).bind fun ju=>M.ok (ju.1,ju.2))
def yS(sg:List Nat)(r43:List D×jA):M (D×jA):=(av r43.2 ((sS ")"))).bind fun u44=>((((i8 ([(sS "&",sS "both"),(sS "|",sS "one")]:List (List Nat×List Nat)) sg).bind fun v=>M.ok (D.str v)).bind fun a45=>(M.ok ()).bind fun w46=>M.ok (a45,w46)).bind fun z47=>M.ok (D.tup [z47.1,((eL eY) r43.1)])).bind fun v48=>M.ok ((v48,u44.2))
def uN(recm:sj)(sg:List Nat)(n:Nat)(c:List D×jA):M (D×jA):=(lq tF (qg recm sg) n c).bind (yS sg)
def b9(recm:sj)(s:jA):M (D×jA):=(M.ok ([(sS "&",sS "both"),(sS "|",sS "one")]:List (List Nat×List Nat))).bind fun dw=>(orM (nox (ax s (sS "&"))) (nox (ax s (sS "|")))).bind fun b2=>if b2=true then((aI s (sS "&|") (1:Int)).bind fun fF=>(nox (ax fF.2 ((sS ")")))).bind fun b4=>if b4=true then((av fF.2 ((sS ")"))).bind fun u5=>((((i8 dw fF.1).bind fun v=>M.ok (D.str v)).bind fun a6=>(((M.ok ([]:List D)).bind fun v=>M.ok ((eL eY) v)).bind fun a7=>(M.ok ()).bind fun w8=>M.ok (a7,w8)).bind fun w9=>M.ok (a6,w9)).bind fun z10=>M.ok (D.tup [z10.1,z10.2.1])).bind fun v11=>M.ok ((v11,u5.2)))else((av fF.2 (sS " ")).bind fun u12=>(((recm u12.2).bind fun a13=>(M.ok ()).bind fun w14=>M.ok (a13,w14)).bind fun z15=>M.ok ([z15.1.1],z15.1.2)).bind fun cK=>(av cK.2 ((sS ")"))).bind fun u17=>((((i8 dw fF.1).bind fun v=>M.ok (D.str v)).bind fun a18=>(M.ok ()).bind fun w19=>M.ok (a18,w19)).bind fun z20=>M.ok (D.tup [z20.1,((eL eY) cK.1)])).bind fun v21=>M.ok ((v21,u17.2))))else((((recm s).bind fun a22=>(M.ok ()).bind fun w23=>M.ok (a22,w23)).bind fun z24=>M.ok ([z24.1.1],z24.1.2)).bind fun hO=>(av hO.2 (sS " ")).bind fun u26=>(aI u26.2 (sS "&|") (1:Int)).bind fun gb=>(av gb.2 (sS " ")).bind fun u28=>(((recm u28.2).bind fun a29=>(M.ok ()).bind fun w30=>M.ok (a29,w30)).bind fun z31=>(iN hO.1 z31.1.1).bind fun v=>M.ok (v,z31.1.2)).bind fun jT=>uN recm gb.1 dj (jT.1,jT.2))
theorem Ih(recm:sj)(s:jA):ik recm s=b9 recm s:=id rfl
def vL(recm:p8):List Nat×List Nat×List D→M (Lp (List Nat×List Nat×List D) D):=(fun(c48:List Nat×List Nat×List D)=>(((nox (recm c48.1)).bind fun one49=>(if(jh one49)=true then(M.ok (Lp.ret (eN ())))else((((bP one49 (0:Int)).bind fun a50=>(M.ok ()).bind fun w51=>M.ok (a50,w51)).bind fun z52=>iN c48.2.2 z52.1).bind fun eu=>((bP one49 (1:Int)).bind ig).bind fun cH=>(andM ((bc cH (none:Option Int) (some (1:Int))).bind fun a55=>M.ok (eqB a55 ((sS ")")))) (M.ok (decide ((1:Int)<(eu.length:Int))))).bind fun b56=>if b56=true then(((((((i8 ([(sS "&",sS "both"),(sS "|",sS "one")]:List (List Nat×List Nat)) c48.2.1).bind fun v=>M.ok (D.str v)).bind fun a57=>(M.ok ()).bind fun w58=>M.ok (a57,w58)).bind fun z59=>M.ok (D.tup [z59.1,((eL eY) eu)])).bind fun a60=>(((bc cH (some (1:Int)) (none:Option Int)).bind fun v=>M.ok (D.str v)).bind fun a61=>(M.ok ()).bind fun w62=>M.ok (a61,w62)).bind fun w63=>M.ok (a60,w63)).bind fun z64=>M.ok (D.tup [z64.1,z64.2.1])).bind fun v65=>M.ok (Lp.ret v65))else((orM ((bc cH (none:Option Int) (some (3:Int))).bind fun a66=>M.ok (!dc a66 [(sS " & "),(sS " | ")])) ((((fx cH (1:Int)).bind fun a67=>(M.ok ()).bind fun w68=>M.ok (a67,w68)).bind fun z69=>M.ok [(sS ""),z69.1]).bind fun a70=>M.ok (!dc c48.2.1 a70))).bind fun b71=>if b71=true then(M.ok (Lp.ret (eN ())))else((fx cH (1:Int)).bind fun kg=>(bc cH (some (3:Int)) (none:Option Int)).bind fun kK=>M.ok (.go (kK,kg,eu))))))):M (Lp (List Nat×List Nat×List D) D)))
def putL(recm:p8)(n:Nat)(aC sg:List Nat)(acc:List D):M D:=(tL (fun(c48:List Nat×List Nat×List D)=>M.ok true) (vL recm) n (aC,sg,acc)).bind (wI (fun r74=>.bad) (fun q=>q))
def put2(recm:p8)(aC:List Nat):M D:=(bc aC (none:Option Int) (some (1:Int))).bind fun hQ=>(andM (M.ok (dc hQ [(sS "&"),(sS "|")])) ((bc aC (some (1:Int)) (some (2:Int))).bind fun a2=>M.ok (eqB a2 ((sS ")"))))).bind fun b3=>if b3=true then(((((((i8 ([(sS "&",sS "both"),(sS "|",sS "one")]:List (List Nat×List Nat)) hQ).bind fun v=>M.ok (D.str v)).bind fun a4=>(((M.ok ([]:List D)).bind fun v=>M.ok ((eL eY) v)).bind fun a5=>(M.ok ()).bind fun w6=>M.ok (a5,w6)).bind fun w7=>M.ok (a4,w7)).bind fun z8=>M.ok (D.tup [z8.1,z8.2.1])).bind fun a9=>(((bc aC (some (2:Int)) (none:Option Int)).bind fun v=>M.ok (D.str v)).bind fun a10=>(M.ok ()).bind fun w11=>M.ok (a10,w11)).bind fun w12=>M.ok (a9,w12)).bind fun z13=>M.ok (D.tup [z13.1,z13.2.1])).bind fun v14=>M.ok (v14))else((if(dc hQ [(sS "&"),(sS "|")])=true then(((((bc aC (some (1:Int)) (some (2:Int))).bind fun a15=>M.ok (eqB a15 (sS " "))).bind fun b16=>if b16=true then((((bc aC (some (2:Int)) (none:Option Int)).bind fun a22=>(M.ok ()).bind fun w23=>M.ok (a22,w23)).bind fun z24=>nox (recm z24.1)).bind fun one25=>M.ok one25)else(M.ok (eN ()))):M D).bind fun j21=>(orM (M.ok (jh j21)) ((((bP j21 (1:Int)).bind ig).bind fun a26=>(M.ok ()).bind fun l27=>(M.ok (1:Int)).bind fun h28=>bc a26 (none:Option Int) (some h28)).bind fun a29=>M.ok (!(eqB a29 ((sS ")")))))).bind fun b30=>if b30=true then(M.ok ((eN ())))else(((((((i8 ([(sS "&",sS "both"),(sS "|",sS "one")]:List (List Nat×List Nat)) hQ).bind fun v=>M.ok (D.str v)).bind fun a31=>(((((bP j21 (0:Int)).bind fun a32=>(M.ok ()).bind fun w33=>M.ok (a32,w33)).bind fun z34=>M.ok [z34.1]).bind fun v=>M.ok ((eL eY) v)).bind fun a35=>(M.ok ()).bind fun w36=>M.ok (a35,w36)).bind fun w37=>M.ok (a31,w37)).bind fun z38=>M.ok (D.tup [z38.1,z38.2.1])).bind fun a39=>(((((bP j21 (1:Int)).bind ig).bind fun a40=>(M.ok (1:Int)).bind fun l41=>(M.ok ()).bind fun h42=>bc a40 (some l41) (none:Option Int)).bind fun v=>M.ok (D.str v)).bind fun a43=>(M.ok ()).bind fun w44=>M.ok (a43,w44)).bind fun w45=>M.ok (a39,w45)).bind fun z46=>M.ok (D.tup [z46.1,z46.2.1])).bind fun v47=>M.ok (v47)))else(putL recm dj aC [] [])))
theorem Lg(recm:p8)(aC:List Nat):so recm aC=put2 recm aC:=id rfl
def NB(X:List Nat):Nat:=X.count 33+X.count 40
theorem fj(a b:List Nat):NB (a++b)=NB a+NB b:=by unfold NB;rw[List.count_append,List.count_append];omega
theorem CO(c:Nat)(X:List Nat):NB X≤NB (c::X):=by
 have:=fj [c] X
 rw[List.singleton_append]at this
 omega
theorem Gh(X:List Nat):NB (33::X)=NB X+1:=by unfold NB;simp;omega
theorem GX(X:List Nat):NB (40::X)=NB X+1:=by unfold NB;simp;omega
def JF(k:Nat)(recA:sj)(recB:p8):Prop:=∀ P X,NB X<k→P.length+X.length≤2000→nJ k (recA (rs P X)) (recB X) P X
def u0(s:Nat):D:=.str (if s=38 then sS "both" else sS "one")
theorem y0{s:Nat}(hs:s=38∨s=124):i8 ([(sS "&",sS "both"),(sS "|",sS "one")]:List (List Nat×List Nat)) [s]=.ok (if s=38 then sS "both" else sS "one"):=by
 rcases hs with rfl | rfl
 ·exact Hx
 ·exact HV
theorem x6{k s:Nat}{ds:List D}(hl:ds.length≤5000)(h:∀ d∈ds,QS k d):QS (k+1) (.tup [u0 s,.lst ds]):=by
 unfold u0
 split
 ·exact .both ds hl h
 ·exact .one ds hl h
theorem MA:sS " & "=[32,38,32]:=by kernel_rfl
theorem L8:sS " | "=[32,124,32]:=by kernel_rfl
theorem GY:sS ""=[]:=by kernel_rfl
section
variable{recA:sj}{recB:p8}{acc:List D}{P X Y:List Nat}{s:Nat}
theorem ER(h:P.length+X.length≤70000):tF (acc,rs P X)=.ok (!decide (X.head? =some 41)):=by
 unfold tF
 dsimp only
 rw[wt,l8 (by omega)]
 rfl
theorem KZ(hs:s=38∨s=124)(h:P.length+(41::Y).length≤70000):yS [s] (acc,rs P (41::Y))=.ok (.tup [u0 s,.lst acc],rs (P++[41]) Y):=by
 unfold yS
 dsimp only
 rw[wt,iK (by omega),y0 hs]
 simp only[M.aa]
 rw[Hj]
 rfl
theorem El:(aY (sS " ") [s]).bind (fun a34=>aY a34 (sS " "))=.ok [32,s,32]:=by
 rw[p7,aN (by simp),M.aa,aN (by simp)]
 rfl
theorem Ei(h:P.length+X.length≤70000)(hx:X.take 3≠[32,s,32]):qg recA [s] (acc,rs P X)=.exc NT:=by
 unfold qg
 dsimp only
 rw[El]
 simp only[M.aa]
 rw[Hf (t:=[32,s,32]) (by simp;omega) hx]
 rfl
theorem Jl(h:P.length+(32::s::32::X).length≤70000)(ha:acc.length≤5000):qg recA [s] (acc,rs P (32::s::32::X))=(recA (rs (P++[32,s,32]) X)).bind fun a=>.ok (acc++[a.1],a.2):=by
 unfold qg
 dsimp only
 rw[El]
 simp only[M.aa,M.bind_assoc]
 have:=D7 (P:=P) (t:=[32,s,32]) (Y:=X) (by simp at h ⊢;omega)
 rw[show 32::s::32::X=[32,s,32]++X from rfl,this]
 simp only[M.aa]
 congr 1
 funext a
 rw[oB (by omega),M.aa]
theorem uJ{sg:List Nat}(h:recB X=.ok .non):vL recB (X,sg,acc)=.ok (.ret .non):=by
 unfold vL
 dsimp only
 rw[h]
 rfl
theorem HM{d:D}(hs:s=38∨s=124)(h:recB X=.ok (.tup [d,.str (41::Y)]))(hY:Y.length≤5000)(ha:acc.length≤5000)(h1:1≤acc.length):vL recB (X,[s],acc)=.ok (.ret (.tup [.tup [u0 s,.lst (acc++[d])],.str Y])):=by
 unfold vL
 dsimp only
 rw[h,cg,M.aa,show jh (.tup [d,.str (41::Y)])=false from rfl,if_neg (by decide),show bP (.tup [d,.str (41::Y)]) (0:Int)=.ok d from rfl,show(bP (.tup [d,.str (41::Y)]) (1:Int)).bind ig=.ok (41::Y)from rfl]
 simp only[M.aa]
 rw[oB (by omega)]
 simp only[M.aa]
 rw[n9 (by simp;omega),uF (by simp;omega),wt]
 simp only[M.aa,List.take_succ_cons,List.take_zero,List.drop_succ_cons,List.drop_zero,cR]
 rw[c7,if_pos rfl,decide_eq_true (show(1:Int)<((acc++[d]).length:Int) by simp;omega)]
 simp only[M.aa,if_true]
 rw[y0 hs,Hj]
 rfl
theorem Mc{X:List Nat}(h:X.length≤90000):bc X (none:Option Int) (some (3:Int))=.ok (X.take 3):=by
 rw[dq (by omega)]
 exact congrArg M.ok (Sh.jz X 3)
theorem Cg{d:D}{sg:List Nat}(h:recB X=.ok (.tup [d,.str Y]))(hY:Y.length≤5000)(ha:acc.length≤5000)(h1:Y.head? ≠some 41∨acc=[]):vL recB (X,sg,acc)=(orM (M.ok (!dc (Y.take 3) [[32,38,32],[32,124,32]])) ((fx Y (1:Int)).bind fun a=>M.ok (!dc sg [[],a]))).bind fun b71=>if b71=true then(M.ok (Lp.ret .non))else((fx Y (1:Int)).bind fun kg=>(bc Y (some (3:Int)) (none:Option Int)).bind fun kK=>M.ok (.go (kK,kg,acc++[d]))):=by
 unfold vL
 dsimp only
 rw[h,cg,M.aa,show jh (.tup [d,.str Y])=false from rfl,if_neg (by decide),show bP (.tup [d,.str Y]) (0:Int)=.ok d from rfl,show(bP (.tup [d,.str Y]) (1:Int)).bind ig=.ok Y from rfl]
 simp only[M.aa]
 rw[oB (by omega)]
 simp only[M.aa]
 rw[n9 (by omega),Mc (by omega),wt,MA,L8,GY]
 simp only[M.aa,M.bind_assoc]
 rw[ia]
 have:andM (M.ok (decide (Y.head? =some 41))) (M.ok (decide ((1:Int)<((acc++[d]).length:Int))))=.ok false:=by
  rcases h1 with h1 | h1
  ·rw[decide_eq_false h1];rfl
  ·subst h1
   rw[cR]
   split<;> rfl
 rw[this,M.aa,if_neg (by decide)]
theorem take3{Y:List Nat}{z:Nat}(h:Y.take 3=[32,z,32]):∃ Y3,Y=32::z::32::Y3:=by
 match Y,h with
 | a::b::c::Y3,h=>
  simp at h
  obtain⟨rfl,rfl,rfl⟩:=h
  exact⟨Y3,rfl⟩
 | [],h=>simp at h
 | [_],h=>simp at h
 | [_,_],h=>simp at h
theorem CD{d:D}{sg:List Nat}(h:recB X=.ok (.tup [d,.str Y]))(hY:Y.length≤5000)(ha:acc.length≤5000)(h1:Y.head? ≠some 41∨acc=[])(hb:∀ z,(z=38∨z=124)→Y.take 3=[32,z,32]→sg≠[]∧sg≠[z]):vL recB (X,sg,acc)=.ok (.ret .non):=by
 rw[Cg h hY ha h1]
 by_cases hm:Y.take 3∈([[32,38,32],[32,124,32]]:List (List Nat))
 ·rw[yE hm]
  obtain⟨z,hz,e⟩:∃ z,(z=38∨z=124)∧Y.take 3=[32,z,32]:=by
   simp only[List.mem_cons,List.not_mem_nil,or_false]at hm
   rcases hm with e | e
   ·exact⟨38,.inl rfl,e⟩
   ·exact⟨124,.inr rfl,e⟩
  obtain⟨Y3,rfl⟩:=take3 e
  obtain⟨n1,n2⟩:=hb z hz e
  have hi:fx (32::z::32::Y3) (1:Int)=.ok [z]:=xI (i:=1) (by omega) rfl
  rw[hi,M.aa,uH (show sg∉([[],[z]]:List (List Nat)) by simp;exact⟨n1,n2⟩)]
  rfl
 ·rw[uH hm]
  rfl
theorem DY{d:D}{sg:List Nat}{z:Nat}{Y3:List Nat}(hz:z=38∨z=124)(h:recB X=.ok (.tup [d,.str (32::z::32::Y3)]))(hY:Y3.length≤4000)(ha:acc.length≤5000)(hg:sg=[]∨sg=[z]):vL recB (X,sg,acc)=.ok (.go (Y3,[z],acc++[d])):=by
 rw[Cg h (by simp;omega) ha (.inl (by simp))]
 have hi:fx (32::z::32::Y3) (1:Int)=.ok [z]:=xI (i:=1) (by simp;omega) rfl
 rw[yE (show(32::z::32::Y3).take 3∈([[32,38,32],[32,124,32]]:List (List Nat)) by rcases hz with rfl | rfl<;> simp),hi]
 simp only[M.aa]
 rw[yE (show sg∈([[],[z]]:List (List Nat)) by rcases hg with rfl | rfl<;> simp),show(3:Int)=((3:Nat):Int)from rfl,oc 3 (by simp;omega)]
 rfl
end
def KN(k:Nat)(A:M (D×jA))(B:M D)(P X:List Nat):Prop:=(A=.exc NT∧B=.ok .non)∨∃ d w Y,X=w++Y∧1≤w.length∧A=.ok (d,rs (P++w) Y)∧B=.ok (.tup [d,.str Y])∧QS (k+1) d
def pA(recA:sj)(s n:Nat)(acc:List D)(P X:List Nat):M (D×jA):=(recA (rs P X)).bind fun a=>uN recA [s] n (acc++[a.1],a.2)
def ND(recB:p8)(m:Nat):Lp (List Nat×List Nat×List D) D→M D
 | .go c=>putL recB m c.1 c.2.1 c.2.2
 | .brk c=>.bad
 | .ret q=>.ok q
theorem iY{recB:p8}{m:Nat}{X sg:List Nat}{acc:List D}{r:Lp (List Nat×List Nat×List D) D}(h:vL recB (X,sg,acc)=.ok r):putL recB (m+1) X sg acc=ND recB m r:=by
 unfold putL
 rw[tL,M.aa,if_pos rfl,h,M.aa]
 cases r<;> rfl
theorem F4{k:Nat}{recA:sj}{recB:p8}(ih:JF k recA recB){s:Nat}(hs:s=38∨s=124):∀ (n m:Nat) (X P:List Nat) (acc:List D),X.length<n→X.length<m→NB X<k→P.length+X.length≤2000→acc.length+X.length≤4000→1≤acc.length→(∀ d∈acc,QS k d)→KN k (pA recA s n acc P X) (putL recB m X [s] acc) P X:=by
 intro n
 induction n with
 | zero=>intro m X P acc h1;omega
 | succ n ihn=>
  intro m X P acc h1 h2 h3 h4 h5 h6 h7
  obtain⟨m,rfl⟩:∃ j,m=j+1:=⟨m- 1,by omega⟩
  unfold pA
  rcases ih P X h3 h4 with⟨e1,e2⟩ | ⟨d,w,Y,e0,hw,e1,e2,hq⟩ | ⟨d,w,Y,e0,e1,e2,hY⟩
  ·rw[e1]
   exact .inl ⟨rfl,iY (uJ e2)⟩
  ·rw[e1,M.aa]
   have hlen:X.length=w.length+Y.length:=by rw[e0];simp
   have hPl:(P++w).length+Y.length≤2000:=by rw[List.length_append];omega
   have hM:uN recA [s] (n+1) (acc++[d],rs (P++w) Y)=((tF (acc++[d],rs (P++w) Y)).bind fun b=>if b=true then(qg recA [s] (acc++[d],rs (P++w) Y)).bind fun c=>lq tF (qg recA [s]) n c else .ok (acc++[d],rs (P++w) Y)).bind (yS [s]):=rfl
   dsimp only
   rw[hM,ER (by omega),M.aa]
   have hqs:∀ x∈acc++[d],QS k x:=fun x hx=>by
    rcases List.mem_append.mp hx with hx | hx
    ·exact h7 x hx
    ·rw[List.mem_singleton]at hx;rw[hx];exact hq
   by_cases c1:Y.head? =some 41
   ·cases Y with
    | nil=>cases c1
    | cons y Y=>
    simp at c1
    subst c1
    rw[decide_eq_true (show(41::Y).head? =some 41 from rfl),Bool.not_true,if_neg (by decide),M.aa,KZ hs (by omega)]
    simp only[List.length_cons]at hlen
    exact .inr ⟨_,w++[41],Y,by rw[e0];simp,by simp,by rw[List.append_assoc],iY (HM hs e2 (by omega) (by omega) h6),x6 (by simp;omega) hqs⟩
   ·rw[decide_eq_false c1,Bool.not_false,if_pos rfl]
    by_cases c2:Y.take 3=[32,s,32]
    ·obtain⟨Y3,rfl⟩:=take3 c2
     simp only[List.length_cons]at hlen
     rw[Jl (by simp only[List.length_cons];simp only[List.length_cons]at hPl;omega) (by simp;omega),iY (DY hs e2 (by omega) (by omega) (.inr rfl))]
     have eA:(((recA (rs (P++w++[32,s,32]) Y3)).bind fun a=>M.ok (acc++[d]++[a.1],a.2)).bind fun c=>lq tF (qg recA [s]) n c).bind (yS [s])=pA recA s n (acc++[d]) (P++w++[32,s,32]) Y3:=by
      unfold pA uN
      simp only[M.bind_assoc,M.aa]
     rw[eA]
     have hnb:NB Y3<k:=by
      have e3:X=(w++[32,s,32])++Y3:=by rw[e0];simp
      rw[e3,fj]at h3
      omega
     rcases ihn m Y3 (P++w++[32,s,32]) (acc++[d]) (by omega) (by omega) hnb (by simp at hPl ⊢;omega) (by simp;omega) (by simp) hqs with⟨f1,f2⟩ | ⟨d2,w2,Y2,f0,fw,f1,f2,fq⟩
     ·exact .inl ⟨f1,f2⟩
     ·refine .inr ⟨d2,w++32::s::32::w2,Y2,by rw[e0,f0];simp,by simp;omega,?_,f2,fq⟩
      rw[f1]
      simp
    ·rw[Ei (by omega) c2]
     refine .inl ⟨rfl,iY (CD e2 (by omega) (by omega) (.inl c1) fun z hz e=>⟨by simp,fun z2=>?_⟩)⟩
     simp at z2
     rw[z2]at c2
     exact c2 e
  ·rw[e1,M.aa]
   have hlen:X.length=w.length+Y.length:=by rw[e0];simp
   have hPl:(P++w).length+Y.length≤2000:=by rw[List.length_append];omega
   refine .inl ⟨?_,iY (uJ e2)⟩
   have hM:uN recA [s] (n+1) (acc++[d],rs (P++w) Y)=((tF (acc++[d],rs (P++w) Y)).bind fun b=>if b=true then(qg recA [s] (acc++[d],rs (P++w) Y)).bind fun c=>lq tF (qg recA [s]) n c else .ok (acc++[d],rs (P++w) Y)).bind (yS [s]):=rfl
   have n1:Y.head? ≠some 41∧Y.head? ≠some 32:=by rcases hY with h | h<;> (rw[h];simp)
   dsimp only
   rw[hM,ER (by omega),M.aa,decide_eq_false n1.1,Bool.not_false,if_pos rfl,Ei (by omega) (fun e=>by
    obtain⟨Y3,rfl⟩:=take3 e
    exact n1.2 rfl)]
   rfl
end K82
namespace K82
open PySem L2 PyProof.Rows Vw
theorem A5{s:Nat}(hs:s=38∨s=124):i8 ([([38],sS "both"),([124],sS "one")]:List (List Nat×List Nat)) [s]=.ok (if s=38 then sS "both" else sS "one"):=by
 have:=y0 hs
 rwa[Fp,FZ]at this
def AB:List Nat:=[38,124]
theorem K1{k:Nat}{A:M (D×jA)}{B:M D}{P X:List Nat}(h:KN k A B P X):nJ (k+1) A B P X:=h.imp id fun⟨d,w,Y,a,b,c,e,f⟩=>.inl ⟨d,w,Y,a,b,c,e,f⟩
theorem rJ{k:Nat}{A:M (D×jA)}{B:M D}{P w0 X:List Nat}(h:nJ k A B (P++w0) X):nJ k A B P (w0++X):=by
 rcases h with h | ⟨d,w,Y,e,hw,a,b,q⟩ | ⟨d,w,Y,e,a,b,q⟩
 ·exact .inl h
 ·exact .inr (.inl ⟨d,w0++w,Y,by rw[e,List.append_assoc],by simp;omega,by rw[a,List.append_assoc],b,q⟩)
 ·exact .inr (.inr ⟨d,w0++w,Y,by rw[e,List.append_assoc],by rw[a,List.append_assoc],b,q⟩)
theorem pR{k:Nat}{A:M (D×jA)}{B:M D}{P X:List Nat}{c:Nat}(h:nJ k A B (P++[c]) X):nJ k A B P (c::X):=rJ (w0:=[c]) h
theorem Au{X:List Nat}{s:Nat}(hs:s=38∨s=124):tw AB (s::X)=s::tw AB X:=by
 unfold tw AB
 rw[List.takeWhile_cons,if_pos]
 rcases hs with rfl | rfl<;> rfl
theorem xb{X:List Nat}(h1:X.head? ≠some 38)(h2:X.head? ≠some 124):tw AB X=[]:=by
 unfold tw AB
 cases X with
 | nil=>rfl
 | cons c X=>
  rw[List.takeWhile_cons,if_neg]
  simp at h1 h2
  simp[h1,h2]
theorem Ep{X:List Nat}(h:X.head? =some 38∨X.head? =some 124):1≤(tw AB X).length:=by
 cases X with
 | nil=>rcases h with h | h<;> cases h
 | cons c X=>
  have:c=38∨c=124:=by simpa using h
  rw[Au this]
  simp
section
variable{recA:sj}{recB:p8}{k:Nat}
theorem Fo(ih:JF k recA recB){P X:List Nat}(hn:NB X<k)(h:P.length+X.length≤2000):nJ (k+1) (b9 recA (rs P X)) (put2 recB X) P X:=by
 unfold b9 put2
 rw[Fp,FZ,show sS "&|"=AB from Nl,wt,p7,l8 (by omega),l8 (by omega),n9 (by omega)]
 simp only[cg,M.aa]
 rw[show bc X (some (1:Int)) (some (2:Int))=.ok ((X.drop 1).take 1)from xN 1 2 (by omega)]
 simp only[M.aa]
 by_cases hs0:X.head? =some 38∨X.head? =some 124
 ·have horM:orM (M.ok (decide (X.head? =some 38))) (M.ok (decide (X.head? =some 124)))=.ok true:=by
   rcases hs0 with e | e
   ·rw[decide_eq_true e];rfl
   ·rw[decide_eq_true e,d4];split<;> rfl
  rw[horM]
  simp only[M.aa,if_true]
  cases X with
  | nil=>rcases hs0 with e | e<;> cases e
  | cons s X=>
  have hs:s=38∨s=124:=by simpa using hs0
  clear hs0 horM
  simp only[List.length_cons]at h
  simp only[List.take_succ_cons,List.take_zero,List.drop_succ_cons,List.drop_zero]
  rw[yE (show [s]∈([[38],[124]]:List (List Nat)) by rcases hs with rfl | rfl<;> simp)]
  simp only[cR,if_true,M.aa]
  rw[ia,lH (by simp;omega),Au hs]
  by_cases h2:X.head? =some 38∨X.head? =some 124
  ·have hl:=Ep h2
   rw[decide_eq_false (show ¬ (((s::tw AB X).length:Nat):Int)≤1 by simp only[List.length_cons];omega),Bool.and_false,if_neg (by decide)]
   refine .inl ⟨rfl,?_⟩
   have n1:X.head? ≠some 41∧X.head? ≠some 32:=by rcases h2 with e | e<;> (rw[e];simp)
   rw[decide_eq_false n1.1,if_neg (by decide),ia,decide_eq_false n1.2,if_neg (by decide)]
   rfl
  ·have hl:=xb (X:=X) (fun e=>h2 (.inl e)) (fun e=>h2 (.inr e))
   rw[hl]
   simp only[List.length_cons,List.length_nil,List.drop_succ_cons,List.drop_zero]
   rw[show(decide (0<0+1)&&decide ((((0+1:Nat)):Int)≤1))=true from rfl,if_pos rfl]
   simp only[M.aa]
   rw[l8 (by simp;omega)]
   simp only[cg,M.aa]
   refine pR ?_
   by_cases c1:X.head? =some 41
   ·rw[decide_eq_true c1,if_pos rfl,if_pos rfl]
    cases X with
    | nil=>cases c1
    | cons x X=>
    simp at c1
    subst c1
    simp only[List.length_cons]at h
    rw[iK (by simp;omega),A5 hs,show bc (s::41::X) (some (2:Int)) (none:Option Int)=.ok X from oc 2 (by simp;omega)]
    exact .inr (.inl ⟨.tup [u0 s,.lst []],[41],X,rfl,by simp,rfl,rfl,x6 (by simp) (fun d hd=>by cases hd)⟩)
   ·rw[decide_eq_false c1,if_neg (by decide),if_neg (by decide),ia]
    by_cases c2:X.head? =some 32
    ·rw[decide_eq_true c2,if_pos rfl]
     cases X with
     | nil=>cases c2
     | cons x X=>
     simp at c2
     subst c2
     simp only[List.length_cons]at h
     rw[iK (by simp;omega),show bc (s::32::X) (some (2:Int)) (none:Option Int)=.ok X from oc 2 (by simp;omega)]
     simp only[M.aa]
     refine pR ?_
     have hnb:NB X<k:=by
      have:=CO 32 X
      have:=CO s (32::X)
      omega
     rcases ih (P++[s]++[32]) X hnb (by simp;omega)with⟨e1,e2⟩ | ⟨d,w,Y,e0,hw,e1,e2,hq⟩ | ⟨d,w,Y,e0,e1,e2,hY⟩
     ·rw[e1,e2]
      exact .inl ⟨rfl,rfl⟩
     ·rw[e1,e2]
      have hlen:X.length=w.length+Y.length:=by rw[e0];simp
      simp only[cg,M.aa]
      rw[show jh (.tup [d,.str Y])=false from rfl,show(bP (.tup [d,.str Y]) (1:Int)).bind ig=.ok Y from rfl,show bP (.tup [d,.str Y]) (0:Int)=.ok d from rfl]
      simp only[M.aa,d4,Bool.false_eq_true,if_false]
      rw[n9 (by omega),uF (by omega)]
      simp only[M.aa]
      rw[ia]
      by_cases c3:Y.head? =some 41
      ·cases Y with
       | nil=>cases c3
       | cons y Y=>
       simp at c3
       subst c3
       simp only[List.length_cons]at hlen
       rw[decide_eq_true (show(41::Y).head? =some 41 from rfl),iK (by simp;omega)]
       simp only[M.aa,Bool.not_true,Bool.false_eq_true,if_false]
       rw[A5 hs]
       refine .inr (.inl ⟨.tup [u0 s,.lst [d]],w++[41],Y,by rw[e0];simp,by simp,?_,rfl,x6 (by simp) (fun x hx=>by rw[List.mem_singleton]at hx;rw[hx];exact hq)⟩)
       simp only[M.aa]
       rw[←List.append_assoc]
       rfl
      ·rw[decide_eq_false c3,n5 (by simp;omega) c3]
       exact .inl ⟨rfl,rfl⟩
     ·rw[e1,e2]
      have hlen:X.length=w.length+Y.length:=by rw[e0];simp
      simp only[cg,M.aa]
      rw[n5 (by simp;omega) (by rcases hY with e | e<;> (rw[e];simp))]
      exact .inl ⟨rfl,rfl⟩
    ·rw[decide_eq_false c2,if_neg (by decide),n5 (by simp;omega) c2]
     exact .inl ⟨rfl,rfl⟩
 ·have n1:X.head? ≠some 38:=fun e=>hs0 (.inl e)
  have n2:X.head? ≠some 124:=fun e=>hs0 (.inr e)
  rw[decide_eq_false n1,decide_eq_false n2,uH (show X.take 1∉([[38],[124]]:List (List Nat)) by
   cases X with
   | nil=>simp
   | cons c X=>
    simp at n1 n2 ⊢
    exact⟨n1,n2⟩)]
  simp only[d4,cR,M.aa,Bool.false_eq_true,if_false]
  have hF:∃ m,dj=m+1:=⟨dj- 1,by unfold dj;omega⟩
  obtain⟨m,hm⟩:=hF
  have hm2:5000<m:=by unfold dj at hm;omega
  rw[hm]
  rcases ih P X hn (by omega)with⟨e1,e2⟩ | ⟨d,w,Y,e0,hw,e1,e2,hq⟩ | ⟨d,w,Y,e0,e1,e2,hY⟩
  ·rw[e1,iY (uJ e2)]
   exact .inl ⟨rfl,rfl⟩
  ·rw[e1]
   have hlen:X.length=w.length+Y.length:=by rw[e0];simp
   have hPl:(P++w).length+Y.length≤2000:=by rw[List.length_append];omega
   simp only[M.aa]
   -- the program wants a blank,a sign,a blank
   by_cases c1:∃ z Y3,(z=38∨z=124)∧Y=32::z::32::Y3
   ·obtain⟨z,Y3,hz,rfl⟩:=c1
    simp only[List.length_cons]at hlen hPl
    have hnb:NB Y3<k:=by
     have e3:X=(w++[32,z,32])++Y3:=by rw[e0];simp
     rw[e3,fj]at hn
     omega
    rw[iK (by simp only[List.length_cons];omega)]
    simp only[M.aa]
    rw[lH (by simp at hPl ⊢;omega),Au hz,xb (X:=32::Y3) (by simp) (by simp)]
    simp only[List.length_cons,List.length_nil,List.drop_succ_cons,List.drop_zero]
    rw[show(decide (0<0+1)&&decide ((((0+1:Nat)):Int)≤1))=true from rfl,if_pos rfl]
    simp only[M.aa]
    rw[iK (by simp at hPl ⊢;omega),iY (DY hz e2 (by omega) (by simp) (.inl rfl))]
    simp only[M.aa,M.bind_assoc]
    have eA:((recA (rs (P++w++[32]++[z]++[32]) Y3)).bind fun a=>(iN [d] a.1).bind fun v=>uN recA [z] dj (v,a.2))=pA recA z dj [d] (P++(w++[32,z,32])) Y3:=by
     unfold pA
     rw[show P++w++[32]++[z]++[32]=P++(w++[32,z,32]) by simp]
     congr 1
    have hsim:=F4 ih hz dj m Y3 (P++(w++[32,z,32])) [d] (by unfold dj;omega) (by omega) hnb (by simp at hPl ⊢;omega) (by simp;omega) (by simp) (fun x hx=>by rw[List.mem_singleton]at hx;rw[hx];exact hq)
    rw[←eA,hm]at hsim
    rw[e0,show w++32::z::32::Y3=(w++[32,z,32])++Y3 by simp]
    exact rJ (K1 hsim)
   ·refine .inl ⟨?_,?_⟩
    ·by_cases d1:Y.head? =some 32
     case neg=>
      rw[n5 (by omega) d1]
      rfl
     cases Y with
     | nil=>cases d1
     | cons y Y=>
     simp at d1
     subst d1
     simp only[List.length_cons]at hPl hlen
     rw[iK (by simp only[List.length_cons];omega)]
     simp only[M.aa]
     rw[lH (by simp at hPl ⊢;omega)]
     cases Y with
     | nil=>rfl
     | cons z Y=>
     simp only[List.length_cons]at hPl hlen
     by_cases d2:z=38∨z=124
     ·rw[Au d2]
      by_cases d3:Y.head? =some 38∨Y.head? =some 124
      ·have hl:=Ep d3
       rw[decide_eq_false (show ¬ (((z::tw AB Y).length:Nat):Int)≤1 by simp only[List.length_cons];omega),Bool.and_false,if_neg (by decide)]
       rfl
      ·rw[xb (X:=Y) (fun e=>d3 (.inl e)) (fun e=>d3 (.inr e))]
       simp only[List.length_cons,List.length_nil,List.drop_succ_cons,List.drop_zero]
       rw[show(decide (0<0+1)&&decide ((((0+1:Nat)):Int)≤1))=true from rfl,if_pos rfl]
       simp only[M.aa]
       rw[n5 (by simp at hPl ⊢;omega) (fun e=>by
        cases Y with
        | nil=>cases e
        | cons y Y=>
         simp at e
         subst e
         exact c1 ⟨z,Y,d2,rfl⟩)]
       rfl
     ·rw[xb (X:=z::Y) (by simpa using fun e=>d2 (.inl e)) (by simpa using fun e=>d2 (.inr e))]
      rfl
    ·refine iY (CD e2 (by omega) (by simp) (.inr rfl) fun z hz e=>?_)
     obtain⟨Y3,rfl⟩:=take3 e
     exact absurd ⟨z,Y3,hz,rfl⟩ c1
  ·rw[e1,iY (uJ e2)]
   have hlen:X.length=w.length+Y.length:=by rw[e0];simp
   simp only[M.aa]
   rw[n5 (by simp;omega) (by rcases hY with e | e<;> (rw[e];simp))]
   exact .inl ⟨rfl,rfl⟩
end
end K82
namespace K82
open PySem L2 PyProof.Rows Vw
def Gr:List Nat:=sS "abcdefghijklmnopqrstuvwxyz"
theorem wj{k:Nat}{A:M (D×jA)}{B:M D}{P X:List Nat}(h:nJ k A B P X):nJ k (A.bind fun v=>.ok v) ((nox B).bind fun v=>.ok v) P X:=by
 rcases h with⟨a,b⟩ | ⟨d,w,Y,e,hw,a,b,q⟩ | ⟨d,w,Y,e,a,b,q⟩
 ·rw[a,b];exact .inl ⟨rfl,rfl⟩
 ·rw[a,b];exact .inr (.inl ⟨d,w,Y,e,hw,rfl,rfl,q⟩)
 ·rw[a,b];exact .inr (.inr ⟨d,w,Y,e,rfl,rfl,q⟩)
theorem IS{k:Nat}(ih:JF k (bb k) (gn k)){P X:List Nat}(hn:NB X<k+1)(h:P.length+X.length≤2000):nJ (k+1) (bb (k+1) (rs P X)) (gn (k+1) X) P X:=by
 rw[bb,gn]
 generalize bb k=recA at ih
 generalize gn k=recB at ih
 rw[Jw,Fj,EX,yj,l8 (by omega),l8 (by omega),l8 (by omega),n9 (by omega),uF (by omega)]
 simp only[cg,M.aa]
 rw[ia,ia,ia]
 by_cases h33:X.head? =some 33
 ·rw[decide_eq_true h33,if_pos rfl,if_pos rfl]
  cases X with
  | nil=>cases h33
  | cons x X=>
  simp at h33
  subst h33
  simp only[List.length_cons]at h
  rw[Gh]at hn
  rw[iK (by simp;omega)]
  simp only[M.aa,List.drop_succ_cons,List.drop_zero]
  refine pR ?_
  rcases ih (P++[33]) X (by omega) (by simp;omega)with⟨e1,e2⟩ | ⟨d,w,Y,e0,hw,e1,e2,hq⟩ | ⟨d,w,Y,e0,e1,e2,hY⟩
  ·rw[e1,e2];exact .inl ⟨rfl,rfl⟩
  ·rw[e1,e2];exact .inr (.inl ⟨.tup [.str (sS "not"),d],w,Y,e0,hw,rfl,rfl,.neg hq⟩)
  ·rw[e1,e2];exact .inr (.inr ⟨.tup [.str (sS "not"),d],w,Y,e0,rfl,rfl,hY⟩)
 rw[decide_eq_false h33]
 simp only[Bool.false_eq_true,if_false]
 by_cases h40:X.head? =some 40
 ·rw[decide_eq_true h40,if_pos rfl,if_pos rfl]
  cases X with
  | nil=>cases h40
  | cons x X=>
  simp at h40
  subst h40
  simp only[List.length_cons]at h
  rw[GX]at hn
  rw[iK (by simp;omega)]
  simp only[M.aa,List.drop_succ_cons,List.drop_zero]
  refine pR ?_
  have:=Fo ih (P:=P++[40]) (X:=X) (by omega) (by simp;omega)
  rw[←Ih,←Lg]at this
  exact wj this
 rw[decide_eq_false h40]
 simp only[Bool.false_eq_true,if_false]
 by_cases h42:X.head? =some 42
 ·rw[decide_eq_true h42,if_pos rfl]
  cases X with
  | nil=>cases h42
  | cons x X=>
  simp at h42
  subst h42
  simp only[List.length_cons]at h
  rw[iK (by simp;omega)]
  simp only[M.aa,Bool.not_true,Bool.false_eq_true,if_false,d4]
  rw[show eqB (1:Int) (0:Int)=false from rfl,show decide ((12:Int)<(1:Int))=false from rfl]
  simp only[Bool.false_eq_true,if_false]
  rw[show(1:Int)+1=2 from rfl,show bc (42::X) (some (1:Int)) (some (2:Int))=.ok (X.take 1)from xN 1 2 (by simp;omega)]
  simp only[M.aa]
  rw[ia]
  by_cases c1:X.head? =some 58
  ·cases X with
   | nil=>cases c1
   | cons x X=>
   simp at c1
   subst c1
   simp only[List.length_cons]at h
   rw[decide_eq_true (show(58::X).head? =some 58 from rfl),iK (by simp;omega),Bool.not_true,if_neg (by decide),n9 (by simp;omega),show bc (42::58::X) (some (2:Int)) (none:Option Int)=.ok X from oc 2 (by simp;omega)]
   simp only[M.aa,List.take_succ_cons,List.take_zero]
   refine rJ (w0:=[42,58]) ?_
   rw[show P++[42,58]=P++[42]++[58] by simp]
   exact wj (zl (by simp;omega))
  ·rw[decide_eq_false c1,n5 (by simp;omega) c1]
   exact .inl ⟨rfl,rfl⟩
 rw[decide_eq_false h42,if_neg (by decide),show sS "abcdefghijklmnopqrstuvwxyz"=Gr from rfl,t7 (by omega),lH (by omega)]
 simp only[cg,M.aa,Bool.not_false,if_true,d4]
 have hle:=Av Gr X
 have hap:=j1 Gr X
 generalize hv:tw Gr X=v at *
 by_cases c1:v.length=0
 ·rw[show eqB (v.length:Int) (0:Int)=true from by rw[c1];exact c7 _,c1]
  exact .inl ⟨rfl,rfl⟩
 rw[jL (show(v.length:Int)≠0 by omega),decide_eq_true (show 0<v.length by omega)]
 by_cases c2:(12:Int)<(v.length:Int)
 ·rw[decide_eq_true c2,decide_eq_false (show ¬ (v.length:Int)≤12 by omega)]
  exact .inl ⟨rfl,rfl⟩
 rw[decide_eq_false c2,decide_eq_true (show(v.length:Int)≤12 by omega)]
 simp only[Bool.and_self,Bool.false_eq_true,if_false,if_true,M.aa]
 have sA:bc X (some (v.length:Int)) (some ((v.length:Int)+(1:Int)))=.ok ((X.drop v.length).take 1):=by
  have:=xN (X:=X) v.length (v.length+1) (by omega)
  rw[Nat.add_sub_cancel_left]at this
  exact this
 have sB:bc X (none:Option Int) (some (v.length:Int))=.ok v:=by
  rw[dq (by omega),Sh.jz]
  conv=>lhs;rw[hap]
  rw[List.take_left]
 have sC:bc X (some ((v.length:Int)+(1:Int))) (none:Option Int)=.ok ((X.drop v.length).drop 1):=by
  have:=oc (X:=X) (v.length+1) (by omega)
  rw[←List.drop_drop]at this
  exact this
 rw[sA,sB,sC]
 simp only[M.aa]
 rw[ia]
 have hlX:X.length=v.length+(X.drop v.length).length:=by rw[List.length_drop];omega
 generalize X.drop v.length=Z at hap hlX ⊢
 have hPl:(P++v).length+Z.length=P.length+X.length:=by simp;omega
 by_cases c3:Z.head? =some 58
 ·cases Z with
  | nil=>cases c3
  | cons z Z=>
  simp at c3
  subst c3
  simp only[List.length_cons]at hPl hlX
  rw[decide_eq_true (show(58::Z).head? =some 58 from rfl),iK (by simp at hPl ⊢;omega),Bool.not_true,if_neg (by decide)]
  simp only[M.aa,List.drop_succ_cons,List.drop_zero]
  rw[hap,show v++58::Z=(v++[58])++Z by simp]
  refine rJ ?_
  rw[show P++(v++[58])=P++v++[58] by simp]
  exact wj (zl (by simp at hPl ⊢;omega))
 ·rw[decide_eq_false c3,n5 (by omega) c3]
  exact .inl ⟨rfl,rfl⟩
theorem MK:∀ (k:Nat) (P X:List Nat),NB X<k→P.length+X.length≤2000→nJ k (bb k (rs P X)) (gn k X) P X:=by
 intro k
 induction k with
 | zero=>intro P X h;omega
 | succ k ih=>
  intro P X hn h
  exact IS ih hn h
end K82
namespace K82
open PySem L2 PyProof.Rows Vw
theorem rl:∀ {l:List D},(∀ d∈l,fB d=true)→cY l=true
 | [],_=>rfl
 | d::l,h=>by
  rw[cY,h d (by simp),rl fun e he=>h e (by simp[he])]
  rfl
theorem Dm(ws:List (List Nat)):fB (eL D.str ws)=true:=by
 show fB (.lst (ws.map D.str))=true
 rw[fB]
 exact rl fun d hd=>by
  obtain⟨x,_,rfl⟩:=List.mem_map.mp hd
  rfl
theorem MC{k:Nat}{d:D}(h:QS k d):fB d=true:=by
 induction h with
 | word f u=>rfl
 | like f u=>rfl
 | row f ws=>rw[fB,cY,cY,cY,cY,Dm];rfl
 | near f n ws=>rw[fB,cY,cY,cY,cY,cY,Dm];rfl
 | chain f n ws=>rw[fB,cY,cY,cY,cY,cY,Dm];rfl
 | neg h ih=>rw[fB,cY,cY,cY,ih];rfl
 | both ds hl h ih=>
  have:fB (.lst ds)=true:=by rw[fB];exact rl ih
  rw[fB,cY,cY,cY,this]
  rfl
 | one ds hl h ih=>
  have:fB (.lst ds)=true:=by rw[fB];exact rl ih
  rw[fB,cY,cY,cY,this]
  rfl
theorem wg{n:Nat}:∀ {l:List D},(∀ d∈l,gR n d=true)→jV n l=true
 | [],_=>by cases n<;> rfl
 | d::l,h=>by
  rw[jV,h d (by simp),wg fun e he=>h e (by simp[he])]
  rfl
theorem lu(n:Nat)(s:List Nat):gR n (.str s)=true:=by cases n<;> rfl
theorem Cq(n:Nat)(s:Int):gR n (.int s)=true:=by cases n<;> rfl
theorem mK{n:Nat}{l:List D}(h:∀ d∈l,gR n d=true):gR (n+1) (.tup l)=true:=by rw[gR];exact wg h
theorem CM{n:Nat}{l:List D}(h:∀ d∈l,gR n d=true):gR (n+1) (.lst l)=true:=by rw[gR];exact wg h
theorem BS(n:Nat)(ws:List (List Nat)):gR (n+1) (eL D.str ws)=true:=CM fun d hd=>by
 obtain⟨m,_,rfl⟩:=List.mem_map.mp hd
 exact lu n _
theorem FV(n:Int)(ns:List Int):rW (n::ns)∈n::ns∧∀ y∈n::ns,y≤rW (n::ns):=⟨(foldl_max ns n).2,(foldl_max ns n).1⟩
theorem HP{ds:List D}{e:Int}{g:D→Nat}:∃ N:Nat,maxD e (ds.map fun d=>e+1+(g d:Int))=e+(N:Int)∧∀ d∈ds,g d+1≤N:=by
 cases ds with
 | nil=>exact⟨0,by show e=_;omega,fun d hd=>by cases hd⟩
 | cons d ds=>
  obtain⟨h1,h2⟩:=FV (e+1+(g d:Int)) (ds.map fun d=>e+1+(g d:Int))
  have h1:rW ((d::ds).map fun d=>e+1+(g d:Int))∈(d::ds).map fun d=>e+1+(g d:Int):=h1
  obtain⟨x,hx,ex⟩:=List.mem_map.mp h1
  refine⟨g x+1,?_,fun y hy=>?_⟩
  ·show rW ((d::ds).map fun d=>e+1+(g d:Int))=_
   rw[←ex]
   omega
  ·have:=h2 (e+1+(g y:Int)) (List.mem_map_of_mem (f:=fun d=>e+1+(g d:Int)) hy)
   have e2:rW ((e+1+(g d:Int))::(ds.map fun d=>e+1+(g d:Int)))=e+1+(g x:Int):=ex.symm
   rw[e2]at this
   omega
theorem Ie:dc (sS "word") [sS "both",sS "one"]=false∧dc (sS "like") [sS "both",sS "one"]=false∧dc (sS "row") [sS "both",sS "one"]=false∧dc (sS "near") [sS "both",sS "one"]=false∧dc (sS "chain") [sS "both",sS "one"]=false∧dc (sS "not") [sS "both",sS "one"]=false∧dc (sS "both") [sS "both",sS "one"]=true∧dc (sS "one") [sS "both",sS "one"]=true:=by decide+kernel
theorem lY{j:Nat}{e:Int}{kd:List Nat}{r:List D}(h1:dc kd [sS "both",sS "one"]=false)(h2:eqB kd (sS "not")=false)(h0:(bP (.tup (.str kd::r)) (0:Int)).bind ig=.ok kd):fJ (j+1) (.tup (.str kd::r)) e=.ok (1,e):=by
 rw[fJ,h0]
 simp only[M.aa]
 rw[h1]
 simp only[Bool.false_eq_true,if_false,M.aa]
 rw[h2]
 rfl
theorem zI{j:Nat}{e:Int}{kd:List Nat}{ds:List D}(hk:dc kd [sS "both",sS "one"]=true)(hl:ds.length≤5000)(ih:∀ d∈ds,∃ (m:Int) (nest:Nat),fJ j d (e+1)=.ok (m,e+1+(nest:Int))∧∀ n,2*nest+3≤n→gR n d=true):∃ (m:Int) (nest:Nat),fJ (j+1) (.tup [.str kd,.lst ds]) e=.ok (m,e+(nest:Int))∧∀ n,2*nest+3≤n→gR n (.tup [.str kd,.lst ds])=true:=by
 have hF:∀ d:D,∃ z:Int×Nat,d∈ds→fJ j d (e+1)=.ok (z.1,e+1+(z.2:Int))∧∀ n,2*z.2+3≤n→gR n d=true:=fun d=>by
  by_cases hd:d∈ds
  ·obtain⟨m,nest,h1,h2⟩:=ih d hd
   exact⟨(m,nest),fun _=>⟨h1,h2⟩⟩
  ·exact⟨(0,0),fun z=>absurd z hd⟩
 obtain⟨F,hF⟩:=Classical.axiomOfChoice hF
 obtain⟨N,hN,hN2⟩:=HP (ds:=ds) (e:=e) (g:=fun d=>(F d).2)
 rw[fJ,show(bP (.tup [.str kd,.lst ds]) (0:Int)).bind ig=.ok kd from rfl]
 simp only[M.aa]
 rw[hk]
 simp only[if_true,M.aa]
 rw[show(bP (.tup [.str kd,.lst ds]) (1:Int)).bind (zH fun d=>M.ok d)=.ok ds from uB ds]
 simp only[M.aa]
 rw[nz (F:=fun d=>((F d).1,e+1+((F d).2:Int))) (fun _ _=>rfl) (fun d hd=>by rw[(hF d hd).1,cg]) (by omega)]
 simp only[M.aa]
 rw[nz (F:=fun z:Int×Int=>z.2) (fun _ _=>rfl) (fun _ _=>rfl) (by rw[List.length_map];omega),nz (F:=fun z:Int×Int=>z.1) (fun _ _=>rfl) (fun _ _=>rfl) (by rw[List.length_map];omega),List.map_map]
 simp only[M.aa]
 have e2:(ds.map ((fun z:Int×Int=>z.2)∘fun d=>((F d).1,e+1+((F d).2:Int))))=ds.map fun d=>e+1+((F d).2:Int):=rfl
 rw[e2,hN]
 refine⟨_,N,rfl,fun n hn=>?_⟩
 obtain⟨n,rfl⟩:∃ k,n=k+2:=⟨n- 2,by omega⟩
 refine mK fun d hd=>?_
 simp only[List.mem_cons,List.not_mem_nil,or_false]at hd
 rcases hd with rfl | rfl
 ·exact lu _ _
 ·refine CM fun d hd=>(hF d hd).2 n ?_
  have:=hN2 d hd
  omega
theorem HZ{k:Nat}{d:D}(h:QS k d):∀ (j:Nat) (e:Int),k<j→∃ (m:Int) (nest:Nat),fJ j d e=.ok (m,e+(nest:Int))∧∀ n,2*nest+3≤n→gR n d=true:=by
 obtain⟨k1,k2,k3,k4,k5,k6,k7,k8⟩:=Ie
 have e0:∀ e:Int,e+((0:Nat):Int)=e:=fun e=>by omega
 induction h with
 | word f u=>
  intro j e hj
  obtain⟨j,rfl⟩:∃ i,j=i+1:=⟨j- 1,by omega⟩
  refine⟨1,0,by rw[e0];exact lY k1 d7 rfl,fun n hn=>?_⟩
  obtain⟨n,rfl⟩:∃ i,n=i+1:=⟨n- 1,by omega⟩
  exact mK fun d hd=>by
   simp only[List.mem_cons,List.not_mem_nil,or_false]at hd
   rcases hd with rfl | rfl | rfl<;> exact lu _ _
 | like f u=>
  intro j e hj
  obtain⟨j,rfl⟩:∃ i,j=i+1:=⟨j- 1,by omega⟩
  refine⟨1,0,by rw[e0];exact lY k2 ee rfl,fun n hn=>?_⟩
  obtain⟨n,rfl⟩:∃ i,n=i+1:=⟨n- 1,by omega⟩
  exact mK fun d hd=>by
   simp only[List.mem_cons,List.not_mem_nil,or_false]at hd
   rcases hd with rfl | rfl | rfl<;> exact lu _ _
 | row f ws=>
  intro j e hj
  obtain⟨j,rfl⟩:∃ i,j=i+1:=⟨j- 1,by omega⟩
  refine⟨1,0,by rw[e0];exact lY k3 fC rfl,fun n hn=>?_⟩
  obtain⟨n,rfl⟩:∃ i,n=i+2:=⟨n- 2,by omega⟩
  exact mK fun d hd=>by
   simp only[List.mem_cons,List.not_mem_nil,or_false]at hd
   rcases hd with rfl | rfl | rfl<;> first | exact lu _ _ | exact BS _ _
 | near f m ws=>
  intro j e hj
  obtain⟨j,rfl⟩:∃ i,j=i+1:=⟨j- 1,by omega⟩
  refine⟨1,0,by rw[e0];exact lY k4 d9 rfl,fun n hn=>?_⟩
  obtain⟨n,rfl⟩:∃ i,n=i+2:=⟨n- 2,by omega⟩
  exact mK fun d hd=>by
   simp only[List.mem_cons,List.not_mem_nil,or_false]at hd
   rcases hd with rfl | rfl | rfl | rfl<;> first | exact lu _ _ | exact Cq _ _ | exact BS _ _
 | chain f m ws=>
  intro j e hj
  obtain⟨j,rfl⟩:∃ i,j=i+1:=⟨j- 1,by omega⟩
  refine⟨1,0,by rw[e0];exact lY k5 dh rfl,fun n hn=>?_⟩
  obtain⟨n,rfl⟩:∃ i,n=i+2:=⟨n- 2,by omega⟩
  exact mK fun d hd=>by
   simp only[List.mem_cons,List.not_mem_nil,or_false]at hd
   rcases hd with rfl | rfl | rfl | rfl<;> first | exact lu _ _ | exact Cq _ _ | exact BS _ _
 | @neg k d h ih=>
  intro j e hj
  obtain⟨j,rfl⟩:∃ i,j=i+1:=⟨j- 1,by omega⟩
  obtain⟨m,nest,e1,e2⟩:=ih j (e+1) (by omega)
  refine⟨1+m,nest+1,?_,fun n hn=>?_⟩
  ·rw[fJ,show(bP (.tup [.str (sS "not"),d]) (0:Int)).bind ig=.ok (sS "not")from rfl]
   simp only[M.aa]
   rw[k6]
   simp only[Bool.false_eq_true,if_false,M.aa]
   rw[g0,if_pos rfl,show bP (.tup [.str (sS "not"),d]) (1:Int)=.ok d from rfl]
   simp only[M.aa]
   rw[e1]
   simp only[cg,M.aa]
   rw[show e+1+(nest:Int)=e+((nest+1:Nat):Int) by omega]
  ·obtain⟨n,rfl⟩:∃ i,n=i+1:=⟨n- 1,by omega⟩
   refine mK fun d' hd=>?_
   simp only[List.mem_cons,List.not_mem_nil,or_false]at hd
   rcases hd with rfl | rfl
   ·exact lu _ _
   ·exact e2 n (by omega)
 | both ds hl h ih=>
  intro j e hj
  obtain⟨j,rfl⟩:∃ i,j=i+1:=⟨j- 1,by omega⟩
  exact zI k7 hl fun d hd=>ih d hd j (e+1) (by omega)
 | one ds hl h ih=>
  intro j e hj
  obtain⟨j,rfl⟩:∃ i,j=i+1:=⟨j- 1,by omega⟩
  exact zI k8 hl fun d hd=>ih d hd j (e+1) (by omega)
theorem JW{X:List Nat}(hX:X.length≤2000)(hn:NB X<44):(gn 44 X=.ok .non∧d0 X=.exc NT)∨∃ d Y,gn 44 X=.ok (.tup [d,.str Y])∧QS 44 d∧((Y=[]∧d0 X=.ok d)∨(Y≠[]∧d0 X=.exc NT)):=by
 have hq:=MK 44 [] X hn (by simpa using hX)
 unfold d0 md
 rw[show(X,(0:Int))=rs [] X from rfl]
 have fin:∀ (d:D) (w Y:List Nat),X=w++Y→((((i9 X).bind fun a3=>M.ok (eqB (rs ([]++w) Y).2 a3)).bind fun a4=>M.ok (a4,())).bind fun z6=>bD (rs ([]++w) Y) z6.1).bind (fun u7=>M.ok ((d,([iO (rs ([]++w) Y)]:List Ob))))=if Y=[]then .ok (d,([iO (rs ([]++w) Y)]:List Ob))else .exc NT:=fun d w Y e=>by
  rw[iT (by omega)]
  simp only[M.aa]
  have hl:X.length=w.length+Y.length:=by rw[e];simp
  have e2:(rs ([]++w) Y).2=(w.length:Int):=by unfold rs;simp
  rw[e2]
  by_cases hY:Y=[]
  ·subst hY
   rw[if_pos rfl,show eqB (w.length:Int) (X.length:Int)=true from by rw[hl];simp[eqB]]
   rfl
  ·have:0<Y.length:=List.length_pos_iff.mpr hY
   rw[if_neg hY,jL (show(w.length:Int)≠(X.length:Int) by omega)]
   rfl
 rcases hq with⟨e1,e2⟩ | ⟨d,w,Y,e0,hw,e1,e2,hs⟩ | ⟨d,w,Y,e0,e1,e2,hY⟩
 ·rw[e1]
  exact .inl ⟨e2,rfl⟩
 ·rw[e1]
  refine .inr ⟨d,Y,e2,hs,?_⟩
  simp only[M.aa]
  rw[fin d w Y e0]
  by_cases hY:Y=[]
  ·rw[if_pos hY]
   exact .inl ⟨hY,rfl⟩
  ·rw[if_neg hY]
   exact .inr ⟨hY,rfl⟩
 ·rw[e1]
  refine .inl ⟨e2,?_⟩
  simp only[M.aa]
  rw[fin d w Y e0,if_neg (fun z=>by rw[z]at hY;rcases hY with h | h<;> cases h)]
  rfl
end K82
namespace K82
open PySem L2 PyProof.Rows Vw
theorem Ck(i:Nat)(X:List Nat):NB (X.take i)≤NB X:=by
 have:=fj (X.take i) (X.drop i)
 rw[List.take_append_drop]at this
 omega
theorem Cw(i:Nat)(X:List Nat):NB (X.drop i)≤NB X:=by
 have:=fj (X.take i) (X.drop i)
 rw[List.take_append_drop]at this
 omega
theorem FG(i:Nat)(X:List Nat):NB (X.take i)+NB (X.drop i)=NB X:=by
 have:=fj (X.take i) (X.drop i)
 rw[List.take_append_drop]at this
 omega
theorem Gb(i:Nat)(X:List Nat):NB (X.drop (i+1))≤NB (X.drop i):=by
 rw[←List.drop_drop]
 exact Cw 1 _
theorem JI(s:Nat):NB [s]≤1:=by
 unfold NB
 rw[List.count_singleton,List.count_singleton]
 by_cases h:s=33
 ·subst h;decide
 ·by_cases h2:s=40
  ·subst h2;decide
  ·simp[h,h2]
theorem Om{X:List Nat}(h:∀ c∈X,c≠33∧c≠40):NB X=0:=by
 unfold NB
 rw[List.count_eq_zero.mpr fun z=>(h _ z).1 rfl,List.count_eq_zero.mpr fun z=>(h _ z).2 rfl]
theorem B3{C T:Type}{I:Nat→C→Prop}{f:C→T→M C}:∀ (l:List T) (n:Nat) (c:C),I n c→(∀ m c x,I m c→m<n+l.length→Sat (f c x) (I (m+1)))→Sat (foldM f c l) (I (n+l.length))
 | [],n,c,h,_=>aJ h
 | x::l,n,c,h,hf=>by
  rw[kj]
  refine ay (hf n c x h (by simp)) fun c2 h2=>?_
  have:=B3 l (n+1) c2 h2 fun m c x hi hm=>hf m c x hi (by simp only[List.length_cons];omega)
  rw[show n+(x::l).length=n+1+l.length by simp only[List.length_cons];omega]
  exact this
theorem xk:(sS "~:!&|()<>[]\"*? abz059X").length=22:=by decide+kernel
def BD:Nat→Nat
 | 0=>5
 | n+1=>2*BD n
theorem DX:∀ n,5≤BD n
 | 0=>Nat.le_refl _
 | n+1=>by have:=DX n;show 5≤2*BD n;omega
theorem DR{l:List Nat}(hl:l.length≤8000)(h5:NB l≤5)(dr:List Int):Sat (kQ l dr) fun v=>v.1.length≤400∧NB v.1<44:=by
 unfold kQ
 simp only[M.bind_assoc,M.aa]
 refine ay (fG (mT dr)) fun n _=>?_
 have h4:0≤n.1%(4:Int)∧n.1%(4:Int)<4:=⟨Int.emod_nonneg _ (by omega),Int.emod_lt_of_pos _ (by omega)⟩
 rw[uL (by omega) (by omega),M.aa]
 refine ay (B3 (I:=fun m c=>c.1.length≤8000+9*m∧NB c.1≤BD m) _ 0 _ ⟨by simpa using hl,h5⟩ fun m c x hi hm=>?_) fun r hr=>?_
 ·simp only[List.length_map,List.length_range]at hm
  have hc:c.1.length≤8100:=by omega
  have hbd:=DX m
  refine ay (fG (mT _)) fun n2 _=>?_
  rw[iT (by omega)]
  simp only[M.aa]
  rw[jS (by omega)]
  simp only[M.aa]
  have hm0:0≤n2.1%((c.1.length:Int)+1):=Int.emod_nonneg _ (by omega)
  obtain⟨i,hi2⟩:=Int.eq_ofNat_of_zero_le hm0
  rw[hi2,iT (by rw[xk];omega),xk]
  simp only[M.aa]
  rw[jS (by decide)]
  simp only[M.aa]
  have h18:0≤n2.1/400%((22:Nat):Int)∧n2.1/400%((22:Nat):Int)<22:=⟨Int.emod_nonneg _ (by decide),Int.emod_lt_of_pos _ (by decide)⟩
  obtain⟨s,_,es⟩:=EI (l:=sS "~:!&|()<>[]\"*? abz059X") h18.1 (by rw[xk];exact h18.2) (by rw[xk];omega)
  rw[es]
  simp only[M.aa]
  have c1:∀ t:List Nat,dg t (none:Option Int) (some (i:Int))=t.take i:=fun t=>Sh.jz t i
  have c2:∀ t:List Nat,dg t (some ((i:Int)+1)) (none:Option Int)=t.drop (i+1):=fun t=>kh t (i+1)
  have c3:∀ t:List Nat,dg t (some (i:Int)) (none:Option Int)=t.drop i:=fun t=>kh t i
  have hsp:=FG i c.1
  have hd1:=Gb i c.1
  have hs1:=JI s
  have hk:n2.1/10000%4=0∨n2.1/10000%4=1∨n2.1/10000%4=2∨n2.1/10000%4=3:=by omega
  have e01:eqB (0:Int) 1=false∧eqB (0:Int) 2=false∧eqB (0:Int) 3=false∧eqB (1:Int) 0=false∧eqB (1:Int) 2=false∧eqB (1:Int) 3=false∧eqB (2:Int) 0=false∧eqB (2:Int) 1=false∧eqB (2:Int) 3=false∧eqB (3:Int) 0=false∧eqB (3:Int) 1=false∧eqB (3:Int) 2=false:=by decide
  obtain⟨a1,a2,a3,a4,a5,a6,a7,a8,a9,a10,a11,a12⟩:=e01
  have hB:BD (m+1)=2*BD m:=rfl
  rcases hk with hk | hk | hk | hk
  ·rw[hk,c7,a1,a2,a3]
   simp only[if_true,Bool.false_eq_true,if_false,M.aa]
   rw[dq (by omega),dq (by omega)]
   simp only[M.aa]
   rw[c1,c2,aN (by simp;omega)]
   refine aJ ⟨?_,?_⟩
   ·show(c.1.take i++c.1.drop (i+1)).length≤_
    simp;omega
   ·show NB (c.1.take i++c.1.drop (i+1))≤_
    rw[fj];omega
  ·rw[hk,c7,a4,a5,a6]
   simp only[if_true,Bool.false_eq_true,if_false,M.aa]
   rw[dq (by omega),dq (by omega)]
   simp only[M.aa]
   rw[c1,c3,aN (by simp;omega)]
   simp only[M.aa]
   rw[aN (by simp;omega)]
   refine aJ ⟨?_,?_⟩
   ·show(c.1.take i++[s]++c.1.drop i).length≤_
    simp;omega
   ·show NB (c.1.take i++[s]++c.1.drop i)≤_
    rw[fj,fj];omega
  ·rw[hk,c7,a7,a8,a9]
   simp only[if_true,Bool.false_eq_true,if_false,M.aa]
   rw[dq (by omega),dq (by omega)]
   simp only[M.aa]
   rw[c1,c2,aN (by simp;omega)]
   simp only[M.aa]
   rw[aN (by simp;omega)]
   refine aJ ⟨?_,?_⟩
   ·show(c.1.take i++[s]++c.1.drop (i+1)).length≤_
    simp;omega
   ·show NB (c.1.take i++[s]++c.1.drop (i+1))≤_
    rw[fj,fj];omega
  ·rw[hk,c7,a10,a11,a12]
   simp only[if_true,Bool.false_eq_true,if_false,M.aa]
   rw[dq (by omega),dq (by omega),dq (by omega)]
   simp only[M.aa]
   have h12:0≤n2.1/40000%(9:Int)∧n2.1/40000%(9:Int)<9:=⟨Int.emod_nonneg _ (by omega),Int.emod_lt_of_pos _ (by omega)⟩
   obtain⟨k,hk2⟩:=Int.eq_ofNat_of_zero_le h12.1
   have c4:dg c.1 (some (i:Int)) (some ((i:Int)+1+n2.1/40000%9))=(c.1.drop i).take (1+k):=by
    rw[hk2,show(i:Int)+1+(k:Int)=((i+(1+k):Nat):Int) by omega,oJ,Nat.add_sub_cancel_left]
   rw[c4,c1,c3,aN (by simp;omega)]
   simp only[M.aa]
   rw[aN (by simp;omega)]
   have hmo:=Nat.le_trans (Ck (1+k) (c.1.drop i)) (Cw i c.1)
   refine aJ ⟨?_,?_⟩
   ·show(c.1.take i++(c.1.drop i).take (1+k)++c.1.drop i).length≤_
    simp;omega
   ·show NB (c.1.take i++(c.1.drop i).take (1+k)++c.1.drop i)≤_
    rw[fj,fj];omega
 ·simp only[List.length_map,List.length_range]at hr
  rw[dq (by omega)]
  have e:dg r.1 none (some (400:Int))=r.1.take 400:=Sh.jz r.1 400
  rw[e]
  refine aJ ⟨?_,?_⟩
  ·show(r.1.take 400).length≤400
   rw[List.length_take]
   omega
  ·have h1:=Ck 400 r.1
   have h2:BD (0+(n.1%4).toNat)≤40:=by
    have:∀ k∈List.range 4,BD (0+k)≤40:=by decide
    exact this _ (List.mem_range.mpr (by omega))
   show NB (r.1.take 400)<44
   omega
theorem uK:∀ c∈AN,c≠33∧c≠40:=by decide+kernel
theorem Hi:∀ c∈jx,c≠33∧c≠40:=by decide+kernel
theorem Dq{ns:Ws}(h:∀ u∈ns,xE u):∀ c∈jn ns,c≠33∧c≠40:=by
 have ht:∀ r:Ws,(∀ u∈r,xE u)→∀ c∈pZ r,c≠33∧c≠40:=fun r hr c hc=>by
  unfold pZ at hc
  obtain⟨u,hu,h2⟩:=List.mem_flatMap.mp hc
  rcases List.mem_cons.mp h2 with rfl | h2
  ·decide
  ·exact uK c ((hr u hu).2.2 c h2)
 cases ns with
 | nil=>intro c hc;cases hc
 | cons u r=>
  intro c hc
  rw[ym]at hc
  rcases List.mem_append.mp hc with hc | hc
  ·exact uK c ((h u (by simp)).2.2 c hc)
  ·exact ht r (fun v hv=>h v (by simp[hv])) c hc
theorem Eu{q:Qn}(h:um q):NB (ln q)=0:=by
 rw[wz h]
 refine Om fun c hc=>?_
 rcases List.mem_append.mp hc with hc | hc
 ·rcases wb (wx h)with e | ⟨_,_,e⟩
  ·rw[e,List.mem_singleton]at hc
   rw[hc]
   decide
  ·exact uK c (Jm c (e c hc))
 rcases List.mem_cons.mp hc with rfl | hc
 ·decide
 cases q with
 | word f w=>exact uK c (h.2.2.2 c hc)
 | like f p=>
  have hc:c∈(if sf p=true then p else 126::p):=hc
  split at hc
  ·exact Hi c (h.2.2.2 c hc)
  ·rcases List.mem_cons.mp hc with rfl | hc
   ·decide
   ·exact Hi c (h.2.2.2 c hc)
 | row f ns=>
  have hc:c∈34::(jn ns++[34]):=hc
  simp only[List.mem_cons,List.mem_append,List.not_mem_nil,or_false]at hc
  rcases hc with rfl | hc | rfl
  ·decide
  ·exact Dq h.2.1 c hc
  ·decide
 | near f w ns=>
  have hc:c∈gN (w:Int)++60::(jn ns++[62]):=hc
  simp only[List.mem_cons,List.mem_append,List.not_mem_nil,or_false]at hc
  rcases hc with hc | rfl | hc | rfl
  ·exact uK c ((yM h.2.2).2.2 c hc)
  ·decide
  ·exact Dq h.2.1.1 c hc
  ·decide
 | chain f w ns=>
  have hc:c∈gN (w:Int)++91::(jn ns++[93]):=hc
  simp only[List.mem_cons,List.mem_append,List.not_mem_nil,or_false]at hc
  rcases hc with hc | rfl | hc | rfl
  ·exact uK c ((yM h.2.2).2.2 c hc)
  ·decide
  ·exact Dq h.2.1.1 c hc
  ·decide
 | neg q=>exact h.elim
 | both qs=>exact h.elim
 | one qs=>exact h.elim
theorem J8{sg B:Nat}(hs:sg=38∨sg=124){l:List (List Nat)}(h:∀ x∈l,NB x≤B)(hn:l.length≤4):NB (nr sg l)≤4*B:=by
 have h1:NB [sg]=0:=by rcases hs with rfl | rfl<;> decide
 have h2:∀ x:List Nat,NB (sg::32::x)=NB x:=fun x=>by
  rw[show sg::32::x=[sg]++([32]++x)from rfl,fj,fj,h1,show NB [32]=0 from by decide]
  omega
 have h3:∀ x:List Nat,NB ([32,sg,32]++x)=NB x:=fun x=>by
  rw[show [32,sg,32]=[32]++([sg]++[32])from rfl,fj,fj,fj,h1,show NB [32]=0 from by decide]
  omega
 have h4:NB [32,sg,32]=0:=by
  have:=h3 []
  rw[List.append_nil]at this
  rw[this]
  decide
 match l,h,hn with
 | [],h,hn=>show NB [sg]≤_;omega
 | [a],h,hn=>have:=h a (by simp);show NB (sg::32::a)≤_;rw[h2];omega
 | [a,b],h,hn=>
  have:=h a (by simp);have:=h b (by simp)
  show NB (a++([b]:List (List Nat)).flatMap fun w=>[32,sg,32]++w)≤_
  simp only[List.flatMap_cons,List.flatMap_nil,List.append_nil,fj,h4];omega
 | [a,b,c],h,hn=>
  have:=h a (by simp);have:=h b (by simp);have:=h c (by simp)
  show NB (a++([b,c]:List (List Nat)).flatMap fun w=>[32,sg,32]++w)≤_
  simp only[List.flatMap_cons,List.flatMap_nil,List.append_nil,fj,h4];omega
 | [a,b,c,d],h,hn=>
  have:=h a (by simp);have:=h b (by simp);have:=h c (by simp);have:=h d (by simp)
  show NB (a++([b,c,d]:List (List Nat)).flatMap fun w=>[32,sg,32]++w)≤_
  simp only[List.flatMap_cons,List.flatMap_nil,List.append_nil,fj,h4];omega
 | _::_::_::_::_::_,h,hn=>simp at hn
def LB:Nat→Nat
 | 0=>0
 | k+1=>1+4*LB k
theorem C0:∀ (k:Nat) (q:Qn),WQ k q→NB (ln q)≤LB k
 | 0,q,h=>by rw[Eu h];exact Nat.zero_le _
 | k+1,q,h=>by
  have bas:∀ {q:Qn},um q→NB (ln q)≤LB (k+1):=fun h=>by rw[Eu h];exact Nat.zero_le _
  have grp:∀ (sg:Nat) (qs:List Qn),(sg=38∨sg=124)→qs.length≤4→(∀ q∈qs,WQ k q)→NB (40::(nr sg (zG qs)++[41]))≤LB (k+1):=fun sg qs hs h1 h2=>by
   have:=J8 (B:=LB k) hs (l:=zG qs) (fun x hx=>by
    rw[mG]at hx
    obtain⟨q,hq,rfl⟩:=List.mem_map.mp hx
    exact C0 k q (h2 q hq)) (by rw[mG,List.length_map];exact h1)
   rw[GX,fj,show NB [41]=0 from by decide]
   show _≤1+4*LB k
   omega
  cases q with
  | neg q=>
   have:=C0 k q h
   rw[ln,Gh]
   show _≤1+4*LB k
   omega
  | both qs=>rw[ln];exact grp 38 qs (.inl rfl) h.1 h.2
  | one qs=>rw[ln];exact grp 124 qs (.inr rfl) h.1 h.2
  | word f w=>exact bas (q:=.word f w) h
  | like f w=>exact bas (q:=.like f w) h
  | row f ns=>exact bas (q:=.row f ns) h
  | near f w ns=>exact bas (q:=.near f w ns) h
  | chain f w ns=>exact bas (q:=.chain f w ns) h
end K82
namespace K82
open PySem L2 PyProof.Rows Vw
abbrev RT:List Ob→Prop:=fun _=>True
abbrev t9:List Int→D:=eL D.int
abbrev xd(d:D):Option Sl:=some (.v (.d d))
section
variable{p:Pt}{σ:List Ob}{ns:List Int}
theorem ye{σ:List Ob}{a b:Int}(h0:p[0]? =some (some (.v (.d (t9 ns))))):Ev RT p σ (ev (vO (bF 3 (aE [(ab 0),(fD (.int a)),(fD (.int b))]) cM))) (nox (iG ns a b)) (fun v=>(.val (.r σ.length),p,σ++[oL D.int v])):=
 sv (Nx (o:=fun v=>oL D.int v) (cq (R':=RT) (post:=(pN (oL D.int) p σ)) (af (sv (aj (a:=ns) (e:=t9) h0)) (af (sv (cD D.int a)) (af (sv (cD D.int b)) ai))) (.d (.d (.d .nil))) rfl (B0 (er:=ns)) (fun _=>rfl)) (fun v=>Mm v))
def Dd(ns:List Int)(a b:Int)(pl:List (List Nat))(deep:Int):M (D×List Int):=((nox (iG ns a b)).bind fun v=>(M.ok ()).bind fun w=>M.ok (v,w)).bind fun z=>nox (gv 4 z.1 pl deep)
theorem Od{p:Pt}{σ:List Ob}{pl:List (List Nat)}{i:Nat}{a b deep:Int}(h0:p[0]? =some (some (.v (.d (t9 ns)))))(hi:p[i]? =some (some (.v (.d (eL D.str pl))))):Ev RT p σ (bF 3 (aE [(vO (bF 3 (aE [(ab 0),(fD (.int a)),(fD (.int b))]) cM)),(ab i),(fD (.int deep))]) (dk 4)) (Dd ns a b pl deep) (fun v=>(.val (.d v.1),p,σ++[oL D.int v.2])):=
 hG (R':=RT) (vs:=fun z:List Int×Unit=>[.r σ.length,.d (eL D.str pl),.d (.int deep)]) (Q:=fun _=>p) (pg:=fun _ v=>(.val (.d v.1),σ++[oL D.int v.2])) (aF (ye h0) (fun d=>af (sv (aj (a:=pl) (e:=eL D.str) (i:=i) hi)) (af (sv (cD D.int deep)) ai))) (fun _=>.d (.d (.d .nil))) (fun _=>rfl) (fun z=>xY 4 (S:=fun dd=>σ++[oL D.int dd]) (n:=σ.length) (fun dd=>by simp) (fun dd dd'=>by simp)) (fun _ _=>rfl)
def Gz(ns:List Int):M (List (List Nat)×List Int):=((nox (iG ns 1 2)).bind fun v=>(M.ok ()).bind fun w=>M.ok (v,w)).bind fun z=>nox (mY z.1)
theorem JM(h0:p[0]? =some (some (.v (.d (t9 ns))))):Ev RT p σ (bF 1 (aE [(vO (bF 3 (aE [(ab 0),(fD (.int 1)),(fD (.int 2))]) cM))]) jQ) (Gz ns) (fun v=>(.new (oL D.str v.1),p,σ++[oL D.int v.2])):=
 hG (R':=RT) (vs:=fun z:List Int×Unit=>[.r σ.length]) (Q:=fun _=>p) (pg:=fun _ v=>(.new (oL D.str v.1),σ++[oL D.int v.2])) (aF (ye h0) (fun d=>ai)) (fun _=>.d .nil) (fun _=>rfl) (fun z=>B7 (S:=fun dd=>σ++[oL D.int dd]) (n:=σ.length) (fun dd=>by simp) (fun dd dd'=>by simp)) (fun _ _=>rfl)
def DK(ns:List Int)(q:D):M (List Nat×List Int):=((nox (cO 4 q)).bind fun t=>((nox (iG ns 500 8)).bind fun v=>(M.ok ()).bind fun w=>M.ok (v,w)).bind fun w=>M.ok (t,w)).bind fun z=>nox (kQ z.1 z.2.1)
theorem NY{q:D}(h0:p[0]? =some (some (.v (.d (t9 ns)))))(h2:p[2]? =some (some (.v (.d (eY q))))):Ev RT p σ (bF 2 (aE [(bF 1 (aE [(ab 2)]) (fM 4)),(vO (bF 3 (aE [(ab 0),(fD (.int 500)),(fD (.int 8))]) cM))]) iQ) (DK ns q) (fun v=>(.val (.d (.str v.1)),p,σ++[oL D.int v.2])):=
 hG (R':=RT) (vs:=fun z:List Nat×List Int×Unit=>[.d (.str z.1),.r σ.length]) (Q:=fun _=>p) (pg:=fun _ v=>(.val (.d (.str v.1)),σ++[oL D.int v.2])) (aF (sv (cq (R':=RT) (post:=pD D.str p σ) (af (sv (aj (a:=q) (e:=eY) h2)) ai) (.d .nil) rfl (B2 4) (fun _=>rfl))) (fun t=>aF (ye h0) (fun d=>ai))) (fun _=>.d (.d .nil)) (fun _=>rfl) (fun z=>Ae (S:=fun dd=>σ++[oL D.int dd]) (n:=σ.length) (fun dd=>by simp) (fun dd dd'=>by simp) (aC:=z.1)) (fun _ _=>rfl)
theorem Md{ns:List Int}(hl:ns.length≤63):Sat (Gz ns) fun v=>th v.1:=by
 unfold Gz
 exact ay (ay (fG (rV hl (by decide) (by decide) (by decide))) fun d _=>aJ (P:=fun _=>True) trivial) fun z _=>fG (Fe z.1)
theorem I6{W:Ws}(hW:th W){ns:List Int}(hl:ns.length≤63):Sat (Dd ns 400 40 W 2) fun q=>GQ 2 q.1:=by
 unfold Dd
 exact ay (ay (fG (rV hl (by decide) (by decide) (by decide))) fun d _=>aJ (P:=fun _=>True) trivial) fun z _=>fG (uj hW 4 2 z.1 (by decide) (by decide) (by decide))
theorem JP{q:Qn}(h:WQ 2 q){ns:List Int}(hl:ns.length≤63):Sat (DK ns (eQ q)) fun v=>v.1.length≤400∧NB v.1<44:=by
 unfold DK
 rw[rY 2 h 1 (by decide)]
 have h1:=oQ 2 h
 have h2:NB (ln q)≤5:=C0 2 q h
 refine ay (P:=fun z:List Nat×List Int×Unit=>z.1=ln q) ?_ fun z hz=>fG (DR (by rw[hz];omega) (by rw[hz];exact h2) z.2.1)
 exact ay (P:=fun t=>t=ln q) (aJ rfl) fun t ht=>ay (P:=fun _=>True) (ay (P:=fun _=>True) (fG (rV hl (by decide) (by decide) (by decide))) fun d _=>aJ trivial) fun w _=>aJ ht
abbrev PQ(ns:List Int)(pl:List (List Nat))(q:D)(X:List Nat)(s4 s5 s6 s8 s9:Option Sl):Pt:=[xd (t9 ns),xd (eL D.str pl),xd (eY q),xd (.str X),s4,s5,s6,none,s8,s9]
theorem Ik(sto:List Ob):iy [.d (.exc "NoText" [])] sto=Res.ok (.val (.d (.bl true))) ⟨[],sto⟩:=by kernel_rfl
theorem E1:lN cU "NoText" "FindError"=some true:=by decide+kernel
theorem Fb:lN cU "NoText" "ValueError"=some true:=by decide+kernel
variable{pl:List (List Nat)}{q:D}{X:List Nat}{s8 s9:Option Sl}
theorem MM(he:d0 X=.exc NT):Sg true RT (PQ ns pl q X (xd .non) (xd .non) (xd .non) s8 s9) σ (ao [ku,jR,jC]) (.ok true) (fun b=>.ret (.val (.d (.bl b))) σ):=by
 intro sg hf
 have he2:=pY (aC:=X)
 rw[he]at he2
 obtain⟨s,he2⟩:=he2
 have he2:dY [.d (.str X)] []=.exc ⟨"NoText",none⟩ s:=he2
 have h3:sg[3]? =some (some (.v (.d (.str X)))):=hf.2 3 _ rfl
 have e0:rQ 1 (aE [(ab 3)]) dY ⟨sg,σ⟩=.exc ⟨"NoText",none⟩ ⟨sg,σ⟩:=by
  have ea:aE [(ab 3)] ⟨sg,σ⟩=.ok [.val (.d (.str X))] ⟨sg,σ⟩:=by simp[h3]
  unfold rQ
  rw[ea,Res.aa]
  have ec:bE [.val (.d (.str X))] ⟨sg,σ⟩=.ok [.d (.str X)] ⟨sg,σ⟩:=by simp
  rw[ec,Res.aa,show rE [Val.d (.str X)]=some [.str X]from rfl]
  dsimp only
  rw[if_pos (show [D.str X].length=1 from rfl),show([D.str X].map Val.d)=[.d (.str X)]from rfl,he2]
  rfl
 have e1:oX ⟨sg,σ⟩=.exc ⟨"NoText",none⟩ ⟨sg,σ⟩:=by
  show ao [(aR 6 (rQ 1 (aE [(ab 3)]) dY))] ⟨sg,σ⟩=_
  rw[lR,xM,e0]
  rfl
 have e12:ku ⟨sg,σ⟩=.ok .nx ⟨((sg.set 7 none).set 5 (some (.v (.d (.exc "NoText" []))))).set 7 none,σ⟩:=by
  show jG cU "FindError" 7 5 oX ⟨sg,σ⟩=_
  unfold jG
  rw[e1]
  dsimp only
  rw[E1]
  rfl
 have hl:sg.length=10:=hf.1.symm
 have h6:(((sg.set 7 none).set 5 (some (.v (.d (.exc "NoText" []))))).set 7 none)[4]? =some (some (.v (.d .non))):=by
  rw[List.getElem?_set_ne (by decide),List.getElem?_set_ne (by decide),List.getElem?_set_ne (by decide)]
  exact hf.2 4 _ rfl
 have h7:(((sg.set 7 none).set 5 (some (.v (.d (.exc "NoText" []))))).set 7 none)[5]? =some (some (.v (.d (.exc "NoText" [])))):=by
  rw[List.getElem?_set_ne (by decide),List.getElem?_set_self (by rw[List.length_set];omega)]
 generalize ((sg.set 7 none).set 5 (some (.v (.d (.exc "NoText" []))))).set 7 none=sg1 at e12 h6 h7
 have e13:jR ⟨sg1,σ⟩=.ok (.ret (.val (.d (.bl true)))) ⟨sg1,σ⟩:=by
  have k:=Ik σ
  have k2:=Fb
  have eb:(gU [(bF 1 (aE [(ab 5)]) iy),(js cU "ValueError" (ab 5))]) ⟨sg1,σ⟩=.ok (.val (.d (.bl true))) ⟨sg1,σ⟩:=by
   have ef:js cU "ValueError" (ab 5) ⟨sg1,σ⟩=.ok (.val (.d (.bl true))) ⟨sg1,σ⟩:=by
    unfold js
    simp[h7,k2]
   have eg:bF 1 (aE [(ab 5)]) iy ⟨sg1,σ⟩=.ok (.val (.d (.bl true))) ⟨sg1,σ⟩:=by
    simp[h7,k]
   unfold gU gU
   rw[C7,pk,eg]
   show ev (js cU "ValueError" (ab 5)) ⟨sg1,σ⟩=_
   rw[pk,ef]
   rfl
  have ec:(aW (ah (ab 4) (fD .non) (aG .is))) ⟨sg1,σ⟩=.ok true ⟨sg1,σ⟩:=by
   simp[h6]
  show cc (aW (ah (ab 4) (fD .non) (aG .is))) (ao [(bq (gU [(bF 1 (aE [(ab 5)]) iy),(js cU "ValueError" (ab 5))]))]) (ao []) ⟨sg1,σ⟩=_
  rw[BR,ec,Res.aa,if_pos rfl]
  refine CS ?_
  rw[n4,eb]
  rfl
 have e14:ao [ku,jR,jC] ⟨sg,σ⟩=.ok (.ret (.val (.d (.bl true)))) ⟨sg1,σ⟩:=(t8 e12).trans (CS e13)
 exact⟨⟨_,sg1,e14,rfl⟩,fun _ s hs=>by rw[e14]at hs;cases hs⟩
theorem Lr{d:D}(he:d0 X=.ok d)(ht:wN d=.ok true)(hq:vK d d=.ok true):Sg true RT (PQ ns pl q X (xd (.tup [d,.str []])) (xd .non) (xd .non) s8 s9) σ (ao [ku,jR,jC]) (.ok true) (fun b=>.ret (.val (.d (.bl b))) σ):=by
 intro sg hf
 have hx:Ev RT (PQ ns pl q X (xd (.tup [d,.str []])) (xd .non) (xd .non) s8 s9) σ oX (d0 X) (fun v=>(.nx,PQ ns pl q X (xd (.tup [d,.str []])) (xd .non) (xd v) s8 s9,σ)):=
  Kb (bY (x:=fun v:D=>.d v) (P:=fun _=>PQ ns pl q X (xd (.tup [d,.str []])) (xd .non) (xd .non) s8 s9) (S:=fun _=>σ) (F5 (R:=RT) (ds:=[D.str X]) (post:=pD eY (PQ ns pl q X (xd (.tup [d,.str []])) (xd .non) (xd .non) s8 s9) σ) (af (sv (aj (a:=X) (e:=D.str) (i:=3) rfl)) ai) (.d .nil) rfl (pY (aC:=X)) (fun _=>rfl) trivial))
 have h1:=hx sg hf
 rw[he]at h1
 obtain⟨sg',e1,hf'⟩:=h1
 have e12:ku ⟨sg,σ⟩=.ok .nx ⟨sg',σ⟩:=by
  show jG cU "FindError" 7 5 oX ⟨sg,σ⟩=_
  unfold jG
  rw[e1]
 rw[show ao [ku,jR,jC] ⟨sg,σ⟩=ao [jR,jC] ⟨sg',σ⟩from t8 e12]
 have h2:Sg true RT (PQ ns pl q X (xd (.tup [d,.str []])) (xd .non) (xd d) s8 s9) σ (ao [jR,jC]) (.ok true) (fun b=>.ret (.val (.d (.bl b))) σ):=by
  refine A6 (p0 (dU (sv (au (sv (aj (a:=D.tup [d,.str []]) (e:=eY) (i:=4) rfl)) (sv (cD eN ())) rZ))) rfl) ?_
  have h0:Ev RT (PQ ns pl q X (xd (.tup [d,.str []])) (xd .non) (xd d) s8 s9) σ (gU [(ah (ab 5) (fD .non) (aG .is)),(BV "tuple" (ab 6)),(ah (ab 6) (ah (ab 4) (fD (.int 0)) bw) (aG .eq))]) (.ok true) (pD .bl (PQ ns pl q X (xd (.tup [d,.str []])) (xd .non) (xd d) s8 s9) σ):=
   p0 (m:=andM (M.ok true) (andM (wN d) ((bP (.tup [d,.str []]) (0:Int)).bind fun a=>vK d a))) (AA (sv (au (sv (aj (a:=D.non) (e:=eY) (i:=5) rfl)) (sv (cD eN ())) rZ)) (AA (sv (Lm (sv (aj (a:=d) (e:=eY) (i:=6) rfl)))) (Ci (sv (cC (sv (aj (a:=d) (e:=eY) (i:=6) rfl)) (sv (au (sv (aj (a:=D.tup [d,.str []]) (e:=eY) (i:=4) rfl)) (sv (cD D.int 0)) dB)) fun a=>NO aT aT))))) (by
    rw[ht,show bP (.tup [d,.str []]) (0:Int)=.ok d from rfl,M.aa,hq]
    rfl)
  exact aV (il (x:=fun b=>.d (.bl b)) h0 rfl)
 exact h2 sg' hf'
end
end K82
namespace K82
open PySem L2 PyProof.Rows Vw
section
variable{ns:List Int}{pl:List (List Nat)}{q:D}{X:List Nat}{σ:List Ob}
theorem Kt{k:Nat}{d:D}(h:QS k d):wN d=.ok true:=by cases h<;> rfl
theorem Lq{d:D}{nest:Nat}(h:fB d=true)(hn:nest≤7)(hd:∀ n,2*nest+3≤n→gR n d=true):vK d d=.ok true:=by
 obtain⟨h1,h2⟩:=FE (d:=d) 17 (by decide) h (hd 17 (by omega))
 unfold vK
 rw[if_pos h1,h2]
theorem ED(he:d0 X=.exc NT):Sg true RT (PQ ns pl q X (xd .non) none none none none) σ (ao [x8,yf,x3,ku,jR,jC]) (.ok true) (fun b=>.ret (.val (.d (.bl b))) σ):=by
 refine A6 (p0 (dU (sv (au (sv (aj (a:=D.non) (e:=eY) (i:=4) rfl)) (sv (cD eN ())) xu))) rfl) ?_
 refine eB (PQ ns pl q X (xd .non) (xd .non) none none none) (bY (cD eN ())) rfl ?_
 refine eB (PQ ns pl q X (xd .non) (xd .non) (xd .non) none none) (bY (cD eN ())) rfl ?_
 exact MM he
theorem JO(hX:X.length≤400)(hn:NB X<44):∃ due,gn 44 X=.ok due∧Sg true RT (PQ ns pl q X (xd due) none none none none) σ (ao [Ct,x8,yf,x3,ku,jR,jC]) (.ok true) (fun b=>.ret (.val (.d (.bl b))) σ):=by
 rcases JW (X:=X) (by omega) hn with⟨e1,e2⟩ | ⟨d,Y,e1,hq,h2⟩
 ·refine⟨_,e1,?_⟩
  refine A6 (p0 (om (dU (sv (au (sv (aj (a:=D.non) (e:=eY) (i:=4) rfl)) (sv (cD eN ())) xu))) (lZ (tB (b:=fun v=>v) (sv (bV (sv (au (sv (aj (a:=D.non) (e:=eY) (i:=4) rfl)) (sv (cD D.int 1)) dB)) (fun a=>sv (cD D.str (sS ""))) fun a=>Kl aT aT))))) rfl) ?_
  exact ED e2
 ·refine⟨_,e1,?_⟩
  have hts:∀ Y:List Nat,((bP (.tup [d,.str Y]) (1:Int)).bind fun a=>(vK a (.str (sS ""))).bind fun k=>M.ok (!k))=.ok (!decide (Y=[])):=fun Y=>by
   rw[show bP (.tup [d,.str Y]) (1:Int)=.ok (.str Y)from rfl,M.aa,GY]
   unfold vK
   rw[if_pos (show gp (.str Y) (.str [])=true from rfl),yD]
   rfl
  have ht4:Ev RT (PQ ns pl q X (xd (.tup [d,.str Y])) none none none none) σ (iL [(aW (ah (ab 4) (fD .non) (aG .isn))),(aW (ah (ah (ab 4) (fD (.int 1)) bw) (fD (.str (sS ""))) (aG .ne)))]) (.ok (!decide (Y=[]))) (pB (PQ ns pl q X (xd (.tup [d,.str Y])) none none none none) σ):=
   p0 (om (dU (sv (au (sv (aj (a:=D.tup [d,.str Y]) (e:=eY) (i:=4) rfl)) (sv (cD eN ())) xu))) (lZ (tB (b:=fun v=>v) (sv (bV (sv (au (sv (aj (a:=D.tup [d,.str Y]) (e:=eY) (i:=4) rfl)) (sv (cD D.int 1)) dB)) (fun a=>sv (cD D.str (sS ""))) fun a=>Kl aT aT))))) (by
    rw[←hts Y]
    rfl)
  rcases h2 with⟨hY,e2⟩ | ⟨hY,e2⟩
  ·subst hY
   refine A6 ht4 ?_
   obtain⟨m,nest,hs,hd⟩:=HZ hq 48 1 (by decide)
   refine Dw (p0 (dU (sv (au (sv (aj (a:=D.tup [d,.str []]) (e:=eY) (i:=4) rfl)) (sv (cD eN ())) xu))) rfl) ?_
   refine eB (PQ ns pl q X (xd (.tup [d,.str []])) none none (xd (.int m)) (xd (.int (1+(nest:Int))))) (p0 (m':=.ok (m,1+(nest:Int))) (M9 (x:=fun v:Int×Int=>.d (jK D.int D.int v)) (P:=fun _=>PQ ns pl q X (xd (.tup [d,.str []])) none none none none) (S:=fun _=>σ) (sv (cq (R':=RT) (post:=pD (jK D.int D.int) (PQ ns pl q X (xd (.tup [d,.str []])) none none none none) σ) (af (sv (Qa (e:=eY) (a:=d) (j:=4) rfl rfl)) (af (sv (cD D.int 1)) ai)) (.d (.d .nil)) rfl (Ce 48 (az:=d) (aU:=1)) (fun _=>rfl))) (fun v=>Fc rfl rfl (uT jD (uT jD Du)))) (by rw[hs];rfl)) rfl ?_
   have hor:Ev RT (PQ ns pl q X (xd (.tup [d,.str []])) none none (xd (.int m)) (xd (.int (1+(nest:Int))))) σ (jy [(aW (ah (ab 8) (fD (.int 30)) (aG .gt))),(aW (ah (ab 9) (fD (.int 8)) (aG .gt)))]) (orM (M.ok (decide ((30:Int)<m))) (M.ok (decide ((8:Int)<1+(nest:Int))))) (pB (PQ ns pl q X (xd (.tup [d,.str []])) none none (xd (.int m)) (xd (.int (1+(nest:Int))))) σ):=
    nQ (dU (sv (au (sv (aj (a:=m) (e:=D.int) (i:=8) rfl)) (sv (cD D.int 30)) rR))) (kM (dU (sv (au (sv (aj (a:=1+(nest:Int)) (e:=D.int) (i:=9) rfl)) (sv (cD D.int 8)) rR))))
   by_cases hb:(30:Int)<m∨(8:Int)<1+(nest:Int)
   ·refine Dw (p0 hor (by
     rcases hb with h | h
     ·rw[decide_eq_true h];rfl
     ·rw[decide_eq_true h,d4];split<;> rfl)) ?_
    exact aV (il (cD D.bl true) rfl)
   ·refine A6 (p0 hor (by
     rw[decide_eq_false (fun h=>hb (.inl h)),decide_eq_false (fun h=>hb (.inr h))]
     rfl)) ?_
    have hn7:nest≤7:=by
     have:¬ (8:Int)<1+(nest:Int):=fun h=>hb (.inr h)
     omega
    refine eB (PQ ns pl q X (xd (.tup [d,.str []])) (xd .non) none (xd (.int m)) (xd (.int (1+(nest:Int))))) (bY (cD eN ())) rfl ?_
    refine eB (PQ ns pl q X (xd (.tup [d,.str []])) (xd .non) (xd .non) (xd (.int m)) (xd (.int (1+(nest:Int))))) (bY (cD eN ())) rfl ?_
    exact Lr e2 (Kt hq) (Lq (MC hq) hn7 hd)
  ·refine Dw (p0 ht4 (by rw[decide_eq_false hY];rfl)) ?_
   refine eB (PQ ns pl q X (xd .non) none none none none) (bY (cD eN ())) rfl ?_
   exact ED e2
theorem MS{d1 d2 d3:List Int}(hp:Gz ns=.ok (pl,d1))(hq:Dd ns 400 40 pl 2=.ok (q,d2))(h3:DK ns q=.ok (X,d3))(hX:X.length≤400)(hn:NB X<44):∃ st,fQ RT xa [.d (t9 ns)] [] (.ok true) (fun b=>(.val (.d (.bl b)),st)):=by
 obtain⟨σ2,e2⟩:∃ σ2,σ2=[oL D.int d1]++[oL D.int d2]:=⟨_,rfl⟩
 obtain⟨σ3,e3⟩:∃ σ3,σ3=σ2++[oL D.int d3]:=⟨_,rfl⟩
 obtain⟨due,hdue,hs⟩:=JO (ns:=ns) (pl:=pl) (q:=q) (σ:=σ3) hX hn
 refine⟨σ3,gq (N:=10) (b:=DF) ?_⟩
 refine t4 [xd (t9 ns),xd (eL D.str pl),none,none,none,none,none,none,none,none] [oL D.int d1] (p0 (Of (nV (JM rfl)) (fun v=>bS _ v.1) (fun _=>blt rfl)) hp) rfl rfl ?_
 refine t4 [xd (t9 ns),xd (eL D.str pl),xd (eY q),none,none,none,none,none,none,none] σ2 (p0 (bY (x:=fun v=>.d v.1) (Od (i:=1) (pl:=pl) rfl rfl)) hq) rfl e2.symm ?_
 refine t4 [xd (t9 ns),xd (eL D.str pl),xd (eY q),xd (.str X),none,none,none,none,none,none] σ3 (p0 (bY (x:=fun v=>.d (.str v.1)) (NY (q:=q) rfl rfl)) h3) rfl e3.symm ?_
 refine t4 (PQ ns pl q X (xd due) none none none none) σ3 (p0 (m':=M.ok due) (bY (x:=fun v=>.d v) (cq (R':=RT) (post:=pD eY [xd (t9 ns),xd (eL D.str pl),xd (eY q),xd (.str X),none,none,none,none,none,none] σ3) (af (sv (aj (a:=X) (e:=D.str) (i:=3) rfl)) ai) (.d .nil) rfl (Cb 44) (fun _=>rfl))) (by rw[hdue];rfl)) rfl rfl ?_
 exact hs
end
theorem JH(ns:List Int)(hl:ns.length≤63):∃ s,xa [FR ns] []=.ok (.val (.d (.bl true))) s:=by
 obtain⟨⟨pl,d1⟩,hp,hW⟩:=Md hl
 obtain⟨⟨v,d2⟩,hq,⟨q,ev,hw⟩⟩:=I6 hW hl
 have ev:v=eQ q:=ev
 subst ev
 obtain⟨⟨X,d3⟩,h3,h4⟩:=JP hw hl
 obtain⟨st,s⟩:=MS hp hq h3 h4.1 h4.2
 exact⟨⟨[],st⟩,s⟩
end K82
namespace K82
open PySem L2 PyProof.Rows Vw
theorem B5:NM "AskReader":=⟨by decide,by decide⟩
theorem n7:NM "FIGURES":=⟨by decide,by decide⟩
theorem tM:NM "FindError":=⟨by decide,by decide⟩
theorem lT:NM "LETTERS":=⟨by decide,by decide⟩
theorem C5:NM "NoBytes":=⟨by decide,by decide⟩
theorem zU:NM "NoDocument":=⟨by decide,by decide⟩
theorem DP:NM "NoField":=⟨by decide,by decide⟩
theorem Eh:NM "NoLine":=⟨by decide,by decide⟩
theorem D0:NM "NoMake":=⟨by decide,by decide⟩
theorem BH:NM "NoPattern":=⟨by decide,by decide⟩
theorem Dy:NM "NoPiece":=⟨by decide,by decide⟩
theorem Dj:NM "NoStamp":=⟨by decide,by decide⟩
theorem zB:NM "NoText":=⟨by decide,by decide⟩
theorem Ad:NM "_law_asked":=⟨by decide,by decide⟩
theorem bN:NM "_law_at":=⟨by decide,by decide⟩
theorem ui:NM "_law_cell":=⟨by decide,by decide⟩
theorem kN:NM "_law_cells":=⟨by decide,by decide⟩
theorem gx:NM "_law_deep":=⟨by decide,by decide⟩
theorem nK:NM "_law_draws":=⟨by decide,by decide⟩
theorem bM:NM "_law_draws_here":=⟨by decide,by decide⟩
theorem jP:NM "_law_due":=⟨by decide,by decide⟩
theorem Ca:NM "_law_end":=⟨by decide,by decide⟩
theorem ub:NM "_law_ends":=⟨by decide,by decide⟩
theorem eF:NM "_law_error":=⟨by decide,by decide⟩
theorem zJ:NM "_law_field":=⟨by decide,by decide⟩
theorem dt:NM "_law_field_here":=⟨by decide,by decide⟩
theorem bG:NM "_law_found":=⟨by decide,by decide⟩
theorem m9:NM "_law_k":=⟨by decide,by decide⟩
theorem oY:NM "_law_kept":=⟨by decide,by decide⟩
theorem cZ:NM "_law_kind":=⟨by decide,by decide⟩
theorem kR:NM "_law_lefts":=⟨by decide,by decide⟩
theorem aA:NM "_law_line":=⟨by decide,by decide⟩
theorem qX:NM "_law_listed":=⟨by decide,by decide⟩
theorem bj:NM "_law_many":=⟨by decide,by decide⟩
theorem Cd:NM "_law_mix":=⟨by decide,by decide⟩
theorem Bh:NM "_law_more":=⟨by decide,by decide⟩
theorem ug:NM "_law_most":=⟨by decide,by decide⟩
theorem a0:NM "_law_number":=⟨by decide,by decide⟩
theorem gT:NM "_law_one":=⟨by decide,by decide⟩
theorem A9:NM "_law_ones":=⟨by decide,by decide⟩
theorem AM:NM "_law_only":=⟨by decide,by decide⟩
theorem xD:NM "_law_pattern":=⟨by decide,by decide⟩
theorem Be:NM "_law_pool":=⟨by decide,by decide⟩
theorem cE:NM "_law_pool_here":=⟨by decide,by decide⟩
theorem i7:NM "_law_pop":=⟨by decide,by decide⟩
theorem Cf:NM "_law_put":=⟨by decide,by decide⟩
theorem kZ:NM "_law_question":=⟨by decide,by decide⟩
theorem aH:NM "_law_question_here":=⟨by decide,by decide⟩
theorem lU:NM "_law_read":=⟨by decide,by decide⟩
theorem qe:NM "_law_run":=⟨by decide,by decide⟩
theorem kq:NM "_law_script":=⟨by decide,by decide⟩
theorem nP:NM "_law_shown":=⟨by decide,by decide⟩
theorem fI:NM "_law_sign":=⟨by decide,by decide⟩
theorem nS:NM "_law_signs":=⟨by decide,by decide⟩
theorem oR:NM "_law_size":=⟨by decide,by decide⟩
theorem nW:NM "_law_size_here":=⟨by decide,by decide⟩
theorem sG:NM "_law_sizes":=⟨by decide,by decide⟩
theorem A4:NM "_law_some":=⟨by decide,by decide⟩
theorem yg:NM "_law_spoilt":=⟨by decide,by decide⟩
theorem j8:NM "_law_stem":=⟨by decide,by decide⟩
theorem jk:NM "_law_text":=⟨by decide,by decide⟩
theorem ib:NM "_law_tilde":=⟨by decide,by decide⟩
theorem jo:NM "_law_turn":=⟨by decide,by decide⟩
theorem tE:NM "_law_wild":=⟨by decide,by decide⟩
theorem fK:NM "_law_word":=⟨by decide,by decide⟩
theorem gB:NM "_law_words":=⟨by decide,by decide⟩
theorem BO:NM "begin":=⟨by decide,by decide⟩
theorem JX:NM "e":=⟨by decide,by decide⟩
theorem Es:NM "end":=⟨by decide,by decide⟩
theorem lg:NM "field":=⟨by decide,by decide⟩
theorem kc:NM "found":=⟨by decide,by decide⟩
theorem HQ:NM "good":=⟨by decide,by decide⟩
theorem nk:NM "int":=⟨by decide,by decide⟩
theorem ni:("int":Str)≠"__name__":=by decide
theorem wq:NM "kinds":=⟨by decide,by decide⟩
theorem gG:NM "len":=⟨by decide,by decide⟩
theorem gJ:("len":Str)≠"__name__":=by decide
theorem x9:NM "line":=⟨by decide,by decide⟩
theorem IQ:NM "max":=⟨by decide,by decide⟩
theorem Kw:("max":Str)≠"__name__":=by decide
theorem HY:NM "most":=⟨by decide,by decide⟩
theorem wG:NM "read_question":=⟨by decide,by decide⟩
theorem tj:NM "reader":=⟨by decide,by decide⟩
theorem pq:NM "row":=⟨by decide,by decide⟩
theorem aM:NM "self":=⟨by decide,by decide⟩
theorem ux:NM "sign":=⟨by decide,by decide⟩
theorem FH:NM "signs":=⟨by decide,by decide⟩
theorem A1:NM "str":=⟨by decide,by decide⟩
theorem Bo:("str":Str)≠"__name__":=by decide
theorem I7:NM "sum":=⟨by decide,by decide⟩
theorem IY:("sum":Str)≠"__name__":=by decide
theorem uu:NM "text":=⟨by decide,by decide⟩
theorem Fm:NM "tuple":=⟨by decide,by decide⟩
theorem E5:("tuple":Str)≠"__name__":=by decide
theorem EZ:NM "width":=⟨by decide,by decide⟩
structure Fx (P:Program) (w:World) (K:PySem.W.Frag) (mg:Str→Option Value) (base:Heap) (cA:String→Addr) where
 f__law_pop:Addr
 d__law_pop:FuncData
 F__law_pop:jm K "_law_pop" "_law_pop" (top 19) f__law_pop d__law_pop
 B__law_pop:Binds K d__law_pop ["_law_draws_here"] []
 cz:mg "_law_pop"=some (.ref f__law_pop)
 f__law_pool:Addr
 d__law_pool:FuncData
 F__law_pool:jm K "_law_pool" "_law_pool" (top 20) f__law_pool d__law_pool
 B__law_pool:Binds K d__law_pool ["_law_draws_here"] []
 jQ:mg "_law_pool"=some (.ref f__law_pool)
 f__law_mix:Addr
 d__law_mix:FuncData
 F__law_mix:jm K "_law_mix" "_law_mix" (top 17) f__law_mix d__law_mix
 B__law_mix:Binds K d__law_mix ["_law_cell","_law_turn"] []
 lV:mg "_law_mix"=some (.ref f__law_mix)
 f__law_draws:Addr
 d__law_draws:FuncData
 F__law_draws:jm K "_law_draws" "_law_draws" (top 18) f__law_draws d__law_draws
 B__law_draws:Binds K d__law_draws ["_law_script","_law_turn","_law_many"] []
 cM:mg "_law_draws"=some (.ref f__law_draws)
 f__law_field:Addr
 d__law_field:FuncData
 F__law_field:jm K "_law_field" "_law_field" (top 21) f__law_field d__law_field
 B__law_field:Binds K d__law_field ["_law_draws_here"] []
 j0:mg "_law_field"=some (.ref f__law_field)
 f__law_pattern:Addr
 d__law_pattern:FuncData
 F__law_pattern:jm K "_law_pattern" "_law_pattern" (top 22) f__law_pattern d__law_pattern
 B__law_pattern:Binds K d__law_pattern ["_law_draws_here","_law_pool_here"] []
 jq:mg "_law_pattern"=some (.ref f__law_pattern)
 f__law_question:Addr
 d__law_question:FuncData
 F__law_question:jm K "_law_question" "_law_question" (top 23) f__law_question d__law_question
 B__law_question:Binds K d__law_question ["_law_draws_here","_law_pool_here","_law_deep"] []
 dk:mg "_law_question"=some (.ref f__law_question)
 f__law_spoilt:Addr
 d__law_spoilt:FuncData
 F__law_spoilt:jm K "_law_spoilt" "_law_spoilt" (top 31) f__law_spoilt d__law_spoilt
 B__law_spoilt:Binds K d__law_spoilt ["_law_line","_law_draws_here"] []
 iQ:mg "_law_spoilt"=some (.ref f__law_spoilt)
 f__law_shown:Addr
 d__law_shown:FuncData
 F__law_shown:jm K "_law_shown" "_law_shown" (top 24) f__law_shown d__law_shown
 B__law_shown:Binds K d__law_shown ["_law_question_here"] []
 fM:mg "_law_shown"=some (.ref f__law_shown)
 f__law_put:Addr
 d__law_put:FuncData
 F__law_put:jm K "_law_put" "_law_put" (top 28) f__law_put d__law_put
 B__law_put:Binds K d__law_put ["_law_line"] []
 lO:mg "_law_put"=some (.ref f__law_put)
 f__law_run:Addr
 d__law_run:FuncData
 F__law_run:jm K "_law_run" "_law_run" (top 25) f__law_run d__law_run
 B__law_run:Binds K d__law_run ["_law_line","_law_signs"] []
 iq:mg "_law_run"=some (.ref f__law_run)
 f__law_listed:Addr
 d__law_listed:FuncData
 F__law_listed:jm K "_law_listed" "_law_listed" (top 26) f__law_listed d__law_listed
 B__law_listed:Binds K d__law_listed ["_law_line","_law_end"] []
 hV:mg "_law_listed"=some (.ref f__law_listed)
 f__law_asked:Addr
 d__law_asked:FuncData
 F__law_asked:jm K "_law_asked" "_law_asked" (top 27) f__law_asked d__law_asked
 B__law_asked:Binds K d__law_asked ["_law_field_here","_law_line"] []
 ke:mg "_law_asked"=some (.ref f__law_asked)
 f__law_read:Addr
 d__law_read:FuncData
 F__law_read:jm K "_law_read" "_law_read" (top 29) f__law_read d__law_read
 B__law_read:Binds K d__law_read ["_law_line"] []
 fN:mg "_law_read"=some (.ref f__law_read)
 f__law_size:Addr
 d__law_size:FuncData
 F__law_size:jm K "_law_size" "_law_size" (top 32) f__law_size d__law_size
 B__law_size:Binds K d__law_size ["_law_question_here","_law_deep"] []
 gW:mg "_law_size"=some (.ref f__law_size)
 jw:Addr
 gi:FuncData
 F_AskReader____init__:jm K "__init__" "AskReader.__init__" (fu 14 0) jw gi
 B_AskReader____init__:Binds K gi ["self","line"] []
 f_AskReader__begins:Addr
 d_AskReader__begins:FuncData
 F_AskReader__begins:jm K "begins" "AskReader.begins" (fu 14 2) f_AskReader__begins d_AskReader__begins
 B_AskReader__begins:Binds K d_AskReader__begins ["self","text"] []
 ax:Meth K (cA "AskReader") (Str.ofString "begins") f_AskReader__begins
 f_AskReader__sure:Addr
 d_AskReader__sure:FuncData
 F_AskReader__sure:jm K "sure" "AskReader.sure" (fu 14 1) f_AskReader__sure d_AskReader__sure
 B_AskReader__sure:Binds K d_AskReader__sure ["self","good"] []
 bD:Meth K (cA "AskReader") (Str.ofString "sure") f_AskReader__sure
 f_AskReader__eat:Addr
 d_AskReader__eat:FuncData
 F_AskReader__eat:jm K "eat" "AskReader.eat" (fu 14 3) f_AskReader__eat d_AskReader__eat
 B_AskReader__eat:Binds K d_AskReader__eat ["self","text"] []
 av:Meth K (cA "AskReader") (Str.ofString "eat") f_AskReader__eat
 f_AskReader__row_of:Addr
 d_AskReader__row_of:FuncData
 F_AskReader__row_of:jm K "row_of" "AskReader.row_of" (fu 14 4) f_AskReader__row_of d_AskReader__row_of
 B_AskReader__row_of:Binds K d_AskReader__row_of ["self","signs","most"] []
 aI:Meth K (cA "AskReader") (Str.ofString "row_of") f_AskReader__row_of
 f_AskReader__many:Addr
 d_AskReader__many:FuncData
 F_AskReader__many:jm K "many" "AskReader.many" (fu 14 7) f_AskReader__many d_AskReader__many
 B_AskReader__many:Binds K d_AskReader__many ["self"] []
 ik:Meth K (cA "AskReader") (Str.ofString "many") f_AskReader__many
 f_AskReader__words:Addr
 d_AskReader__words:FuncData
 F_AskReader__words:jm K "words" "AskReader.words" (fu 14 5) f_AskReader__words d_AskReader__words
 B_AskReader__words:Binds K d_AskReader__words ["self","end"] []
 bW:Meth K (cA "AskReader") (Str.ofString "words") f_AskReader__words
 f_AskReader__asked:Addr
 d_AskReader__asked:FuncData
 F_AskReader__asked:jm K "asked" "AskReader.asked" (fu 14 6) f_AskReader__asked d_AskReader__asked
 B_AskReader__asked:Binds K d_AskReader__asked ["self","field"] []
 fZ:Meth K (cA "AskReader") (Str.ofString "asked") f_AskReader__asked
 f_AskReader__question:Addr
 d_AskReader__question:FuncData
 F_AskReader__question:jm K "question" "AskReader.question" (fu 14 8) f_AskReader__question d_AskReader__question
 B_AskReader__question:Binds K d_AskReader__question ["self"] []
 bb:Meth K (cA "AskReader") (Str.ofString "question") f_AskReader__question
 f_read_question:Addr
 d_read_question:FuncData
 F_read_question:jm K "read_question" "read_question" (top 15) f_read_question d_read_question
 B_read_question:Binds K d_read_question ["line"] []
 dY:mg "read_question"=some (.ref f_read_question)
 f__law_only:Addr
 d__law_only:FuncData
 F__law_only:jm K "_law_only" "_law_only" (top 30) f__law_only d__law_only
 B__law_only:Binds K d__law_only ["_law_error"] []
 iy:mg "_law_only"=some (.ref f__law_only)
 f_law:Addr
 d_law:FuncData
 F_law:jm K "law" "law" (top 33) f_law d_law
 B_law:Binds K d_law ["_law_script"] []
 xa:mg "law"=some (.ref f_law)
 b_ValueError:mg "ValueError"=none
 b_enumerate:mg "enumerate"=none
 b_int:mg "int"=none
 b_isinstance:mg "isinstance"=none
 b_len:mg "len"=none
 b_max:mg "max"=none
 b_range:mg "range"=none
 b_str:mg "str"=none
 b_sum:mg "sum"=none
 b_tuple:mg "tuple"=none
 t_FIGURES:Tok
 c_FIGURES:mg "FIGURES"=some (.str "0123456789" t_FIGURES)
 t_LETTERS:Tok
 c_LETTERS:mg "LETTERS"=some (.str "abcdefghijklmnopqrstuvwxyz" t_LETTERS)
 gc_AskReader:mg (Str.ofString "AskReader")=some (.ref (cA "AskReader"))
 gc_FindError:mg (Str.ofString "FindError")=some (.ref (cA "FindError"))
 gc_NoBytes:mg (Str.ofString "NoBytes")=some (.ref (cA "NoBytes"))
 gc_NoDocument:mg (Str.ofString "NoDocument")=some (.ref (cA "NoDocument"))
 gc_NoField:mg (Str.ofString "NoField")=some (.ref (cA "NoField"))
 gc_NoLine:mg (Str.ofString "NoLine")=some (.ref (cA "NoLine"))
 gc_NoMake:mg (Str.ofString "NoMake")=some (.ref (cA "NoMake"))
 gc_NoPattern:mg (Str.ofString "NoPattern")=some (.ref (cA "NoPattern"))
 gc_NoPiece:mg (Str.ofString "NoPiece")=some (.ref (cA "NoPiece"))
 gc_NoStamp:mg (Str.ofString "NoStamp")=some (.ref (cA "NoStamp"))
 gc_NoText:mg (Str.ofString "NoText")=some (.ref (cA "NoText"))
 ex_NoText:ExF K (cA "NoText")
 em_FindError:EM cU K cA "FindError" (.ref (cA "FindError"))
 ek_FindError:ExK cU K cA "FindError" (.ref (cA "FindError"))
 ek_NoBytes:ExK cU K cA "NoBytes" (.ref (cA "NoBytes"))
 ek_NoDocument:ExK cU K cA "NoDocument" (.ref (cA "NoDocument"))
 ek_NoField:ExK cU K cA "NoField" (.ref (cA "NoField"))
 ek_NoLine:ExK cU K cA "NoLine" (.ref (cA "NoLine"))
 ek_NoMake:ExK cU K cA "NoMake" (.ref (cA "NoMake"))
 ek_NoPattern:ExK cU K cA "NoPattern" (.ref (cA "NoPattern"))
 ek_NoPiece:ExK cU K cA "NoPiece" (.ref (cA "NoPiece"))
 ek_NoStamp:ExK cU K cA "NoStamp" (.ref (cA "NoStamp"))
 ek_NoText:ExK cU K cA "NoText" (.ref (cA "NoText"))
 ek_ValueError:ExK cU K cA "ValueError" (.type "ValueError")
 cl_AskReader:Cls K (cA "AskReader")
 k_AskReader:Mk K (cA "AskReader") jw
 fld:tD K cA fT
section
variable{P:Program}{w:World}{K:PySem.W.Frag}{mg:Str→Option Value}{base:Heap}{cA:String→Addr}
theorem vA:FnScope ["_law_draws_here"] ["_law_draws_here"] (defScope (top 19)):=jg
theorem cu(E:Fx P w K mg base cA):FnOk P w K mg base CX0 2 E.f__law_pop E.d__law_pop ["_law_draws_here"] (dV cA 1 cz):=by
 refine jW (k:=1) E.F__law_pop vA rfl rfl fun cdv A outer s H E0 C hr hC=>?_
 have hu:=hr.units
 have nodupN:=vA.nd
 unfold oz
 exact(ae (Vw.bR (dA hu (va bM) (bZ ak) rfl) (ae (aZ vi) aq) aq) (ae (aZ (Mx F.plainAttrs_list F.slot_list_pop F.type_list_pop mt_pop IC o5 (va bM) rfl rfl)) aq))
theorem uc:FnScope ["_law_draws_here","_law_number","_law_stem"] ["_law_draws_here"] (defScope (top 20)):=jg
theorem oV(E:Fx P w K mg base cA):FnOk P w K mg base CX0 4 E.f__law_pool E.d__law_pool ["_law_draws_here"] (dV cA 1 jQ):=by
 have cu:=cu E
 refine jW (k:=3) E.F__law_pool uc rfl rfl fun cdv A outer s H E0 C hr hC=>?_
 have hu:=hr.units
 have nodupN:=uc.nd
 unfold vv
 exact(ae (vg nodupN (x_call hC cu (hr.mono (by omega)) rfl E.cz E.F__law_pop.kp E.B__law_pop pass0 rfl (vc (va bM) ak) i7.1 rfl)) (ae (vg nodupN (cb (cb aD (bu (dZ (va a0) vi)) bU) bU (bu (dZ (ie (va a0) vi) vi)))) (ae (aZ (aQ (bZ (vc (aQ (va j8) aD) (vc (aQ (va j8) aD) (vc (aQ (va j8) aD) (vc (aQ aD (va j8)) (vc aD ak)))))) (bZ (vc (aQ (va j8) (mf aD (vx hu (bZ (vc vi (vc vi (vc vi (vc vi ak))))) (dZ (ie (va a0) vi) vi)))) ak)))) aq)))
theorem vz:FnScope ["_law_cell","_law_turn","_law_number"] ["_law_cell","_law_turn"] (defScope (top 17)):=jg
theorem qn(E:Fx P w K mg base cA):FnOk P w K mg base CX0 2 E.f__law_mix E.d__law_mix ["_law_cell","_law_turn"] (dV cA 2 lV):=by
 refine jW (k:=1) E.F__law_mix vz rfl rfl fun cdv A outer s H E0 C hr hC=>?_
 have hu:=hr.units
 have nodupN:=vz.nd
 unfold xv
 exact(ae (vg nodupN (dZ (mf (aQ (aQ (dZ (va ui) vi) (mf (mf (va jo) (va jo)) vi)) vi) vi) vi)) (ae (aZ (dZ (aQ (mf (va a0) (va a0)) (mf vi (va jo))) vi)) aq))
theorem sx:FnScope ["_law_script","_law_turn","_law_many","_law_cells","_law_lefts","_law_found","_law_k","_law_at","_law_number","_law_cell"] ["_law_script","_law_turn","_law_many"] (defScope (top 18)):=jg
theorem jI(E:Fx P w K mg base cA):FnOk P w K mg base CX0 4 E.f__law_draws E.d__law_draws ["_law_script","_law_turn","_law_many"] (dV cA 3 cM):=by
 have qn:=qn E
 refine jW (k:=3) E.F__law_draws sx rfl rfl fun cdv A outer s H E0 C hr hC=>?_
 have hu:=hr.units
 have nodupN:=sx.nd
 unfold lI
 exact(ae (vg nodupN (aQ (cb (va kq) bU (bu vi)) (bZ (vc (va jo) ak)))) (ae (uG hC [("_law_cell",9)] rfl rfl nodupN rfl rfl rfl rfl (by kernel_rfl) (Bu (va kN)) (by kernel_rfl) (fun s H D cl fp C hC=>⟨(tn nodupN),nh,(ie (va ui) vi)⟩) rfl (by decide)) (ae (vg nodupN (bZ ak)) (ae (xU hC PassesOwn.never rfl (xG (vc (aQ (va jo) (va bj)) ak) rfl E.b_range rfl) (fun C hC hW=>(tn nodupN)) (fun C hC hW=>(ae (vg nodupN (dZ (va m9) (ip call_len (fH _) rfl E.b_len gH (vc (va kN) ak) rfl gJ gG.1))) (ae (vg nodupN (x_call hC qn (hr.mono (by omega)) rfl E.lV E.F__law_mix.kp E.B__law_mix pass0 rfl (vc (vx hu (va kN) (va bN)) (vc (va m9) ak)) Cd.1 rfl)) (ae (vg nodupN (dZ (aQ (mf (va a0) (va a0)) (mf vi (va m9))) vi)) (ae (Vw.bR (PW.pt (Vw.v_and (ME hu (vx hu (va kN) (va bN)) (Mi vi vi) rfl) (Vw.m7 (oo hu (vx hu (va kR) (va bN)) vi rfl)))) (ae (vg nodupN (dZ (vx hu (va kR) (va bN)) vi)) (ae (Mw hu (va kR) (va bN) (ie (vx hu (va kR) (va bN)) vi) rfl rfl) aq)) aq) (ae (cS (y9 F.plainAttrs_list F.slot_list_append F.type_list_append mt_append km o5 (va bG) (vc (va a0) ak) rfl rfl (by decide) rfl) rfl) aq)))))) rfl) (ae (aZ (cb (va bG) (bu (va jo)) bU)) aq)))))
theorem sH:FnScope ["_law_draws_here"] ["_law_draws_here"] (defScope (top 21)):=jg
theorem nO(E:Fx P w K mg base cA):FnOk P w K mg base CX0 4 E.f__law_field E.d__law_field ["_law_draws_here"] (dV cA 1 j0):=by
 have cu:=cu E
 refine jW (k:=3) E.F__law_field sH rfl rfl fun cdv A outer s H E0 C hr hC=>?_
 have hu:=hr.units
 have nodupN:=sH.nd
 unfold tO
 exact(ae (aZ (vx hu (bZ (vc aD (vc aD (vc aD (vc aD (vc aD (vc aD ak))))))) (dZ (x_call hC cu (hr.mono (by omega)) rfl E.cz E.F__law_pop.kp E.B__law_pop pass0 rfl (vc (va bM) ak) i7.1 rfl) vi))) aq)
theorem pX:FnScope ["_law_draws_here","_law_pool_here","_law_number","_law_word","_law_at","_law_some"] ["_law_draws_here","_law_pool_here"] (defScope (top 22)):=jg
theorem mn(E:Fx P w K mg base cA):FnOk P w K mg base CX0 4 E.f__law_pattern E.d__law_pattern ["_law_draws_here","_law_pool_here"] (dV cA 2 jq):=by
 have cu:=cu E
 refine jW (k:=3) E.F__law_pattern pX rfl rfl fun cdv A outer s H E0 C hr hC=>?_
 have hu:=hr.units
 have nodupN:=pX.nd
 unfold qT
 exact(ae (vg nodupN (x_call hC cu (hr.mono (by omega)) rfl E.cz E.F__law_pop.kp E.B__law_pop pass0 rfl (vc (va bM) ak) i7.1 rfl)) (ae (vg nodupN (vx hu (aQ (va cE) (bZ (vc aD ak))) (dZ (va a0) (aQ (ip call_len (fH _) rfl E.b_len gH (vc (va cE) ak) rfl gJ gG.1) vi)))) (ae (vg nodupN (dZ (ie (va a0) vi) (ip call_len (fH _) rfl E.b_len gH (vc (va fK) ak) rfl gJ gG.1))) (ae (vg nodupN (bZ (vc (aQ (cb (va fK) bU (bu (va bN))) aD) (vc (aQ aD (cb (va fK) (bu (va bN)) bU)) (vc (aQ (aQ (cb (va fK) bU (bu (va bN))) aD) (cb (va fK) (bu (aQ (va bN) vi)) bU)) (vc (va fK) (vc aD (vc (mf aD (aQ vi (va bN))) ak)))))))) (ae (aZ (vx hu (aQ (va A4) (bZ (vc (aQ (aQ (cb (va fK) bU (bu (va bN))) aD) (cb (va fK) (bu (aQ (va bN) vi)) bU)) (vc (aQ (aQ aD (vx hu (va fK) (va bN))) aD) ak)))) (dZ (ie (va a0) vi) vi))) aq)))))
theorem oN:FnScope ["_law_draws_here","_law_pool_here","_law_deep","_law_number","_law_kind","_law_ones","_law_field_here","_law_many","_law_words","_law_k"] ["_law_draws_here","_law_pool_here","_law_deep"] (defScope (top 23)):=jg
theorem fR(E:Fx P w K mg base cA):∀ n,FnOk P w K mg base CX0 (6+n) E.f__law_question E.d__law_question ["_law_draws_here","_law_pool_here","_law_deep"] (dV cA 3 (dk n))
 | 0=>qF rfl
 | n+1=>by
  have fR:=fR E n
  have cu:=cu E
  have nO:=nO E
  have mn:=mn E
  refine jW (k:=6+n) E.F__law_question oN rfl rfl fun cdv A outer s H E0 C hr hC=>?_
  have hu:=hr.units
  have nodupN:=oN.nd
  generalize dk n=rec at *
  unfold pP
  exact(ae (Gq nodupN rfl (.inr rfl) (.inl rfl) (x_call hC cu (hr.mono (by omega)) rfl E.cz E.F__law_pop.kp E.B__law_pop pass0 rfl (vc (vb bM) ak) i7.1 rfl) rfl) (ae (vg nodupN (dZ (vb a0) vi)) (ae (Vw.bR (dA hu (vb gx) vi rfl) (ae (vg nodupN (dZ (va cZ) vi)) aq) aq) (ae (Vw.bR (xy hu (va cZ) vi rfl) (ae (vg nodupN (x_call hC nO (hr.mono (by omega)) rfl E.j0 E.F__law_field.kp E.B__law_field pass0 rfl (vc (vb bM) ak) zJ.1 rfl)) aq) aq) (ae (Vw.bR (dA hu (va cZ) vi rfl) (ae (aZ (b8 (vc aD (vc (va dt) (vc (vx hu (aQ (vb cE) (bZ (vc aD ak))) (dZ (ie (vb a0) vi) (aQ (ip call_len (fH _) rfl E.b_len gH (vc (vb cE) ak) rfl gJ gG.1) vi))) ak))))) aq) aq) (ae (Vw.bR (dA hu (va cZ) vi rfl) (ae (aZ (b8 (vc aD (vc (va dt) (vc (x_call hC mn (hr.mono (by omega)) rfl E.jq E.F__law_pattern.kp E.B__law_pattern pass0 rfl (vc (vb bM) (vc (vb cE) ak)) xD.1 rfl) ak))))) aq) aq) (ae (Vw.bR (xy hu (va cZ) vi rfl) (ae (vg nodupN (aQ vi (dZ (ie (vb a0) vi) (vx hu (bZ (vc vi (vc vi ak))) (dZ (ie (vb a0) vi) vi))))) (ae (uG hC [("_law_k",9)] rfl rfl nodupN rfl rfl rfl rfl (by kernel_rfl) (xG (vc (va bj) ak) rfl E.b_range rfl) (by kernel_rfl) (fun s H D cl fp C hC=>⟨(tn nodupN),nh,(vx hu (vb cE) (dZ (x_call hC cu (hr.mono (by omega)) rfl E.cz E.F__law_pop.kp E.B__law_pop pass0 rfl (vc (vb bM) ak) i7.1 rfl) (vx hu (bZ (vc vi (vc (ip call_len (fH _) rfl E.b_len gH (vc (vb cE) ak) rfl gJ gG.1) ak))) (dZ (ie (vb a0) vi) vi))))⟩) rfl (by decide)) (ae (Vw.bR (dA hu (va cZ) vi rfl) (ae (aZ (b8 (vc aD (vc (va dt) (vc (va gB) ak))))) aq) aq) (ae (aZ (b8 (vc (vx hu (bZ (vc aD (vc aD ak))) (Aj (va cZ) vi)) (vc (va dt) (vc (aQ vi (dZ (ie (vb a0) vi) (vx hu (bZ (vc vi (vc vi ak))) (dZ (ie (vb a0) vi) vi)))) (vc (va gB) ak)))))) aq)))) aq) (ae (Vw.bR (dA hu (va cZ) vi rfl) (ae (aZ (b8 (vc aD (vc (x_call hC fR (hr.mono (by omega)) rfl E.dk E.F__law_question.kp E.B__law_question pass0 rfl (vc (vb bM) (vc (vb cE) (vc (Aj (vb gx) vi) ak))) kZ.1 rfl) ak)))) aq) aq) (ae (uG hC [("_law_k",9)] rfl rfl nodupN rfl rfl rfl rfl (by kernel_rfl) (xG (vc (dZ (ie (vb a0) vi) (vx hu (bZ (vc vi (vc vi (vc vi (vc vi ak))))) (vb gx))) ak) rfl E.b_range rfl) (by kernel_rfl) (fun s H D cl fp C hC=>⟨(tn nodupN),nh,(x_call hC fR (hr.mono (by omega)) rfl E.dk E.F__law_question.kp E.B__law_question pass0 rfl (vc (vb bM) (vc (vb cE) (vc (Aj (vb gx) vi) ak))) kZ.1 rfl)⟩) rfl (by decide)) (ae (aZ (b8 (vc (vx hu (bZ (vc aD (vc aD ak))) (dZ (va cZ) vi)) (vc (va A9) ak)))) aq))))))))))
theorem qr:FnScope ["_law_line","_law_draws_here","_law_signs","_law_k","_law_number","_law_at","_law_sign","_law_kind","_law_more"] ["_law_line","_law_draws_here"] (defScope (top 31)):=jg
theorem mN(E:Fx P w K mg base cA):FnOk P w K mg base CX0 4 E.f__law_spoilt E.d__law_spoilt ["_law_line","_law_draws_here"] (dV cA 2 iQ):=by
 have cu:=cu E
 refine jW (k:=3) E.F__law_spoilt qr rfl rfl fun cdv A outer s H E0 C hr hC=>?_
 have hu:=hr.units
 have nodupN:=qr.nd
 unfold sP
 exact(ae (vg nodupN aD) (ae (xU hC PassesOwn.never rfl (xG (vc (dZ (x_call hC cu (hr.mono (by omega)) rfl E.cz E.F__law_pop.kp E.B__law_pop pass0 rfl (vc (va bM) ak) i7.1 rfl) vi) ak) rfl E.b_range rfl) (fun C hC hW=>(tn nodupN)) (fun C hC hW=>(ae (vg nodupN (x_call hC cu (hr.mono (by omega)) rfl E.cz E.F__law_pop.kp E.B__law_pop pass0 rfl (vc (va bM) ak) i7.1 rfl)) (ae (vg nodupN (dZ (va a0) (aQ (ip call_len (fH _) rfl E.b_len gH (vc (va aA) ak) rfl gJ gG.1) vi))) (ae (vg nodupN (vx hu (va nS) (dZ (ie (va a0) vi) (ip call_len (fH _) rfl E.b_len gH (vc (va nS) ak) rfl gJ gG.1)))) (ae (vg nodupN (dZ (ie (va a0) vi) vi)) (ae (Vw.bR (dA hu (va cZ) vi rfl) (ae (vg nodupN (aQ (cb (va aA) bU (bu (va bN))) (cb (va aA) (bu (aQ (va bN) vi)) bU))) aq) aq) (ae (Vw.bR (dA hu (va cZ) vi rfl) (ae (vg nodupN (aQ (aQ (cb (va aA) bU (bu (va bN))) (va fI)) (cb (va aA) (bu (va bN)) bU))) aq) aq) (ae (Vw.bR (dA hu (va cZ) vi rfl) (ae (vg nodupN (aQ (aQ (cb (va aA) bU (bu (va bN))) (va fI)) (cb (va aA) (bu (aQ (va bN) vi)) bU))) aq) aq) (ae (Vw.bR (dA hu (va cZ) vi rfl) (ae (vg nodupN (cb (va aA) (bu (va bN)) (bu (aQ (aQ (va bN) vi) (dZ (ie (va a0) vi) vi))))) (ae (vg nodupN (aQ (aQ (cb (va aA) bU (bu (va bN))) (va Bh)) (cb (va aA) (bu (va bN)) bU))) aq)) aq) aq))))))))) rfl) (ae (aZ (cb (va aA) bU (bu vi))) aq)))
theorem sN:FnScope ["_law_question_here","_law_line","_law_words","_law_word","_law_ends","_law_sign","_law_k","_law_one"] ["_law_question_here"] (defScope (top 24)):=jg
theorem hU(E:Fx P w K mg base cA):∀ n,FnOk P w K mg base CX0 (2+n) E.f__law_shown E.d__law_shown ["_law_question_here"] (dV cA 1 (fM n))
 | 0=>qF rfl
 | n+1=>by
  have hU:=hU E n
  refine jW (k:=2+n) E.F__law_shown sN rfl rfl fun cdv A outer s H E0 C hr hC=>?_
  have hu:=hr.units
  have nodupN:=sN.nd
  generalize fM n=rec at *
  unfold tZ
  exact(ae (Vw.bR (dA hu (vx hu (va aH) vi) aD rfl) (ae (aZ (aQ aD (x_call hC hU (hr.mono (by omega)) rfl E.fM E.F__law_shown.kp E.B__law_shown pass0 rfl (vc (vx hu (va aH) vi) ak) nP.1 rfl))) aq) aq) (ae (Vw.bR (PW.pt (Vw.v_or (dA hu (vx hu (va aH) vi) aD rfl) (Vw.kP (dA hu (vx hu (va aH) vi) aD rfl)))) (ae (vg nodupN (vx hu (bZ (vc aD (vc aD ak))) (kb call_int1 qD rfl E.b_int nq (vc (wJ hu (vx hu (va aH) vi) aD rfl) ak) rfl ni nk.1))) (ae (vg nodupN aD) (ae (Vw.bR (xy hu (ip call_len (fH _) rfl E.b_len gH (vc (vx hu (va aH) vi) ak) rfl gJ gG.1) vi rfl) (ae (vg nodupN (aQ (aQ (va aA) (va fI)) (mf aD (ip call_len (fH _) rfl E.b_len gH (vc (vx hu (va aH) vi) ak) rfl gJ gG.1)))) aq) aq) (ae (xU hC PassesOwn.never rfl (Jg (vx hu (va aH) vi) rfl E.b_enumerate rfl) (fun C hC hW=>(yw rfl (mL (tn nodupN) (mL (tn nodupN) y7 rfl) rfl) rfl rfl)) (fun C hC hW=>(ae (Vw.bR (oo hu (va m9) vi rfl) (ae (vg nodupN (aQ (aQ (aQ (va aA) aD) (va fI)) aD)) aq) aq) (ae (vg nodupN (aQ (va aA) (x_call hC hU (hr.mono (by omega)) rfl E.fM E.F__law_shown.kp E.B__law_shown pass0 rfl (vc (va gT) ak) nP.1 rfl))) aq))) rfl) (ae (aZ (aQ (va aA) aD)) aq))))) aq) (ae (vg nodupN (aQ (vx hu (va aH) vi) aD)) (ae (Vw.bR (dA hu (vx hu (va aH) vi) aD rfl) (ae (aZ (aQ (va aA) (vx hu (va aH) vi))) aq) aq) (ae (Vw.bR (dA hu (vx hu (va aH) vi) aD rfl) (ae (aZ (aQ (aQ (va aA) (mf aD (kb call_int1 qD rfl E.b_int nq (vc (Vw.qv (yZ hu aD (vx hu (va aH) vi) rfl) (Vw.uw (yZ hu aD (vx hu (va aH) vi) rfl))) ak) rfl ni nk.1))) (vx hu (va aH) vi))) aq) aq) (ae (vg nodupN aD) (ae (xU hC PassesOwn.never rfl (Bu (vx hu (va aH) (JT vi))) (fun C hC hW=>(tn nodupN)) (fun C hC hW=>(ae (vg nodupN (aQ (aQ (va gB) aD) (va fK))) aq)) rfl) (ae (Vw.bR (dA hu (vx hu (va aH) vi) aD rfl) (ae (aZ (aQ (aQ (aQ (va aA) aD) (cb (va gB) (bu vi) bU)) aD)) aq) aq) (ae (vg nodupN (vx hu (bZ (vc aD (vc aD ak))) (kb call_int1 qD rfl E.b_int nq (vc (wJ hu (vx hu (va aH) vi) aD rfl) ak) rfl ni nk.1))) (ae (aZ (aQ (aQ (aQ (aQ (va aA) (kb call_str_int vT rfl E.b_str Bj (vc (vx hu (va aH) vi) ak) rfl Bo A1.1)) (vx hu (va ub) vi)) (cb (va gB) (bu vi) bU)) (vx hu (va ub) vi))) aq))))))))))
theorem vD:FnScope ["_law_line","_law_sign","_law_found","_law_one"] ["_law_line"] (defScope (top 28)):=jg
theorem qm(E:Fx P w K mg base cA)(rec:Fn)(n:Nat)(fO:FnOk P w K mg base CX0 (8+2*n) E.f__law_read E.d__law_read ["_law_line"] (dV cA 1 rec)):FnOk P w K mg base CX0 (8+2*n+1) E.f__law_put E.d__law_put ["_law_line"] (dV cA 1 (lO rec)):=by
 refine jW (k:=8+2*n) E.F__law_put vD rfl rfl fun cdv A outer s H E0 C hr hC=>?_
 have hu:=hr.units
 have nodupN:=vD.nd
 unfold wU
 exact(ae (vg nodupN (cb (va aA) bU (bu vi))) (ae (vg nodupN (bZ ak)) (ae (Vw.bR (PW.pt (Vw.v_and (ly hu (va fI) (bZ (vc aD (vc aD ak))) rfl) (Vw.m7 (dA hu (cb (va aA) (bu vi) (bu vi)) aD rfl)))) (ae (aZ (b8 (vc (b8 (vc (vx hu (tN (pps_cons jO jl (pps_cons jO jl pps_nil)) rfl rfl (fun h=>by cases h) (Nat.le_of_ble_eq_true rfl)) (va fI)) (vc (bZ ak) ak))) (vc (cb (va aA) (bu vi) bU) ak)))) aq) aq) (ae (Vw.bR (ly hu (va fI) (bZ (vc aD (vc aD ak))) rfl) (ae (vg nodupN vn) (ae (Vw.bR (dA hu (cb (va aA) (bu vi) (bu vi)) aD rfl) (ae (vg nodupN (x_call hC fO (hr.mono (by omega)) rfl E.fN E.F__law_read.kp E.B__law_read pass0 rfl (vc (cb (va aA) (bu vi) bU) ak) lU.1 rfl)) aq) aq) (ae (Vw.bR (PW.pt (Vw.v_or (uv hu (va gT) vn rfl) (Vw.kP (wW hu (cb (vx hu (va gT) vi) bU (bu vi)) aD rfl)))) (ae (aZ vn) aq) aq) (ae (aZ (b8 (vc (b8 (vc (vx hu (tN (pps_cons jO jl (pps_cons jO jl pps_nil)) rfl rfl (fun h=>by cases h) (Nat.le_of_ble_eq_true rfl)) (va fI)) (vc (bZ (vc (vx hu (va gT) vi) ak)) ak))) (vc (cb (vx hu (va gT) vi) (bu vi) bU) ak)))) aq)))) aq) (ae (vg nodupN aD) (ae (yb PassesOwn.never (iJ vt rfl) (ae (vg nodupN (x_call hC fO (hr.mono (by omega)) rfl E.fN E.F__law_read.kp E.B__law_read pass0 rfl (vc (va aA) ak) lU.1 rfl)) (ae (Vw.bR (uv hu (va gT) vn rfl) (ae (aZ vn) aq) aq) (ae (cS (y9 F.plainAttrs_list F.slot_list_append F.type_list_append mt_append km o5 (va bG) (vc (vx hu (va gT) vi) ak) rfl rfl (by decide) rfl) rfl) (ae (vg nodupN (vx hu (va gT) vi)) (ae (Vw.bR (PW.pt (Vw.v_and (dA hu (cb (va aA) bU (bu vi)) aD rfl) (Vw.m7 (oo hu (ip call_len (fH _) rfl E.b_len gH (vc (va bG) ak) rfl gJ gG.1) vi rfl)))) (ae (aZ (b8 (vc (b8 (vc (vx hu (tN (pps_cons jO jl (pps_cons jO jl pps_nil)) rfl rfl (fun h=>by cases h) (Nat.le_of_ble_eq_true rfl)) (va fI)) (vc (va bG) ak))) (vc (cb (va aA) (bu vi) bU) ak)))) aq) aq) (ae (Vw.bR (PW.pt (Vw.v_or (vU hu (cb (va aA) bU (bu vi)) (bZ (vc aD (vc aD ak))) rfl) (Vw.kP (vU hu (va fI) (bZ (vc aD (vc (vx hu (va aA) vi) ak))) rfl)))) (ae (aZ vn) aq) aq) (ae (vg nodupN (vx hu (va aA) vi)) (ae (vg nodupN (cb (va aA) (bu vi) bU)) aq))))))))) aq))))))
theorem vJ:FnScope ["_law_line","_law_signs","_law_many"] ["_law_line","_law_signs"] (defScope (top 25)):=jg
theorem gS(E:Fx P w K mg base cA):FnOk P w K mg base CX0 2 E.f__law_run E.d__law_run ["_law_line","_law_signs"] (dV cA 2 iq):=by
 refine jW (k:=1) E.F__law_run vJ rfl rfl fun cdv A outer s H E0 C hr hC=>?_
 have hu:=hr.units
 have nodupN:=vJ.nd
 unfold xn
 exact(ae (vg nodupN vi) (ae (yb PassesOwn.never (PW.pt (Vw.v_and (xy hu (va bj) (ip call_len (fH _) rfl E.b_len gH (vc (va aA) ak) rfl gJ gG.1) rfl) (Vw.m7 (ly hu (vx hu (va aA) (va bj)) (va nS) rfl)))) (ae (vg nodupN (aQ (va bj) vi)) aq)) (ae (aZ (va bj)) aq)))
theorem qH:FnScope ["_law_line","_law_end","_law_words","_law_many"] ["_law_line","_law_end"] (defScope (top 26)):=jg
theorem ko(E:Fx P w K mg base cA):FnOk P w K mg base CX0 4 E.f__law_listed E.d__law_listed ["_law_line","_law_end"] (dV cA 2 hV):=by
 have gS:=gS E
 refine jW (k:=3) E.F__law_listed qH rfl rfl fun cdv A outer s H E0 C hr hC=>?_
 have hu:=hr.units
 have nodupN:=qH.nd
 unfold sM
 exact(ae (vg nodupN (bZ ak)) (ae (yb PassesOwn.never (iJ vt rfl) (ae (vg nodupN (x_call hC gS (hr.mono (by omega)) rfl E.iq E.F__law_run.kp E.B__law_run pass0 rfl (vc (va aA) (vc aD ak)) qe.1 rfl)) (ae (Vw.bR (PW.pt (Vw.v_or (dA hu (va bj) vi rfl) (Vw.v_or (oo hu (va bj) vi rfl) (Vw.kP (dA hu (va bj) (ip call_len (fH _) rfl E.b_len gH (vc (va aA) ak) rfl gJ gG.1) rfl))))) (ae (aZ vn) aq) aq) (ae (cS (y9 F.plainAttrs_list F.slot_list_append F.type_list_append mt_append km o5 (va gB) (vc (cb (va aA) bU (bu (va bj))) ak) rfl rfl (by decide) rfl) rfl) (ae (Vw.bR (dA hu (vx hu (va aA) (va bj)) (va Ca) rfl) (ae (Vw.bR (oo hu (ip call_len (fH _) rfl E.b_len gH (vc (va gB) ak) rfl gJ gG.1) vi rfl) (ae (aZ vn) aq) aq) (ae (aZ (b8 (vc (va gB) (vc (cb (va aA) (bu (aQ (va bj) vi)) bU) ak)))) aq)) aq) (ae (Vw.bR (wW hu (vx hu (va aA) (va bj)) aD rfl) (ae (aZ vn) aq) aq) (ae (vg nodupN (cb (va aA) (bu (aQ (va bj) vi)) bU)) aq))))))) aq))
theorem sy:FnScope ["_law_field_here","_law_line","_law_tilde","_law_many","_law_text","_law_wild","_law_found","_law_k"] ["_law_field_here","_law_line"] (defScope (top 27)):=jg
theorem nM(E:Fx P w K mg base cA):FnOk P w K mg base CX0 6 E.f__law_asked E.d__law_asked ["_law_field_here","_law_line"] (dV cA 2 ke):=by
 have ko:=ko E
 have gS:=gS E
 refine jW (k:=5) E.F__law_asked sy rfl rfl fun cdv A outer s H E0 C hr hC=>?_
 have hu:=hr.units
 have nodupN:=sy.nd
 unfold tV
 exact(ae (Vw.bR (dA hu (cb (va aA) bU (bu vi)) aD rfl) (ae (vg nodupN (x_call hC ko (hr.mono (by omega)) rfl E.hV E.F__law_listed.kp E.B__law_listed pass0 rfl (vc (cb (va aA) (bu vi) bU) (vc aD ak)) qX.1 rfl)) (ae (Vw.bR (uv hu (va bG) vn rfl) (ae (aZ vn) aq) aq) (ae (aZ (b8 (vc (b8 (vc aD (vc (va dt) (vc (vx hu (va bG) vi) ak)))) (vc (vx hu (va bG) vi) ak)))) aq))) aq) (ae (vg nodupN (kb call_int1 qD rfl E.b_int nq (vc (wJ hu (cb (va aA) bU (bu vi)) aD rfl) ak) rfl ni nk.1)) (ae (vg nodupN (x_call hC gS (hr.mono (by omega)) rfl E.iq E.F__law_run.kp E.B__law_run pass0 rfl (vc (cb (va aA) (bu (va ib)) bU) (vc aD ak)) qe.1 rfl)) (ae (vg nodupN (cb (va aA) (bu (va ib)) (bu (aQ (va ib) (va bj))))) (ae (vg nodupN (cb (va aA) (bu (aQ (va ib) (va bj))) bU)) (ae (Vw.bR (PW.pt (Vw.v_or (dA hu (va bj) vi rfl) (Vw.kP (oo hu (va bj) vi rfl)))) (ae (aZ vn) aq) aq) (ae (vg nodupN (Vw.LO (Bp hu aD (va jk) rfl) (Vw.Jv (Bp hu aD (va jk) rfl)))) (ae (Vw.bR (PW.pt (Vw.v_and (ly hu (cb (va aA) bU (bu vi)) (bZ (vc aD (vc aD ak))) rfl) (Vw.m7 (dA hu (va ib) vi rfl)))) (ae (vg nodupN (x_call hC ko (hr.mono (by omega)) rfl E.hV E.F__law_listed.kp E.B__law_listed pass0 rfl (vc (cb (va aA) (bu vi) bU) (vc (vx hu (tN (pps_cons jO jl (pps_cons jO jl pps_nil)) rfl rfl (fun h=>by cases h) (Nat.le_of_ble_eq_true rfl)) (vx hu (va aA) vi)) ak)) qX.1 rfl)) (ae (Vw.bR (PW.pt (Vw.v_or (uv hu (va bG) vn rfl) (Vw.kP (vU hu (va jk) (De hC [("_law_k",7)] rfl rfl nodupN (EC (vc vi (vc vi ak)) rfl E.b_range rfl rfl) (by kernel_rfl) (fun s H D cl fp C hC=>⟨(tn nodupN),nh,(kb call_str_int vT rfl E.b_str Bj (vc (va m9) ak) rfl Bo A1.1)⟩) rfl (by decide)) rfl)))) (ae (aZ vn) aq) aq) (ae (aZ (b8 (vc (b8 (vc (vx hu (bZ (vc aD (vc aD ak))) (kb call_int1 qD rfl E.b_int nq (vc (wJ hu (vx hu (va aA) vi) aD rfl) ak) rfl ni nk.1)) (vc (va dt) (vc (kb call_int_str wy rfl E.b_int nq (vc (va jk) ak) rfl ni nk.1) (vc (vx hu (va bG) vi) ak))))) (vc (vx hu (va bG) vi) ak)))) aq))) aq) (ae (Vw.bR (PW.pt (Vw.v_and (dA hu (va ib) vi rfl) (Vw.m7 (iJ (va tE) rfl)))) (ae (aZ vn) aq) aq) (ae (Vw.bR (PW.pt (Vw.v_or (dA hu (va ib) vi rfl) (Vw.kP (iJ (va tE) rfl)))) (ae (aZ (b8 (vc (b8 (vc aD (vc (va dt) (vc (va jk) ak)))) (vc (va aA) ak)))) aq) aq) (ae (aZ (b8 (vc (b8 (vc aD (vc (va dt) (vc (va jk) ak)))) (vc (va aA) ak)))) aq)))))))))))
theorem tG:FnScope ["_law_line","_law_many","_law_found"] ["_law_line"] (defScope (top 29)):=jg
theorem fO(E:Fx P w K mg base cA):∀ n,FnOk P w K mg base CX0 (8+2*n) E.f__law_read E.d__law_read ["_law_line"] (dV cA 1 (fN n))
 | 0=>qF rfl
 | n+1=>by
  have fO:=fO E n
  have qm:=qm E (fN n) n fO
  have gS:=gS E
  have nM:=nM E
  refine jW (k:=8+2*n+1) E.F__law_read tG rfl rfl fun cdv A outer s H E0 C hr hC=>?_
  have hu:=hr.units
  have nodupN:=tG.nd
  generalize fN n=rec at *
  unfold vR
  exact(ae (Vw.bR (dA hu (cb (va aA) bU (bu vi)) aD rfl) (ae (vg nodupN (x_call hC fO (hr.mono (by omega)) rfl E.fN E.F__law_read.kp E.B__law_read pass0 rfl (vc (cb (va aA) (bu vi) bU) ak) lU.1 rfl)) (ae (Vw.bR (uv hu (va bG) vn rfl) (ae (aZ vn) aq) aq) (ae (aZ (b8 (vc (b8 (vc aD (vc (vx hu (va bG) vi) ak))) (vc (vx hu (va bG) vi) ak)))) aq))) aq) (ae (Vw.bR (dA hu (cb (va aA) bU (bu vi)) aD rfl) (ae (aZ (x_call hC qm (hr.mono (by omega)) rfl E.lO E.F__law_put.kp E.B__law_put pass0 rfl (vc (cb (va aA) (bu vi) bU) ak) Cf.1 rfl)) aq) aq) (ae (vg nodupN vi) (ae (Vw.bR (wW hu (cb (va aA) bU (bu vi)) aD rfl) (ae (vg nodupN (x_call hC gS (hr.mono (by omega)) rfl E.iq E.F__law_run.kp E.B__law_run pass0 rfl (vc (va aA) (vc aD ak)) qe.1 rfl)) aq) aq) (ae (Vw.bR (PW.pt (Vw.v_or (dA hu (va bj) vi rfl) (Vw.v_or (oo hu (va bj) vi rfl) (Vw.kP (wW hu (cb (va aA) (bu (va bj)) (bu (aQ (va bj) vi))) aD rfl))))) (ae (aZ vn) aq) aq) (ae (aZ (x_call hC nM (hr.mono (by omega)) rfl E.ke E.F__law_asked.kp E.B__law_asked pass0 rfl (vc (cb (va aA) bU (bu (va bj))) (vc (cb (va aA) (bu (aQ (va bj) vi)) bU) ak)) Ad.1 rfl)) aq))))))
theorem tI:FnScope ["_law_question_here","_law_deep","_law_sizes","_law_most","_law_many","_law_one","_law_size_here"] ["_law_question_here","_law_deep"] (defScope (top 32)):=jg
theorem iC(E:Fx P w K mg base cA):∀ n,FnOk P w K mg base CX0 (2+n) E.f__law_size E.d__law_size ["_law_question_here","_law_deep"] (dV cA 2 (gW n))
 | 0=>qF rfl
 | n+1=>by
  have iC:=iC E n
  refine jW (k:=2+n) E.F__law_size tI rfl rfl fun cdv A outer s H E0 C hr hC=>?_
  have hu:=hr.units
  have nodupN:=tI.nd
  generalize gW n=rec at *
  unfold vN
  exact(ae (Vw.bR (ly hu (vx hu (va aH) vi) (bZ (vc aD (vc aD ak))) rfl) (ae (uG hC [("_law_one",5)] rfl rfl nodupN rfl rfl rfl rfl (by kernel_rfl) (Bu (vx hu (va aH) vi)) (by kernel_rfl) (fun s H D cl fp C hC=>⟨(tn nodupN),nh,(x_call hC iC (hr.mono (by omega)) rfl E.gW E.F__law_size.kp E.B__law_size pass0 rfl (vc (va gT) (vc (aQ (vb gx) vi) ak)) oR.1 rfl)⟩) rfl (by decide)) (ae (vg nodupN (Jd rfl hu rfl E.b_max JC (De hC [("_law_size_here",6)] rfl rfl nodupN (Bu (va sG)) (by kernel_rfl) (fun s H D cl fp C hC=>⟨(tn nodupN),nh,(vx hu (va nW) vi)⟩) rfl (by decide)) (vb gx) rfl Kw IQ.1)) (ae (aZ (b8 (vc (aQ vi (ip (cr_sum rfl) (HS _) rfl E.b_sum Ka (vc (De hC [("_law_size_here",6)] rfl rfl nodupN (Bu (va sG)) (by kernel_rfl) (fun s H D cl fp C hC=>⟨(tn nodupN),nh,(vx hu (va nW) vi)⟩) rfl (by decide)) ak) rfl IY I7.1)) (vc (va ug) ak)))) aq))) aq) (ae (Vw.bR (dA hu (vx hu (va aH) vi) aD rfl) (ae (ET (x_call hC iC (hr.mono (by omega)) rfl E.gW E.F__law_size.kp E.B__law_size pass0 rfl (vc (vx hu (va aH) vi) (vc (aQ (vb gx) vi) ak)) oR.1 rfl) (yw rfl (mL (tn nodupN) (mL (tn nodupN) y7 rfl) rfl) rfl rfl) rfl rfl rfl) (ae (aZ (b8 (vc (aQ vi (va bj)) (vc (va ug) ak)))) aq)) aq) (ae (aZ (b8 (vc vi (vc (vb gx) ak)))) aq)))
theorem kG:FnScope ["self","line"] ["self","line"] (defScope (fu 14 0)):=jg
theorem ja(E:Fx P w K mg base cA):FnOk P w K mg base CX0 2 E.jw E.gi ["self","line"] (dV cA 2 jr):=by
 refine jW (k:=1) E.F_AskReader____init__ kG rfl rfl fun cdv A outer s H E0 C hr hC=>?_
 have hu:=hr.units
 have nodupN:=kG.nd
 unfold lr
 exact(ae (DU hC E.fld (va aM) (va x9) rfl) (ae (DU hC E.fld (va aM) vi rfl) aq))
theorem lE:FnScope ["self","text"] ["self","text"] (defScope (fu 14 2)):=jg
theorem aK(E:Fx P w K mg base cA):FnOk P w K mg base CX0 2 E.f_AskReader__begins E.d_AskReader__begins ["self","text"] (dV cA 2 bo):=by
 refine jW (k:=1) E.F_AskReader__begins lE rfl rfl fun cdv A outer s H E0 C hr hC=>?_
 have hu:=hr.units
 have nodupN:=lE.nd
 unfold mD
 exact(ae (aZ (wJ hu (cb (kO hC E.fld (va aM) rfl) (bu (kO hC E.fld (va aM) rfl)) (bu (aQ (kO hC E.fld (va aM) rfl) (ip call_len (fH _) rfl E.b_len gH (vc (va uu) ak) rfl gJ gG.1)))) (va uu) rfl)) aq)
theorem nv:FnScope ["self","good"] ["self","good"] (defScope (fu 14 1)):=jg
theorem bz(E:Fx P w K mg base cA):FnOk P w K mg base (L2.CX P w) 2 E.f_AskReader__sure E.d_AskReader__sure ["self","good"] (dV cA 2 fy):=by
 refine oy (k:=1) E.F_AskReader__sure nv rfl rfl fun cdv A outer s H E0 C hr hC tk=>?_
 have hu:=hr.units
 have nodupN:=nv.nd
 unfold nZ
 exact(ae (Vw.bR (Vw.v_not (iJ (va HQ) rfl)) (ae (x_raise hC rfl tk E.ex_NoText E.gc_NoText rfl zB.1) aq) aq) aq)
theorem nY:FnScope ["self","text"] ["self","text"] (defScope (fu 14 3)):=jg
theorem aO(E:Fx P w K mg base cA):FnOk P w K mg base (L2.CX P w) 4 E.f_AskReader__eat E.d_AskReader__eat ["self","text"] (dV cA 2 bt):=by
 have bz:=bz E
 have aK:=aK E
 refine oy (k:=3) E.F_AskReader__eat nY rfl rfl fun cdv A outer s H E0 C hr hC tk=>?_
 have hu:=hr.units
 have nodupN:=nY.nd
 unfold oS
 exact(ae (cS (bT hC (mX tk) E.cl_AskReader E.bD bz (hr.mono (by omega)) E.B_AskReader__sure rfl (va aM) (vc (bT hC mR E.cl_AskReader E.ax aK (hr.mono (by omega)) E.B_AskReader__begins rfl (va aM) (vc (va uu) ak) rfl rfl) ak) rfl rfl) rfl) (ae (wV hC E.fld (va aM) (ip call_len (fH _) rfl E.b_len gH (vc (va uu) ak) rfl gJ gG.1)) aq))
theorem lQ:FnScope ["self","signs","most","begin"] ["self","signs","most"] (defScope (fu 14 4)):=jg
theorem br(E:Fx P w K mg base cA):FnOk P w K mg base (L2.CX P w) 4 E.f_AskReader__row_of E.d_AskReader__row_of ["self","signs","most"] (dV cA 3 cB):=by
 have bz:=bz E
 refine oy (k:=3) E.F_AskReader__row_of lQ rfl rfl fun cdv A outer s H E0 C hr hC tk=>?_
 have hu:=hr.units
 have nodupN:=lQ.nd
 unfold mx
 exact(ae (vg nodupN (kO hC E.fld (va aM) rfl)) (ae (yb (L2.passes_of rfl) (PW.pt (Vw.v_and (xy hu (kO hC E.fld (va aM) rfl) (ip call_len (fH _) rfl E.b_len gH (vc (kO hC E.fld (va aM) rfl) ak) rfl gJ gG.1) rfl) (Vw.m7 (ly hu (vx hu (kO hC E.fld (va aM) rfl) (kO hC E.fld (va aM) rfl)) (va FH) rfl)))) (ae (wV hC E.fld (va aM) vi) aq)) (ae (cS (bT hC (mX tk) E.cl_AskReader E.bD bz (hr.mono (by omega)) E.B_AskReader__sure rfl (va aM) (vc (Fi hu vi (Aj (kO hC E.fld (va aM) rfl) (va BO)) (va HY) rfl) ak) rfl rfl) rfl) (ae (aZ (cb (kO hC E.fld (va aM) rfl) (bu (va BO)) (bu (kO hC E.fld (va aM) rfl)))) aq))))
theorem ny:FnScope ["self","kinds","found","sign"] ["self"] (defScope (fu 14 7)):=jg
theorem j4(E:Fx P w K mg base cA)(rec:Fn)(n:Nat)(bA:FnOk P w K mg base (L2.CX P w) (10+2*n) E.f_AskReader__question E.d_AskReader__question ["self"] (dV cA 1 rec)):FnOk P w K mg base (L2.CX P w) (10+2*n+1) E.f_AskReader__many E.d_AskReader__many ["self"] (dV cA 1 (ky rec)):=by
 have aK:=aK E
 have br:=br E
 have aO:=aO E
 refine oy (k:=10+2*n) E.F_AskReader__many ny rfl rfl fun cdv A outer s H E0 C hr hC tk=>?_
 have hu:=hr.units
 have nodupN:=ny.nd
 unfold nX
 exact(ae (vg nodupN (tN (pps_cons jO jl (pps_cons jO jl pps_nil)) rfl rfl (fun h=>by cases h) (Nat.le_of_ble_eq_true rfl))) (ae (Vw.bR (PW.pt (Vw.v_or (iJ (bT hC mR E.cl_AskReader E.ax aK (hr.mono (by omega)) E.B_AskReader__begins rfl (va aM) (vc aD ak) rfl rfl) rfl) (Vw.kP (iJ (bT hC mR E.cl_AskReader E.ax aK (hr.mono (by omega)) E.B_AskReader__begins rfl (va aM) (vc aD ak) rfl rfl) rfl)))) (ae (vg nodupN (bT hC (mX tk) E.cl_AskReader E.aI br (hr.mono (by omega)) E.B_AskReader__row_of rfl (va aM) (vc aD (vc vi ak)) rfl rfl)) (ae (Vw.bR (iJ (bT hC mR E.cl_AskReader E.ax aK (hr.mono (by omega)) E.B_AskReader__begins rfl (va aM) (vc aD ak) rfl rfl) rfl) (ae (cS (bT hC (mX tk) E.cl_AskReader E.av aO (hr.mono (by omega)) E.B_AskReader__eat rfl (va aM) (vc aD ak) rfl rfl) rfl) (ae (aZ (b8 (vc (vx hu (va wq) (va ux)) (vc (bZ ak) ak)))) aq)) aq) (ae (cS (bT hC (mX tk) E.cl_AskReader E.av aO (hr.mono (by omega)) E.B_AskReader__eat rfl (va aM) (vc aD ak) rfl rfl) rfl) (ae (vg nodupN (bZ (vc (oO hC (mX tk) E.cl_AskReader E.bb bA (hr.mono (by omega)) E.B_AskReader__question rfl (va aM) rfl) ak))) (ae (cS (bT hC (mX tk) E.cl_AskReader E.av aO (hr.mono (by omega)) E.B_AskReader__eat rfl (va aM) (vc aD ak) rfl rfl) rfl) (ae (aZ (b8 (vc (vx hu (va wq) (va ux)) (vc (va kc) ak)))) aq)))))) aq) (ae (vg nodupN (bZ (vc (oO hC (mX tk) E.cl_AskReader E.bb bA (hr.mono (by omega)) E.B_AskReader__question rfl (va aM) rfl) ak))) (ae (cS (bT hC (mX tk) E.cl_AskReader E.av aO (hr.mono (by omega)) E.B_AskReader__eat rfl (va aM) (vc aD ak) rfl rfl) rfl) (ae (vg nodupN (bT hC (mX tk) E.cl_AskReader E.aI br (hr.mono (by omega)) E.B_AskReader__row_of rfl (va aM) (vc aD (vc vi ak)) rfl rfl)) (ae (cS (bT hC (mX tk) E.cl_AskReader E.av aO (hr.mono (by omega)) E.B_AskReader__eat rfl (va aM) (vc aD ak) rfl rfl) rfl) (ae (cS (y9 F.plainAttrs_list F.slot_list_append F.type_list_append mt_append km o5 (va kc) (vc (oO hC (mX tk) E.cl_AskReader E.bb bA (hr.mono (by omega)) E.B_AskReader__question rfl (va aM) rfl) ak) rfl rfl (by decide) rfl) rfl) (ae (yb (L2.passes_of rfl) (Vw.v_not (iJ (bT hC mR E.cl_AskReader E.ax aK (hr.mono (by omega)) E.B_AskReader__begins rfl (va aM) (vc aD ak) rfl rfl) rfl)) (ae (cS (bT hC (mX tk) E.cl_AskReader E.av aO (hr.mono (by omega)) E.B_AskReader__eat rfl (va aM) (vc (aQ (aQ aD (va ux)) aD) ak) rfl rfl) rfl) (ae (cS (y9 F.plainAttrs_list F.slot_list_append F.type_list_append mt_append km o5 (va kc) (vc (oO hC (mX tk) E.cl_AskReader E.bb bA (hr.mono (by omega)) E.B_AskReader__question rfl (va aM) rfl) ak) rfl rfl (by decide) rfl) rfl) aq))) (ae (cS (bT hC (mX tk) E.cl_AskReader E.av aO (hr.mono (by omega)) E.B_AskReader__eat rfl (va aM) (vc aD ak) rfl rfl) rfl) (ae (aZ (b8 (vc (vx hu (va wq) (va ux)) (vc (va kc) ak)))) aq))))))))))
theorem mu:FnScope ["self","end","found"] ["self","end"] (defScope (fu 14 5)):=jg
theorem gI(E:Fx P w K mg base cA):FnOk P w K mg base (L2.CX P w) 6 E.f_AskReader__words E.d_AskReader__words ["self","end"] (dV cA 2 gY):=by
 have br:=br E
 have aK:=aK E
 have aO:=aO E
 have bz:=bz E
 refine oy (k:=5) E.F_AskReader__words mu rfl rfl fun cdv A outer s H E0 C hr hC tk=>?_
 have hu:=hr.units
 have nodupN:=mu.nd
 unfold m8
 exact(ae (vg nodupN (bZ (vc (bT hC (mX tk) E.cl_AskReader E.aI br (hr.mono (by omega)) E.B_AskReader__row_of rfl (va aM) (vc (aQ (lF rfl E.c_LETTERS lT.1) (lF rfl E.c_FIGURES n7.1)) (vc vi ak)) rfl rfl) ak))) (ae (yb (L2.passes_of rfl) (Vw.v_not (iJ (bT hC mR E.cl_AskReader E.ax aK (hr.mono (by omega)) E.B_AskReader__begins rfl (va aM) (vc (va Es) ak) rfl rfl) rfl)) (ae (cS (bT hC (mX tk) E.cl_AskReader E.av aO (hr.mono (by omega)) E.B_AskReader__eat rfl (va aM) (vc aD ak) rfl rfl) rfl) (ae (cS (y9 F.plainAttrs_list F.slot_list_append F.type_list_append mt_append km o5 (va kc) (vc (bT hC (mX tk) E.cl_AskReader E.aI br (hr.mono (by omega)) E.B_AskReader__row_of rfl (va aM) (vc (aQ (lF rfl E.c_LETTERS lT.1) (lF rfl E.c_FIGURES n7.1)) (vc vi ak)) rfl rfl) ak) rfl rfl (by decide) rfl) rfl) aq))) (ae (cS (bT hC (mX tk) E.cl_AskReader E.av aO (hr.mono (by omega)) E.B_AskReader__eat rfl (va aM) (vc (va Es) ak) rfl rfl) rfl) (ae (cS (bT hC (mX tk) E.cl_AskReader E.bD bz (hr.mono (by omega)) E.B_AskReader__sure rfl (va aM) (vc (Nz hu (ip call_len (fH _) rfl E.b_len gH (vc (va kc) ak) rfl gJ gG.1) vi rfl) ak) rfl rfl) rfl) (ae (aZ (va kc)) aq)))))
theorem mC:FnScope ["self","field","row","width"] ["self","field"] (defScope (fu 14 6)):=jg
theorem jU(E:Fx P w K mg base cA):FnOk P w K mg base (L2.CX P w) 8 E.f_AskReader__asked E.d_AskReader__asked ["self","field"] (dV cA 2 jZ):=by
 have aK:=aK E
 have aO:=aO E
 have gI:=gI E
 have br:=br E
 have bz:=bz E
 refine oy (k:=7) E.F_AskReader__asked mC rfl rfl fun cdv A outer s H E0 C hr hC tk=>?_
 have hu:=hr.units
 have nodupN:=mC.nd
 unfold m5
 exact(ae (Vw.bR (iJ (bT hC mR E.cl_AskReader E.ax aK (hr.mono (by omega)) E.B_AskReader__begins rfl (va aM) (vc aD ak) rfl rfl) rfl) (ae (cS (bT hC (mX tk) E.cl_AskReader E.av aO (hr.mono (by omega)) E.B_AskReader__eat rfl (va aM) (vc aD ak) rfl rfl) rfl) (ae (aZ (b8 (vc aD (vc (va lg) (vc (bT hC (mX tk) E.cl_AskReader E.bW gI (hr.mono (by omega)) E.B_AskReader__words rfl (va aM) (vc aD ak) rfl rfl) ak))))) aq)) aq) (ae (Vw.bR (iJ (bT hC mR E.cl_AskReader E.ax aK (hr.mono (by omega)) E.B_AskReader__begins rfl (va aM) (vc aD ak) rfl rfl) rfl) (ae (cS (bT hC (mX tk) E.cl_AskReader E.av aO (hr.mono (by omega)) E.B_AskReader__eat rfl (va aM) (vc aD ak) rfl rfl) rfl) (ae (aZ (b8 (vc aD (vc (va lg) (vc (bT hC (mX tk) E.cl_AskReader E.aI br (hr.mono (by omega)) E.B_AskReader__row_of rfl (va aM) (vc (aQ (lF rfl E.c_LETTERS lT.1) (lF rfl E.c_FIGURES n7.1)) (vc vi ak)) rfl rfl) ak))))) aq)) aq) (ae (vg nodupN (bT hC (mX tk) E.cl_AskReader E.aI br (hr.mono (by omega)) E.B_AskReader__row_of rfl (va aM) (vc (aQ (aQ (lF rfl E.c_LETTERS lT.1) (lF rfl E.c_FIGURES n7.1)) aD) (vc vi ak)) rfl rfl)) (ae (Vw.bR (PW.pt (Vw.v_or (iJ (bT hC mR E.cl_AskReader E.ax aK (hr.mono (by omega)) E.B_AskReader__begins rfl (va aM) (vc aD ak) rfl rfl) rfl) (Vw.kP (iJ (bT hC mR E.cl_AskReader E.ax aK (hr.mono (by omega)) E.B_AskReader__begins rfl (va aM) (vc aD ak) rfl rfl) rfl)))) (ae (cS (bT hC (mX tk) E.cl_AskReader E.bD bz (hr.mono (by omega)) E.B_AskReader__sure rfl (va aM) (vc (Bp hu (va pq) (De hC [("width",3)] rfl rfl nodupN (EC (vc vi (vc vi ak)) rfl E.b_range rfl rfl) (by kernel_rfl) (fun s H D cl fp C hC=>⟨(tn nodupN),nh,(kb call_str_int vT rfl E.b_str Bj (vc (va EZ) ak) rfl Bo A1.1)⟩) rfl (by decide)) rfl) ak) rfl rfl) rfl) (ae (Vw.bR (iJ (bT hC mR E.cl_AskReader E.ax aK (hr.mono (by omega)) E.B_AskReader__begins rfl (va aM) (vc aD ak) rfl rfl) rfl) (ae (cS (bT hC (mX tk) E.cl_AskReader E.av aO (hr.mono (by omega)) E.B_AskReader__eat rfl (va aM) (vc aD ak) rfl rfl) rfl) (ae (aZ (b8 (vc aD (vc (va lg) (vc (kb call_int_str wy rfl E.b_int nq (vc (va pq) ak) rfl ni nk.1) (vc (bT hC (mX tk) E.cl_AskReader E.bW gI (hr.mono (by omega)) E.B_AskReader__words rfl (va aM) (vc aD ak) rfl rfl) ak)))))) aq)) aq) (ae (cS (bT hC (mX tk) E.cl_AskReader E.av aO (hr.mono (by omega)) E.B_AskReader__eat rfl (va aM) (vc aD ak) rfl rfl) rfl) (ae (aZ (b8 (vc aD (vc (va lg) (vc (kb call_int_str wy rfl E.b_int nq (vc (va pq) ak) rfl ni nk.1) (vc (bT hC (mX tk) E.cl_AskReader E.bW gI (hr.mono (by omega)) E.B_AskReader__words rfl (va aM) (vc aD ak) rfl rfl) ak)))))) aq)))) aq) (ae (Vw.bR (PW.pt (Vw.v_or (ly hu aD (va pq) rfl) (Vw.kP (ly hu aD (va pq) rfl)))) (ae (aZ (b8 (vc aD (vc (va lg) (vc (va pq) ak))))) aq) aq) (ae (aZ (b8 (vc aD (vc (va lg) (vc (va pq) ak))))) aq))))))
theorem kA:FnScope ["self","field"] ["self"] (defScope (fu 14 8)):=jg
theorem bA(E:Fx P w K mg base cA):∀ n,FnOk P w K mg base (L2.CX P w) (10+2*n) E.f_AskReader__question E.d_AskReader__question ["self"] (dV cA 1 (eo n))
 | 0=>qF rfl
 | n+1=>by
  have bA:=bA E n
  have aK:=aK E
  have aO:=aO E
  have j4:=j4 E (eo n) n bA
  have br:=br E
  have jU:=jU E
  refine oy (k:=10+2*n+1) E.F_AskReader__question kA rfl rfl fun cdv A outer s H E0 C hr hC tk=>?_
  have hu:=hr.units
  have nodupN:=kA.nd
  generalize eo n=rec at *
  unfold lz
  exact(ae (Vw.bR (iJ (bT hC mR E.cl_AskReader E.ax aK (hr.mono (by omega)) E.B_AskReader__begins rfl (va aM) (vc aD ak) rfl rfl) rfl) (ae (cS (bT hC (mX tk) E.cl_AskReader E.av aO (hr.mono (by omega)) E.B_AskReader__eat rfl (va aM) (vc aD ak) rfl rfl) rfl) (ae (aZ (b8 (vc aD (vc (oO hC (mX tk) E.cl_AskReader E.bb bA (hr.mono (by omega)) E.B_AskReader__question rfl (va aM) rfl) ak)))) aq)) aq) (ae (Vw.bR (iJ (bT hC mR E.cl_AskReader E.ax aK (hr.mono (by omega)) E.B_AskReader__begins rfl (va aM) (vc aD ak) rfl rfl) rfl) (ae (cS (bT hC (mX tk) E.cl_AskReader E.av aO (hr.mono (by omega)) E.B_AskReader__eat rfl (va aM) (vc aD ak) rfl rfl) rfl) (ae (aZ (oO hC (mX tk) E.cl_AskReader E.ik j4 (hr.mono (by omega)) E.B_AskReader__many rfl (va aM) rfl)) aq)) aq) (ae (Vw.bR (iJ (bT hC mR E.cl_AskReader E.ax aK (hr.mono (by omega)) E.B_AskReader__begins rfl (va aM) (vc aD ak) rfl rfl) rfl) (ae (cS (bT hC (mX tk) E.cl_AskReader E.av aO (hr.mono (by omega)) E.B_AskReader__eat rfl (va aM) (vc aD ak) rfl rfl) rfl) (ae (vg nodupN aD) aq)) (ae (vg nodupN (bT hC (mX tk) E.cl_AskReader E.aI br (hr.mono (by omega)) E.B_AskReader__row_of rfl (va aM) (vc (lF rfl E.c_LETTERS lT.1) (vc vi ak)) rfl rfl)) aq)) (ae (cS (bT hC (mX tk) E.cl_AskReader E.av aO (hr.mono (by omega)) E.B_AskReader__eat rfl (va aM) (vc aD ak) rfl rfl) rfl) (ae (aZ (bT hC (mX tk) E.cl_AskReader E.fZ jU (hr.mono (by omega)) E.B_AskReader__asked rfl (va aM) (vc (va lg) ak) rfl rfl)) aq)))))
theorem o9:FnScope ["line","reader","found"] ["line"] (defScope (top 15)):=jg
theorem la(E:Fx P w K mg base cA):FnOk P w K mg base (L2.CX P w) 100 E.f_read_question E.d_read_question ["line"] (dV cA 1 dY):=by
 have ja:=ja E
 have bA:=bA E 44
 have bz:=bz E
 refine oy (k:=99) E.F_read_question o9 rfl rfl fun cdv A outer s H E0 C hr hC tk=>?_
 have hu:=hr.units
 have nodupN:=o9.nd
 unfold pQ
 exact(ae (vg nodupN (NL hC mR E.k_AskReader ja (hr.mono (by omega)) rfl E.gc_AskReader E.B_AskReader____init__ rfl (vc (va x9) ak) B5.1 rfl)) (ae (vg nodupN (oO hC (mX tk) E.cl_AskReader E.bb bA (hr.mono (by omega)) E.B_AskReader__question rfl (va tj) rfl)) (ae (cS (bT hC (mX tk) E.cl_AskReader E.bD bz (hr.mono (by omega)) E.B_AskReader__sure rfl (va tj) (vc (wJ hu (kO hC E.fld (va tj) rfl) (ip call_len (fH _) rfl E.b_len gH (vc (va x9) ak) rfl gJ gG.1) rfl) ak) rfl rfl) rfl) (ae (aZ (va kc)) aq))))
theorem tT:FnScope ["_law_error","_law_found"] ["_law_error"] (defScope (top 30)):=jg
theorem pf(E:Fx P w K mg base cA):FnOk P w K mg base CX0 2 E.f__law_only E.d__law_only ["_law_error"] (dV cA 1 iy):=by
 refine jW (k:=1) E.F__law_only tT rfl rfl fun cdv A outer s H E0 C hr hC=>?_
 have hu:=hr.units
 have nodupN:=tT.nd
 unfold vP
 exact(ae (vg nodupN (bZ (vc (mZ hC (va eF) rfl E.b_isinstance rfl E.gc_NoField E.ek_NoField rfl DP.1) (vc (mZ hC (va eF) rfl E.b_isinstance rfl E.gc_NoMake E.ek_NoMake rfl D0.1) (vc (mZ hC (va eF) rfl E.b_isinstance rfl E.gc_NoBytes E.ek_NoBytes rfl C5.1) ak))))) (ae (vg nodupN (aQ (va bG) (bZ (vc (mZ hC (va eF) rfl E.b_isinstance rfl E.gc_NoStamp E.ek_NoStamp rfl Dj.1) (vc (mZ hC (va eF) rfl E.b_isinstance rfl E.gc_NoPiece E.ek_NoPiece rfl Dy.1) (vc (mZ hC (va eF) rfl E.b_isinstance rfl E.gc_NoPattern E.ek_NoPattern rfl BH.1) ak)))))) (ae (vg nodupN (aQ (va bG) (bZ (vc (mZ hC (va eF) rfl E.b_isinstance rfl E.gc_NoLine E.ek_NoLine rfl Eh.1) (vc (mZ hC (va eF) rfl E.b_isinstance rfl E.gc_NoDocument E.ek_NoDocument rfl zU.1) ak))))) (ae (aZ (Vw.qv (yZ hu vt (va bG) rfl) (Vw.qv (mZ hC (va eF) rfl E.b_isinstance rfl E.gc_NoText E.ek_NoText rfl zB.1) (Vw.uw (mZ hC (va eF) rfl E.b_isinstance rfl E.gc_FindError E.ek_FindError rfl tM.1))))) aq))))
theorem EJ:FnScope ["_law_script","_law_pool_here","_law_question_here","_law_line","_law_due","_law_kept","_law_found","e","_law_many","_law_deep"] ["_law_script"] (defScope (top 33)):=jg
theorem Lf(E:Fx P w K mg base cA):FnOk P w K mg base (L2.CX P w) 102 E.f_law E.d_law ["_law_script"] (dV cA 1 xa):=by
 have oV:=oV E
 have jI:=jI E
 have fR:=fR E 4
 have mN:=mN E
 have hU:=hU E 4
 have fO:=fO E 44
 have iC:=iC E 48
 have la:=la E
 have pf:=pf E
 refine oy (k:=101) E.F_law EJ rfl rfl fun cdv A outer s H E0 C hr hC tk=>?_
 have hu:=hr.units
 have nodupN:=EJ.nd
 unfold DF
 exact(ae (NA (vg nodupN (x_call hC oV (hr.mono (by omega)) rfl E.jQ E.F__law_pool.kp E.B__law_pool pass0 rfl (vc (FA (x_call hC jI (hr.mono (by omega)) rfl E.cM E.F__law_draws.kp E.B__law_draws pass0 rfl (vc (va kq) (vc vi (vc vi ak))) nK.1 rfl)) ak) Be.1 rfl))) (ae (vg nodupN (x_call hC fR (hr.mono (by omega)) rfl E.dk E.F__law_question.kp E.B__law_question pass0 rfl (vc (FA (x_call hC jI (hr.mono (by omega)) rfl E.cM E.F__law_draws.kp E.B__law_draws pass0 rfl (vc (va kq) (vc vi (vc vi ak))) nK.1 rfl)) (vc (va cE) (vc vi ak))) kZ.1 rfl)) (ae (vg nodupN (x_call hC mN (hr.mono (by omega)) rfl E.iQ E.F__law_spoilt.kp E.B__law_spoilt pass0 rfl (vc (x_call hC hU (hr.mono (by omega)) rfl E.fM E.F__law_shown.kp E.B__law_shown pass0 rfl (vc (va aH) ak) nP.1 rfl) (vc (FA (x_call hC jI (hr.mono (by omega)) rfl E.cM E.F__law_draws.kp E.B__law_draws pass0 rfl (vc (va kq) (vc vi (vc vi ak))) nK.1 rfl)) ak)) yg.1 rfl)) (ae (vg nodupN (x_call hC fO (hr.mono (by omega)) rfl E.fN E.F__law_read.kp E.B__law_read pass0 rfl (vc (va aA) ak) lU.1 rfl)) (ae (Vw.bR (PW.pt (Vw.v_and (D8 hu (va jP) vn rfl) (Vw.m7 (wW hu (vx hu (va jP) vi) aD rfl)))) (ae (vg nodupN vn) aq) aq) (ae (Vw.bR (D8 hu (va jP) vn rfl) (ae (ET (x_call hC iC (hr.mono (by omega)) rfl E.gW E.F__law_size.kp E.B__law_size pass0 rfl (vc (vx hu (va jP) vi) (vc vi ak)) oR.1 rfl) (yw rfl (mL (tn nodupN) (mL (tn nodupN) y7 rfl) rfl) rfl rfl) rfl rfl rfl) (ae (Vw.bR (PW.pt (Vw.v_or (oo hu (va bj) vi rfl) (Vw.kP (oo hu (va gx) vi rfl)))) (ae (aZ vt) aq) aq) aq)) aq) (ae (vg nodupN vn) (ae (vg nodupN vn) (ae (D1 hC rfl rfl rfl nodupN rfl rfl (by decide) rfl rfl ⟨rfl,tM.1,.inl E.gc_FindError⟩ E.em_FindError tk (fun C pn xe hC tk po=>(ae (vg nodupN (K8 hC tk la (hr.mono (by omega)) rfl E.dY E.F_read_question.kp E.B_read_question rfl (vc (va aA) ak) wG.1 rfl)) aq)) JX.1 JX.2 rfl rfl) (ae (Vw.bR (uv hu (va jP) vn rfl) (ae (aZ (Vw.qv (x_call hC pf (hr.mono (by omega)) rfl E.iy E.F__law_only.kp E.B__law_only pass0 rfl (vc (va oY) ak) AM.1 rfl) (Vw.uw (Je hC (va oY) rfl E.b_isinstance rfl E.b_ValueError E.ek_ValueError rfl)))) aq) aq) (ae (aZ (Vw.qv (NP hu (va oY) vn rfl) (Vw.qv (LK (va bG) rfl E.b_isinstance rfl E.b_tuple FY (by decide) rfl E5 Fm.1) (Vw.uw (wJ hu (va bG) (vx hu (va jP) vi) rfl))))) aq)))))))))))
end
end K82
namespace K82
open PySem L2 PyProof.Rows Vw
theorem facts{P:Program}{w:World}{K:PySem.W.Frag}{h:Heap}{mg:Str→Option Value}{f:Addr}(X:K.In h)(G:h.Ns mainGlobals mg)(hfa:mg ("law":Str)=some (.ref f))(c:He.SaysD GD zE K)(ex:DW K=true):
  ∃ fd:FuncData,(∀ (s:Shared) (v:Value),BindsTo s fd ⟨[v],[]⟩ [("_law_script",v)])∧∀ base:Heap,K.In base→base.Ns mainGlobals mg→FnOk P w K mg base G7 102 f fd ["_law_script"] (dV (qW K) 1 xa):=by
 obtain⟨d__law_pop,F__law_pop⟩:=c.def_ 0 (d:=vC) rfl
 obtain⟨d__law_pool,F__law_pool⟩:=c.def_ 1 (d:=tf) rfl
 obtain⟨d__law_mix,F__law_mix⟩:=c.def_ 2 (d:=vF) rfl
 obtain⟨d__law_draws,F__law_draws⟩:=c.def_ 3 (d:=sF) rfl
 obtain⟨d__law_field,F__law_field⟩:=c.def_ 4 (d:=sr) rfl
 obtain⟨d__law_pattern,F__law_pattern⟩:=c.def_ 5 (d:=pO) rfl
 obtain⟨d__law_question,F__law_question⟩:=c.def_ 6 (d:=oK) rfl
 obtain⟨d__law_spoilt,F__law_spoilt⟩:=c.def_ 7 (d:=qx) rfl
 obtain⟨d__law_shown,F__law_shown⟩:=c.def_ 8 (d:=sE) rfl
 obtain⟨d__law_put,F__law_put⟩:=c.def_ 9 (d:=vE) rfl
 obtain⟨d__law_run,F__law_run⟩:=c.def_ 10 (d:=vG) rfl
 obtain⟨d__law_listed,F__law_listed⟩:=c.def_ 11 (d:=qy) rfl
 obtain⟨d__law_asked,F__law_asked⟩:=c.def_ 12 (d:=sJ) rfl
 obtain⟨d__law_read,F__law_read⟩:=c.def_ 13 (d:=tP) rfl
 obtain⟨d__law_size,F__law_size⟩:=c.def_ 14 (d:=tm) rfl
 obtain⟨gi,F_AskReader____init__⟩:=c.def_ 15 (d:=kD) rfl
 obtain⟨d_AskReader__begins,F_AskReader__begins⟩:=c.def_ 16 (d:=lK) rfl
 obtain⟨d_AskReader__sure,F_AskReader__sure⟩:=c.def_ 17 (d:=m6) rfl
 obtain⟨d_AskReader__eat,F_AskReader__eat⟩:=c.def_ 18 (d:=n3) rfl
 obtain⟨d_AskReader__row_of,F_AskReader__row_of⟩:=c.def_ 19 (d:=l7) rfl
 obtain⟨d_AskReader__many,F_AskReader__many⟩:=c.def_ 20 (d:=nc) rfl
 obtain⟨d_AskReader__words,F_AskReader__words⟩:=c.def_ 21 (d:=mE) rfl
 obtain⟨d_AskReader__asked,F_AskReader__asked⟩:=c.def_ 22 (d:=mr) rfl
 obtain⟨d_AskReader__question,F_AskReader__question⟩:=c.def_ 23 (d:=kB) rfl
 obtain⟨d_read_question,F_read_question⟩:=c.def_ 24 (d:=o7) rfl
 obtain⟨d__law_only,F__law_only⟩:=c.def_ 25 (d:=uo) rfl
 obtain⟨d_law,F_law⟩:=c.def_ 26 (d:=EO) rfl
 have e:=hfa.symm.trans (He.glo_ok X G (c.fact 25 (f:=.glo "law") rfl))
 cases e
 have b:=FunD.bindsA (ps:=["_law_script"]) F_law fun _ _ _ _ _ _ us hl=>match us,hl with | [_],_=>rfl
 obtain⟨t_FIGURES,c_FIGURES⟩:=He.str_ok X G (c.fact 36 (f:=.str "FIGURES" "0123456789") rfl)
 obtain⟨t_LETTERS,c_LETTERS⟩:=He.str_ok X G (c.fact 37 (f:=.str "LETTERS" "abcdefghijklmnopqrstuvwxyz") rfl)
 refine⟨d_law,fun s v=>b s [v] rfl,fun base _ _=>I9 (Lf (cA:=qW K) (E:=⟨
  _,d__law_pop,F__law_pop,F__law_pop.bindsN fun _ _ _ _ _ _ us hl=>match us,hl with | [_],_=>rfl,He.glo_ok X G (c.fact 0 (f:=.glo "_law_pop") rfl),
  _,d__law_pool,F__law_pool,F__law_pool.bindsN fun _ _ _ _ _ _ us hl=>match us,hl with | [_],_=>rfl,He.glo_ok X G (c.fact 1 (f:=.glo "_law_pool") rfl),
  _,d__law_mix,F__law_mix,F__law_mix.bindsN fun _ _ _ _ _ _ us hl=>match us,hl with | [_,_],_=>rfl,He.glo_ok X G (c.fact 2 (f:=.glo "_law_mix") rfl),
  _,d__law_draws,F__law_draws,F__law_draws.bindsN fun _ _ _ _ _ _ us hl=>match us,hl with | [_,_,_],_=>rfl,He.glo_ok X G (c.fact 3 (f:=.glo "_law_draws") rfl),
  _,d__law_field,F__law_field,F__law_field.bindsN fun _ _ _ _ _ _ us hl=>match us,hl with | [_],_=>rfl,He.glo_ok X G (c.fact 4 (f:=.glo "_law_field") rfl),
  _,d__law_pattern,F__law_pattern,F__law_pattern.bindsN fun _ _ _ _ _ _ us hl=>match us,hl with | [_,_],_=>rfl,He.glo_ok X G (c.fact 5 (f:=.glo "_law_pattern") rfl),
  _,d__law_question,F__law_question,F__law_question.bindsN fun _ _ _ _ _ _ us hl=>match us,hl with | [_,_,_],_=>rfl,He.glo_ok X G (c.fact 6 (f:=.glo "_law_question") rfl),
  _,d__law_spoilt,F__law_spoilt,F__law_spoilt.bindsN fun _ _ _ _ _ _ us hl=>match us,hl with | [_,_],_=>rfl,He.glo_ok X G (c.fact 7 (f:=.glo "_law_spoilt") rfl),
  _,d__law_shown,F__law_shown,F__law_shown.bindsN fun _ _ _ _ _ _ us hl=>match us,hl with | [_],_=>rfl,He.glo_ok X G (c.fact 8 (f:=.glo "_law_shown") rfl),
  _,d__law_put,F__law_put,F__law_put.bindsN fun _ _ _ _ _ _ us hl=>match us,hl with | [_],_=>rfl,He.glo_ok X G (c.fact 9 (f:=.glo "_law_put") rfl),
  _,d__law_run,F__law_run,F__law_run.bindsN fun _ _ _ _ _ _ us hl=>match us,hl with | [_,_],_=>rfl,He.glo_ok X G (c.fact 10 (f:=.glo "_law_run") rfl),
  _,d__law_listed,F__law_listed,F__law_listed.bindsN fun _ _ _ _ _ _ us hl=>match us,hl with | [_,_],_=>rfl,He.glo_ok X G (c.fact 11 (f:=.glo "_law_listed") rfl),
  _,d__law_asked,F__law_asked,F__law_asked.bindsN fun _ _ _ _ _ _ us hl=>match us,hl with | [_,_],_=>rfl,He.glo_ok X G (c.fact 12 (f:=.glo "_law_asked") rfl),
  _,d__law_read,F__law_read,F__law_read.bindsN fun _ _ _ _ _ _ us hl=>match us,hl with | [_],_=>rfl,He.glo_ok X G (c.fact 13 (f:=.glo "_law_read") rfl),
  _,d__law_size,F__law_size,F__law_size.bindsN fun _ _ _ _ _ _ us hl=>match us,hl with | [_,_],_=>rfl,He.glo_ok X G (c.fact 14 (f:=.glo "_law_size") rfl),
  _,gi,F_AskReader____init__,F_AskReader____init__.bindsN fun _ _ _ _ _ _ us hl=>match us,hl with | [_,_],_=>rfl,
  _,d_AskReader__begins,F_AskReader__begins,F_AskReader__begins.bindsN fun _ _ _ _ _ _ us hl=>match us,hl with | [_,_],_=>rfl,He.meth_ok (c.fact 15 (f:=.meth "AskReader" "begins") rfl),
  _,d_AskReader__sure,F_AskReader__sure,F_AskReader__sure.bindsN fun _ _ _ _ _ _ us hl=>match us,hl with | [_,_],_=>rfl,He.meth_ok (c.fact 16 (f:=.meth "AskReader" "sure") rfl),
  _,d_AskReader__eat,F_AskReader__eat,F_AskReader__eat.bindsN fun _ _ _ _ _ _ us hl=>match us,hl with | [_,_],_=>rfl,He.meth_ok (c.fact 17 (f:=.meth "AskReader" "eat") rfl),
  _,d_AskReader__row_of,F_AskReader__row_of,F_AskReader__row_of.bindsN fun _ _ _ _ _ _ us hl=>match us,hl with | [_,_,_],_=>rfl,He.meth_ok (c.fact 18 (f:=.meth "AskReader" "row_of") rfl),
  _,d_AskReader__many,F_AskReader__many,F_AskReader__many.bindsN fun _ _ _ _ _ _ us hl=>match us,hl with | [_],_=>rfl,He.meth_ok (c.fact 19 (f:=.meth "AskReader" "many") rfl),
  _,d_AskReader__words,F_AskReader__words,F_AskReader__words.bindsN fun _ _ _ _ _ _ us hl=>match us,hl with | [_,_],_=>rfl,He.meth_ok (c.fact 20 (f:=.meth "AskReader" "words") rfl),
  _,d_AskReader__asked,F_AskReader__asked,F_AskReader__asked.bindsN fun _ _ _ _ _ _ us hl=>match us,hl with | [_,_],_=>rfl,He.meth_ok (c.fact 21 (f:=.meth "AskReader" "asked") rfl),
  _,d_AskReader__question,F_AskReader__question,F_AskReader__question.bindsN fun _ _ _ _ _ _ us hl=>match us,hl with | [_],_=>rfl,He.meth_ok (c.fact 22 (f:=.meth "AskReader" "question") rfl),
  _,d_read_question,F_read_question,F_read_question.bindsN fun _ _ _ _ _ _ us hl=>match us,hl with | [_],_=>rfl,He.glo_ok X G (c.fact 23 (f:=.glo "read_question") rfl),
  _,d__law_only,F__law_only,F__law_only.bindsN fun _ _ _ _ _ _ us hl=>match us,hl with | [_],_=>rfl,He.glo_ok X G (c.fact 24 (f:=.glo "_law_only") rfl),
  _,d_law,F_law,F_law.bindsN fun _ _ _ _ _ _ us hl=>match us,hl with | [_],_=>rfl,He.glo_ok X G (c.fact 25 (f:=.glo "law") rfl),
  He.free_ok X G (c.fact 26 (f:=.free "ValueError") rfl),
  He.free_ok X G (c.fact 27 (f:=.free "enumerate") rfl),
  He.free_ok X G (c.fact 28 (f:=.free "int") rfl),
  He.free_ok X G (c.fact 29 (f:=.free "isinstance") rfl),
  He.free_ok X G (c.fact 30 (f:=.free "len") rfl),
  He.free_ok X G (c.fact 31 (f:=.free "max") rfl),
  He.free_ok X G (c.fact 32 (f:=.free "range") rfl),
  He.free_ok X G (c.fact 33 (f:=.free "str") rfl),
  He.free_ok X G (c.fact 34 (f:=.free "sum") rfl),
  He.free_ok X G (c.fact 35 (f:=.free "tuple") rfl),
  t_FIGURES,c_FIGURES,
  t_LETTERS,c_LETTERS,
  He.glo_ok X G (c.fact 38 (f:=.glo "AskReader") rfl),
  He.glo_ok X G (c.fact 39 (f:=.glo "FindError") rfl),
  He.glo_ok X G (c.fact 40 (f:=.glo "NoBytes") rfl),
  He.glo_ok X G (c.fact 41 (f:=.glo "NoDocument") rfl),
  He.glo_ok X G (c.fact 42 (f:=.glo "NoField") rfl),
  He.glo_ok X G (c.fact 43 (f:=.glo "NoLine") rfl),
  He.glo_ok X G (c.fact 44 (f:=.glo "NoMake") rfl),
  He.glo_ok X G (c.fact 45 (f:=.glo "NoPattern") rfl),
  He.glo_ok X G (c.fact 46 (f:=.glo "NoPiece") rfl),
  He.glo_ok X G (c.fact 47 (f:=.glo "NoStamp") rfl),
  He.glo_ok X G (c.fact 48 (f:=.glo "NoText") rfl),
  Il (c.fact 49 (f:=.exc "NoText") rfl),
  IZ (qp ex 0 (b:=J0 K cU "FindError") rfl),
  jX (qp ex 1 (b:=j5 K cU "FindError") rfl),
  jX (qp ex 2 (b:=j5 K cU "NoBytes") rfl),
  jX (qp ex 3 (b:=j5 K cU "NoDocument") rfl),
  jX (qp ex 4 (b:=j5 K cU "NoField") rfl),
  jX (qp ex 5 (b:=j5 K cU "NoLine") rfl),
  jX (qp ex 6 (b:=j5 K cU "NoMake") rfl),
  jX (qp ex 7 (b:=j5 K cU "NoPattern") rfl),
  jX (qp ex 8 (b:=j5 K cU "NoPiece") rfl),
  jX (qp ex 9 (b:=j5 K cU "NoStamp") rfl),
  jX (qp ex 10 (b:=j5 K cU "NoText") rfl),
  jX (qp ex 11 (b:=j5 K cU "ValueError") rfl),
  He.cls_ok (c.fact 50 (f:=.cls "AskReader") rfl),
  He.mkr_ok (c.fact 51 (f:=.mkr "AskReader") rfl),
  HH (qp ex 12 (b:=FJ K fT) rfl)⟩))⟩
end K82
open PySem PySem.W PySem.Calls PyProof.Rows
theorem PySem.Challenge.cw_findcourt_k82_lines_looked_at_holds : PySem.Challenge.rw_findcourt_k82_lines_looked_at.Holds := by
 refine K82.early ?hc
 case hc=>
  refine L2.walk_ofE (l:=PySem.Challenge.rw_findcourt_k82_lines_looked_at) (n:=63) (k:=102) (x:="_law_script") (CX:=Vw.G7) rfl (by decide) (by kernel_rfl) ⟨rfl,by decide,by decide⟩ ?F Vw.JQ
  intro w mg fa h Y G hmg0
  obtain⟨K,KX,c,nl,ex⟩:=Y
  have hmg:mg ("law":PySem.Str)=some (.ref fa):=by
   have e:(HandSHeadRun.topDef (OpenLaw.row PySem.Challenge.rw_findcourt_k82_lines_looked_at).prog 33).name=("law":PySem.Str):=by kernel_rfl
   rw[←e]
   exact hmg0
  obtain⟨fd,hb,hF⟩:=K82.facts (P:=(PySem.Challenge.rw_findcourt_k82_lines_looked_at).prog) (w:=w) KX G hmg c ex
  exact⟨K,fd,_,KX,hb,fun H a ns hl _ hS=>Vw.DZ nl hS (K82.JH ns hl),hF⟩
