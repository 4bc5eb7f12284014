import PyProof.Rows.All
import Wide.All
import OpenK.AllK
import Wide.FinOn
import HandS.ForMost
import HandS.ForExc
import HandS.Walk
import HandS.Wide
import KE.SortData
import HandS.ExcIs
import HandS.ExcField
import HandS.ExcInit
import HandS.TryOnly
import KE.DataEq
import HandS.Zip
import PyProof.Draws
import HandS.Rev
import HandS.Defaults
import HandS.WordsExc
import HandS.Comp
import HandS.Small
import HandS.Text
import HandS.IsInst
import HandS.SortInts
import HandS.Head0
import HandS.Head1
import HandS.Head2
import HandS.HeadEnd
import HandS.HeadHook1
import HandS.HeadHook2
import HandS.Replace
import KE.KExcIs
import HandS.Style
import PySem.Challenge.RW_findcourt_k12_texts_and_postings_as_byte
set_option Elab.async false
set_option linter.all false
set_option maxRecDepth 100000
set_option maxHeartbeats 4100000
namespace Vw
open PySem L2

/-- a plain key -/
inductive K0 where
  | i (n : Int)
  | s (t : List Nat)
  deriving DecidableEq
/-- a datum that nobody changes any more -/
inductive D where
  | non
  | bl (b : Bool)
  | int (i : Int)
  | str (s : List Nat)
  | tup (l : List D)
  | lst (l : List D)
  | dic (l : List (K0 × D))
  | dit (l : List (List K0 × D))
  | ins (c : String) (fs : List (String × D))
  | exc (c : String) (p : List D)
/-- a value: a datum, an object of the store, a tuple of values -/
inductive Val where
  | d (x : D)
  | r (n : Nat)
  | tp (l : List Val)
/-- an object that may change -/
inductive Ob where
  | lst (l : List Val)
  | dic (k : Bool) (l : List (K0 × Val))
  | dit (k : Bool) (l : List (List K0 × Val))
  | ins (c : String) (fs : List (String × Val))
  | gone
/-- a slot: a value, or an object of its own -/
inductive Sl where
  | v (x : Val)
  | own (o : Ob)
abbrev Slots := List (Option Sl)
structure State where
  sg : Slots
  st : List Ob
/-- what an expression gives: a value, a new object, the object of a slot -/
inductive RV where
  | val (x : Val)
  | new (o : Ob)
  | own (i : Nat)
/-- an error: its class, its place -/
structure Exn where
  c : String
  p : Option D
inductive Res (α : Type) where
  | ok (a : α) (s : State)
  | exc (x : Exn) (s : State)
  | stuck
def Res.bind {α β : Type} : Res α → (α → State → Res β) → Res β
  | .ok a s, k => k a s
  | .exc x s, _ => .exc x s
  | .stuck, _ => .stuck
@[simp] theorem Res.bind_ok {α β : Type} (a : α) (s : State) (k : α → State → Res β) : (Res.ok a s).bind k = k a s := id rfl
@[simp] theorem Res.bind_exc {α β : Type} (x : Exn) (s : State) (k : α → State → Res β) : (Res.exc x s).bind k = .exc x s := id rfl
@[simp] theorem Res.bind_stuck {α β : Type} (k : α → State → Res β) : (Res.stuck : Res α).bind k = .stuck := id rfl

def kz : K0 → Key
  | .i n => .inl n
  | .s t => .inr ⟨t.toArray⟩
theorem kz_inj {a b : K0} (h : kz a = kz b) : a = b := by
  cases a <;> cases b <;> simp [kz] at h <;> first | (subst h; rfl) | skip
  all_goals (rw [h])

/-- a caught exception of the class cls at a, d its dict -/
def ExH (cls : Value) (a : Addr) (d : Option Addr) : HO := .ext fun h => ∃ oe : Obj, h.get? a = some oe ∧ Zc cls d oe ∧ ∃ vs, oe.data = .fields vs
/-- what its dict has -/
def XdH (Z : Hp) (d : Option Addr) (ws : List V) : Prop := (d = none ∧ ws = []) ∨ ∃ dd w, d = some dd ∧ ws = [w] ∧ Z dd = some (.xd [(Str.ofString "place", w)])
theorem XdH.mono {Z Z' : Hp} (h : Same Z Z') {d : Option Addr} {ws : List V} (x : XdH Z d ws) : XdH Z' d ws := x.elim .inl fun ⟨dd, w, e1, e2, z⟩ => .inr ⟨dd, w, e1, e2, h _ _ z⟩
section
variable (cA : String → Addr) (Z : Hp)
mutual
def RepD : D → V → Prop
  | .non, v => v = .non
  | .bl b, v => v = .bl b
  | .int i, v => v = .int i
  | .str s, v => v = .str ⟨s.toArray⟩
  | .tup ds, v => ∃ a vs, v = .ref a ∧ Z a = some (.tup vs) ∧ RepDs ds vs
  | .lst ds, v => ∃ a vs, v = .ref a ∧ (Z a = some (.lst vs) ∨ ∃ o, Z a = some (.frz o (.lst vs))) ∧ RepDs ds vs
  | .dic l, v => ∃ a ws, v = .ref a ∧ Z a = some (.dK ws) ∧ RepKs l ws
  | .dit l, v => ∃ a ws, v = .ref a ∧ Z a = some (.dT ws) ∧ RepTs l ws
  | .ins c fs, v => ∃ a dx ws, v = .ref a ∧ Z a = some (.ins (cA c) dx ws) ∧ RepFs fs ws
  | .exc c ps, v => ∃ a d ws, v = .ref a ∧ Z a = some (ExH (.ref (cA c)) a d) ∧ XdH Z d ws ∧ RepDs ps ws
def RepDs : List D → List V → Prop
  | [], vs => vs = []
  | d :: ds, vs => ∃ v r, vs = v :: r ∧ RepD d v ∧ RepDs ds r
def RepKs : List (K0 × D) → List (Key × V) → Prop
  | [], ws => ws = []
  | (k, d) :: ds, ws => ∃ v r, ws = (kz k, v) :: r ∧ RepD d v ∧ RepKs ds r
def RepTs : List (List K0 × D) → List (List Key × V) → Prop
  | [], ws => ws = []
  | (k, d) :: ds, ws => ∃ v r, ws = (k.map kz, v) :: r ∧ RepD d v ∧ RepTs ds r
def RepFs : List (String × D) → List (Str × V) → Prop
  | [], ws => ws = []
  | (f, d) :: ds, ws => ∃ v r, ws = (Str.ofString f, v) :: r ∧ RepD d v ∧ RepFs ds r
end
end
section
variable {cA : String → Addr} {Z Z' : Hp}
mutual
theorem RepD.mono (h : Same Z Z') : ∀ (d : D) {v : V}, RepD cA Z d v → RepD cA Z' d v
  | .non, v, q => q
  | .bl _, v, q => q
  | .int _, v, q => q
  | .str _, v, q => q
  | .tup ds, v, ⟨a, vs, e, z, q⟩ => ⟨a, vs, e, h _ _ z, RepDs.mono h ds q⟩
  | .lst ds, v, ⟨a, vs, e, z, q⟩ => ⟨a, vs, e, z.elim (fun z => .inl (h _ _ z)) (fun ⟨o, z⟩ => .inr ⟨o, h _ _ z⟩), RepDs.mono h ds q⟩
  | .dic l, v, ⟨a, vs, e, z, q⟩ => ⟨a, vs, e, h _ _ z, RepKs.mono h l q⟩
  | .dit l, v, ⟨a, vs, e, z, q⟩ => ⟨a, vs, e, h _ _ z, RepTs.mono h l q⟩
  | .ins c fs, v, ⟨a, dx, ws, e, z, q⟩ => ⟨a, dx, ws, e, h _ _ z, RepFs.mono h fs q⟩
  | .exc c ps, v, ⟨a, d, ws, e, z, x, q⟩ => ⟨a, d, ws, e, h _ _ z, x.mono h, RepDs.mono h ps q⟩
theorem RepDs.mono (h : Same Z Z') : ∀ (ds : List D) {vs : List V}, RepDs cA Z ds vs → RepDs cA Z' ds vs
  | [], vs, q => q
  | d :: ds, vs, ⟨v, r, e, q, t⟩ => ⟨v, r, e, RepD.mono h d q, RepDs.mono h ds t⟩
theorem RepKs.mono (h : Same Z Z') : ∀ (ds : List (K0 × D)) {vs : List (Key × V)}, RepKs cA Z ds vs → RepKs cA Z' ds vs
  | [], vs, q => q
  | (k, d) :: ds, vs, ⟨v, r, e, q, t⟩ => ⟨v, r, e, RepD.mono h d q, RepKs.mono h ds t⟩
theorem RepTs.mono (h : Same Z Z') : ∀ (ds : List (List K0 × D)) {vs : List (List Key × V)}, RepTs cA Z ds vs → RepTs cA Z' ds vs
  | [], vs, q => q
  | (k, d) :: ds, vs, ⟨v, r, e, q, t⟩ => ⟨v, r, e, RepD.mono h d q, RepTs.mono h ds t⟩
theorem RepFs.mono (h : Same Z Z') : ∀ (ds : List (String × D)) {vs : List (Str × V)}, RepFs cA Z ds vs → RepFs cA Z' ds vs
  | [], vs, q => q
  | (k, d) :: ds, vs, ⟨v, r, e, q, t⟩ => ⟨v, r, e, RepD.mono h d q, RepFs.mono h ds t⟩
end
end
end Vw
namespace Vw
open PySem L2

section
variable (cA : String → Addr) (Z : Hp) (loc : List Addr)
mutual
def RepV : Val → V → Prop
  | .d x, v => RepD cA Z x v
  | .r n, v => ∃ a, loc[n]? = some a ∧ v = .ref a
  | .tp l, v => ∃ a vs, v = .ref a ∧ Z a = some (.tup vs) ∧ RepVs l vs
def RepVs : List Val → List V → Prop
  | [], vs => vs = []
  | x :: l, vs => ∃ v r, vs = v :: r ∧ RepV x v ∧ RepVs l r
end
def RepVKs : List (K0 × Val) → List (Key × V) → Prop
  | [], ws => ws = []
  | (k, x) :: l, ws => ∃ v r, ws = (kz k, v) :: r ∧ RepV cA Z loc x v ∧ RepVKs l r
def RepVTs : List (List K0 × Val) → List (List Key × V) → Prop
  | [], ws => ws = []
  | (k, x) :: l, ws => ∃ v r, ws = (k.map kz, v) :: r ∧ RepV cA Z loc x v ∧ RepVTs l r
def RepVFs : List (String × Val) → List (Str × V) → Prop
  | [], ws => ws = []
  | (f, x) :: l, ws => ∃ v r, ws = (Str.ofString f, v) :: r ∧ RepV cA Z loc x v ∧ RepVFs l r
def LkD (H : Hp) (a : Addr) (u : HO) : Bool → Prop
  | false => H a = some u
  | true => ∃ o, H a = some (.frz o u)
def Cell (H : Hp) (a : Addr) : Ob → Prop
  | .lst l => ∃ xs, H a = some (.lst xs) ∧ RepVs cA Z loc l xs
  | .dic k l => ∃ ws, LkD H a (.dK ws) k ∧ RepVKs cA Z loc l ws
  | .dit k l => ∃ ws, LkD H a (.dT ws) k ∧ RepVTs cA Z loc l ws
  | .ins c fs => ∃ dx ws, H a = some (.ins (cA c) dx ws) ∧ RepVFs cA Z loc fs ws
  | .gone => True
end
/-- Z grows, the store's places stay -/
def Ext (Z : Hp) (loc : List Addr) (Z' : Hp) (loc' : List Addr) : Prop := Same Z Z' ∧ ∃ m, loc' = loc ++ m
theorem Ext.refl (Z : Hp) (loc : List Addr) : Ext Z loc Z loc := ⟨Same.refl _, [], by simp⟩
theorem Ext.trans {Z Z1 Z2 : Hp} {l l1 l2 : List Addr} (a : Ext Z l Z1 l1) (b : Ext Z1 l1 Z2 l2) : Ext Z l Z2 l2 := by
  obtain ⟨a1, m, rfl⟩ := a
  obtain ⟨b1, n, rfl⟩ := b
  exact ⟨a1.trans b1, m ++ n, by simp⟩
theorem Ext.z {Z Z' : Hp} {l : List Addr} (h : Same Z Z') : Ext Z l Z' l := ⟨h, [], by simp⟩
section
variable {cA : String → Addr} {Z Z' : Hp} {loc loc' : List Addr}
mutual
theorem RepV.mono (h : Ext Z loc Z' loc') : ∀ (x : Val) {v : V}, RepV cA Z loc x v → RepV cA Z' loc' x v
  | .d x, v, q => RepD.mono h.1 x q
  | .r n, v, ⟨a, e, q⟩ => ⟨a, by
    obtain ⟨_, m, rfl⟩ := h
    rw [List.getElem?_append_left (List.getElem?_eq_some_iff.mp e).1]
    exact e, q⟩
  | .tp l, v, ⟨a, vs, e, z, q⟩ => ⟨a, vs, e, h.1 _ _ z, RepVs.mono h l q⟩
theorem RepVs.mono (h : Ext Z loc Z' loc') : ∀ (l : List Val) {vs : List V}, RepVs cA Z loc l vs → RepVs cA Z' loc' l vs
  | [], vs, q => q
  | x :: l, vs, ⟨v, r, e, q, t⟩ => ⟨v, r, e, RepV.mono h x q, RepVs.mono h l t⟩
end
theorem RepVKs.mono (h : Ext Z loc Z' loc') : ∀ (l : List (K0 × Val)) {vs : List (Key × V)}, RepVKs cA Z loc l vs → RepVKs cA Z' loc' l vs
  | [], vs, q => q
  | (k, x) :: l, vs, ⟨v, r, e, q, t⟩ => ⟨v, r, e, RepV.mono h x q, RepVKs.mono h l t⟩
theorem RepVTs.mono (h : Ext Z loc Z' loc') : ∀ (l : List (List K0 × Val)) {vs : List (List Key × V)}, RepVTs cA Z loc l vs → RepVTs cA Z' loc' l vs
  | [], vs, q => q
  | (k, x) :: l, vs, ⟨v, r, e, q, t⟩ => ⟨v, r, e, RepV.mono h x q, RepVTs.mono h l t⟩
theorem RepVFs.mono (h : Ext Z loc Z' loc') : ∀ (l : List (String × Val)) {vs : List (Str × V)}, RepVFs cA Z loc l vs → RepVFs cA Z' loc' l vs
  | [], vs, q => q
  | (k, x) :: l, vs, ⟨v, r, e, q, t⟩ => ⟨v, r, e, RepV.mono h x q, RepVFs.mono h l t⟩
theorem LkD.grow {H H' : Hp} (h : Same H H') {a : Addr} {u : HO} : ∀ {k : Bool}, LkD H a u k → LkD H' a u k
  | false, q => h _ _ q
  | true, ⟨o, q⟩ => ⟨o, h _ _ q⟩
theorem lkd_ne {H : Hp} {a : Addr} {u : HO} : ∀ {k : Bool}, LkD H a u k → H a ≠ none
  | false, q => by rw [show H a = _ from q]; simp
  | true, ⟨o, q⟩ => by rw [q]; simp
theorem Cell.mono {H H' : Hp} {a : Addr} (h : Ext Z loc Z' loc') (g : Same H H') : ∀ {o : Ob}, Cell cA Z loc H a o → Cell cA Z' loc' H' a o
  | .lst l, ⟨xs, e, q⟩ => ⟨xs, g _ _ e, RepVs.mono h l q⟩
  | .dic k l, ⟨xs, e, q⟩ => ⟨xs, e.grow g, RepVKs.mono h l q⟩
  | .dit k l, ⟨xs, e, q⟩ => ⟨xs, e.grow g, RepVTs.mono h l q⟩
  | .ins c l, ⟨dx, xs, e, q⟩ => ⟨dx, xs, g _ _ e, RepVFs.mono h l q⟩
  | .gone, _ => trivial
/-- the cell's heap may change elsewhere -/
theorem Cell.at {H H' : Hp} {a : Addr} (g : H' a = H a) : ∀ {o : Ob}, Cell cA Z loc H a o → Cell cA Z loc H' a o
  | .lst l, ⟨xs, e, q⟩ => ⟨xs, g.trans e, q⟩
  | .dic false l, ⟨xs, e, q⟩ => ⟨xs, g.trans e, q⟩
  | .dic true l, ⟨xs, ⟨o, e⟩, q⟩ => ⟨xs, ⟨o, g.trans e⟩, q⟩
  | .dit false l, ⟨xs, e, q⟩ => ⟨xs, g.trans e, q⟩
  | .dit true l, ⟨xs, ⟨o, e⟩, q⟩ => ⟨xs, ⟨o, g.trans e⟩, q⟩
  | .ins c l, ⟨dx, xs, e, q⟩ => ⟨dx, xs, g.trans e, q⟩
  | .gone, _ => trivial
theorem cell_ne {H : Hp} {a : Addr} {o : Ob} (ne : o ≠ .gone) (h : Cell cA Z loc H a o) : H a ≠ none := by
  cases o with
  | lst l => obtain ⟨xs, e, q⟩ := h; rw [e]; simp
  | dic k l => obtain ⟨xs, e, q⟩ := h; exact lkd_ne e
  | dit k l => obtain ⟨xs, e, q⟩ := h; exact lkd_ne e
  | ins c l => obtain ⟨dx, xs, e, q⟩ := h; rw [e]; simp
  | gone => exact absurd rfl ne
end

def isDic : HO → Bool
  | .dK _ => true
  | .dT _ => true
  | _ => false
/-- it stands there; a dict may be locked -/
def Rz (H : Hp) (a : Addr) (u : HO) : Prop := H a = some u ∨ (isDic u = true ∧ ∃ o, H a = some (.frz o u))
theorem rd_some {H : Hp} {a : Addr} {u : HO} (h : Rz H a u) : H a ≠ none := by
  rcases h with h | ⟨_, o, h⟩ <;> rw [h] <;> simp
theorem rd_grow {H H' : Hp} (g : Same H H') {a : Addr} {u : HO} (h : Rz H a u) : Rz H' a u := h.elim (fun h => .inl (g _ _ h)) fun ⟨d, o, h⟩ => .inr ⟨d, o, g _ _ h⟩
theorem Rz.rd {H : Hp} {a : Addr} {u : HO} (h : Rz H a u) : Rd H a u := h.elim .inl fun ⟨_, o, h⟩ => .inr ⟨o, h⟩
theorem Rz.at {H : Hp} {a : Addr} {u : HO} (h : Rz H a u) (d : isDic u = false) : H a = some u := h.elim id fun ⟨e, _⟩ => by rw [d] at e; cases e
/-- what stays through a frame: the part that it does not touch, the heap at its entry, the wish for errors -/
structure Cst where
  cA : String → Addr
  Fr : Hp
  H0 : Hp
  W : WX
/-- the state's meaning -/
structure SR (C : Cst) (Z : Hp) (loc : List Addr) (s : State) (sv : L2.St) (H : Hp) : Prop where
  fr : Same C.Fr H
  zh : ∀ (a : Addr) (o : HO), Z a = some o → Rz H a o
  zf : ∀ (a : Addr) (o : HO), Z a = some o → C.Fr a = none
  lk : ∀ (a : Addr) (o : Obj) (u : HO), C.H0 a = some (.frz o u) → H a = some (.frz o u)
  ln : loc.length = s.st.length
  nd : loc.Nodup
  lh : ∀ a ∈ loc, H a ≠ none ∧ C.Fr a = none
  cl : ∀ (n : Nat) (a : Addr) (o : Ob), loc[n]? = some a → s.st[n]? = some o → o ≠ .gone → Cell C.cA Z loc H a o ∧ Z a = none
  vl : ∀ (i : Nat) (x : Val), s.sg[i]? = some (some (.v x)) → ∃ v, sv[i]? = some (some v) ∧ RepV C.cA Z loc x v
  ow : ∀ (i : Nat) (o : Ob), s.sg[i]? = some (some (.own o)) → ∃ a, sv[i]? = some (some (.ref a)) ∧ o ≠ .gone ∧ Cell C.cA Z loc H a o ∧ Z a = none ∧ C.Fr a = none ∧ a ∉ loc
  oi : ∀ (i j : Nat) (o o' : Ob) (a : Addr), s.sg[i]? = some (some (.own o)) → s.sg[j]? = some (some (.own o')) → sv[i]? = some (some (.ref a)) → sv[j]? = some (some (.ref a)) → i = j
  ls : s.sg.length = sv.length
/-- a place that nothing known stands at -/
structure Free (C : Cst) (Z : Hp) (loc : List Addr) (s : State) (sv : L2.St) (a : Addr) : Prop where
  z : Z a = none
  f : C.Fr a = none
  l : a ∉ loc
  o : ∀ (i : Nat) (o : Ob), s.sg[i]? = some (some (.own o)) → sv[i]? ≠ some (some (.ref a))
def RVR (C : Cst) (Z : Hp) (loc : List Addr) (s : State) (sv : L2.St) (H : Hp) : RV → V → Prop
  | .val x, v => RepV C.cA Z loc x v
  | .new o, v => ∃ a, v = .ref a ∧ o ≠ .gone ∧ Cell C.cA Z loc H a o ∧ Free C Z loc s sv a
  | .own i, v => sv[i]? = some (some v)

section
variable {C : Cst} {Z Z' : Hp} {loc loc' : List Addr} {s s' : State} {sv : L2.St} {H H' : Hp}
theorem SR.grow (r : SR C Z loc s sv H) (g : Same H H') : SR C Z loc s sv H' where
  fr := r.fr.trans g
  zh a o h := rd_grow g (r.zh a o h)
  zf := r.zf
  lk a o u h := g _ _ (r.lk a o u h)
  ln := r.ln
  nd := r.nd
  lh a h := ⟨fun e => (r.lh a h).1 (g.free e), (r.lh a h).2⟩
  cl n a o h1 h2 h3 := ⟨(r.cl n a o h1 h2 h3).1.mono (Ext.refl _ _) g, (r.cl n a o h1 h2 h3).2⟩
  vl := r.vl
  ow i o h := let ⟨a, h1, h2, h3, h4⟩ := r.ow i o h; ⟨a, h1, h2, h3.mono (Ext.refl _ _) g, h4⟩
  oi := r.oi
  ls := r.ls
theorem same_upd {p : Addr} {o : HO} (h : H p = none) : Same H (upd H p o) := fun b x e => by rw [upd_ne (ne_of_none e h)]; exact e
theorem SR.free (r : SR C Z loc s sv H) {p : Addr} (h : H p = none) : Free C Z loc s sv p where
  z := by
    cases e : Z p with
    | none => rfl
    | some o => exact absurd h (rd_some (r.zh p o e))
  f := r.fr.free h
  l hm := (r.lh p hm).1 h
  o i ob e q := by
    obtain ⟨a, h1, h2, h3, _⟩ := r.ow i ob e
    rw [h1] at q
    cases q
    exact cell_ne h2 h3 h
/-- what is made and not changed any more -/
theorem SR.absorb (r : SR C Z loc s sv H) {a : Addr} {o : HO} (e : H a = some o) (f : Free C Z loc s sv a) : SR C (upd Z a o) loc s sv H := by
  have g : Ext Z loc (upd Z a o) loc := Ext.z (same_upd f.z)
  refine ⟨r.fr, fun b u h => ?_, fun b u h => ?_, r.lk, r.ln, r.nd, r.lh, fun n b ob h1 h2 h3 => ?_, fun i x h => ?_, fun i ob h => ?_, r.oi, r.ls⟩
  · by_cases hb : b = a
    · subst hb
      rw [upd_same] at h
      cases h
      exact .inl e
    · rw [upd_ne hb] at h
      exact r.zh b u h
  · by_cases hb : b = a
    · subst hb
      exact f.f
    · rw [upd_ne hb] at h
      exact r.zf b u h
  · obtain ⟨q1, q2⟩ := r.cl n b ob h1 h2 h3
    have hb : b ≠ a := fun z => f.l (z ▸ List.mem_of_getElem? h1)
    exact ⟨q1.mono g (Same.refl _), by rw [upd_ne hb]; exact q2⟩
  · obtain ⟨v, h1, h2⟩ := r.vl i x h
    exact ⟨v, h1, RepV.mono g x h2⟩
  · obtain ⟨b, h1, h2, h3, h4, h5⟩ := r.ow i ob h
    have hb : b ≠ a := fun z => f.o i ob h (z ▸ h1)
    exact ⟨b, h1, h2, h3.mono g (Same.refl _), by rw [upd_ne hb]; exact h4, h5⟩
end
end Vw
namespace Vw
open PySem L2

def toDs : List Val → Option (List D)
  | [] => some []
  | .d x :: r => (toDs r).map (x :: ·)
  | _ :: _ => none
def toDK {κ : Type} : List (κ × Val) → Option (List (κ × D))
  | [] => some []
  | (k, .d x) :: r => (toDK r).map ((k, x) :: ·)
  | _ :: _ => none
def Ob.toD : Ob → Option D
  | .lst l => (toDs l).map .lst
  | .dic false l => (toDK l).map .dic
  | .dit false l => (toDK l).map .dit
  | .ins c fs => (toDK fs).map (.ins c)
  | _ => none
@[simp] theorem toDs_map (xs : List D) : toDs (xs.map .d) = some xs := by
  induction xs with
  | nil => rfl
  | cons x r ih => simp [toDs, ih]
@[simp] theorem toDK_map {κ : Type} (xs : List (κ × D)) : toDK (xs.map fun p => (p.1, Val.d p.2)) = some xs := by
  induction xs with
  | nil => rfl
  | cons x r ih => obtain ⟨k, x⟩ := x; simp [toDK, ih]
theorem toDs_inv : ∀ {l : List Val} {ds : List D}, toDs l = some ds → l = ds.map .d
  | [], ds, h => by cases h; rfl
  | .d x :: r, ds, h => by
    obtain ⟨t, e, rfl⟩ := Option.map_eq_some_iff.mp h
    rw [toDs_inv e]; rfl
  | .r _ :: _, ds, h => by cases h
  | .tp _ :: _, ds, h => by cases h
theorem toDK_inv {κ : Type} : ∀ {l : List (κ × Val)} {ds : List (κ × D)}, toDK l = some ds → l = ds.map fun p => (p.1, Val.d p.2)
  | [], ds, h => by cases h; rfl
  | (k, .d x) :: r, ds, h => by
    obtain ⟨t, e, rfl⟩ := Option.map_eq_some_iff.mp h
    rw [toDK_inv e]; rfl
  | (_, .r _) :: _, ds, h => by cases h
  | (_, .tp _) :: _, ds, h => by cases h
section
variable {cA : String → Addr} {Z : Hp} {loc : List Addr}
theorem rep_map : ∀ {ds : List D} {vs : List V}, RepVs cA Z loc (ds.map .d) vs ↔ RepDs cA Z ds vs
  | [], vs => Iff.rfl
  | d :: ds, vs => ⟨fun ⟨v, r, e, q, t⟩ => ⟨v, r, e, q, rep_map.mp t⟩, fun ⟨v, r, e, q, t⟩ => ⟨v, r, e, q, rep_map.mpr t⟩⟩
theorem rep_mapK : ∀ {ds : List (K0 × D)} {vs : List (Key × V)}, RepVKs cA Z loc (ds.map fun p => (p.1, Val.d p.2)) vs ↔ RepKs cA Z ds vs
  | [], vs => Iff.rfl
  | (k, d) :: ds, vs => ⟨fun ⟨v, r, e, q, t⟩ => ⟨v, r, e, q, rep_mapK.mp t⟩, fun ⟨v, r, e, q, t⟩ => ⟨v, r, e, q, rep_mapK.mpr t⟩⟩
theorem rep_mapT : ∀ {ds : List (List K0 × D)} {vs : List (List Key × V)}, RepVTs cA Z loc (ds.map fun p => (p.1, Val.d p.2)) vs ↔ RepTs cA Z ds vs
  | [], vs => Iff.rfl
  | (k, d) :: ds, vs => ⟨fun ⟨v, r, e, q, t⟩ => ⟨v, r, e, q, rep_mapT.mp t⟩, fun ⟨v, r, e, q, t⟩ => ⟨v, r, e, q, rep_mapT.mpr t⟩⟩
theorem rep_mapF : ∀ {ds : List (String × D)} {vs : List (Str × V)}, RepVFs cA Z loc (ds.map fun p => (p.1, Val.d p.2)) vs ↔ RepFs cA Z ds vs
  | [], vs => Iff.rfl
  | (k, d) :: ds, vs => ⟨fun ⟨v, r, e, q, t⟩ => ⟨v, r, e, q, rep_mapF.mp t⟩, fun ⟨v, r, e, q, t⟩ => ⟨v, r, e, q, rep_mapF.mpr t⟩⟩
/-- an object whose items are data is a datum once it is absorbed -/
theorem cell_toD {H : Hp} {a : Addr} {o : Ob} {d : D} (h : Cell cA Z loc H a o) (e : o.toD = some d) (z : Z a = none) :
    ∃ u, H a = some u ∧ RepD cA (upd Z a u) d (.ref a) := by
  cases o with
  | lst l =>
    obtain ⟨ds, e1, rfl⟩ := Option.map_eq_some_iff.mp e
    obtain ⟨xs, h1, h2⟩ := h
    rw [toDs_inv e1] at h2
    exact ⟨_, h1, a, xs, rfl, .inl upd_same, RepDs.mono (same_upd z) ds (rep_map.mp h2)⟩
  | dic k l =>
    cases k with
    | true => cases e
    | false =>
      obtain ⟨ds, e1, rfl⟩ := Option.map_eq_some_iff.mp e
      obtain ⟨xs, h1, h2⟩ := h
      rw [toDK_inv e1] at h2
      exact ⟨_, h1, a, xs, rfl, upd_same, RepKs.mono (same_upd z) ds (rep_mapK.mp h2)⟩
  | dit k l =>
    cases k with
    | true => cases e
    | false =>
      obtain ⟨ds, e1, rfl⟩ := Option.map_eq_some_iff.mp e
      obtain ⟨xs, h1, h2⟩ := h
      rw [toDK_inv e1] at h2
      exact ⟨_, h1, a, xs, rfl, upd_same, RepTs.mono (same_upd z) ds (rep_mapT.mp h2)⟩
  | ins c l =>
    obtain ⟨ds, e1, rfl⟩ := Option.map_eq_some_iff.mp e
    obtain ⟨dx, xs, h1, h2⟩ := h
    rw [toDK_inv e1] at h2
    exact ⟨_, h1, a, dx, xs, rfl, upd_same, RepFs.mono (same_upd z) ds (rep_mapF.mp h2)⟩
  | gone => cases e
end

def settle : RV → State → Res RV
  | .new o, s => match o.toD with
    | some d => .ok (.val (.d d)) s
    | none => .stuck
  | r, s => .ok r s
def capt (i : Nat) (s : State) : Res Val :=
  match s.sg[i]? with
  | some (some (.own o)) => match o.toD with
    | some d => .ok (.d d) { s with sg := s.sg.set i (some (.v (.d d))) }
    | none => .stuck
  | some (some (.v x)) => .ok x s
  | _ => .stuck
def cap : RV → State → Res Val
  | .val x, s => .ok x s
  | .new o, s => match o.toD with
    | some d => .ok (.d d) s
    | none => .stuck
  | .own i, s => capt i s

section
variable {C : Cst} {Z Z' : Hp} {loc loc' : List Addr} {s s' : State} {sv : L2.St} {H H' : Hp}
theorem SR.settled (r : SR C Z loc s sv H) {o : Ob} {v : V} {d : D} (h : RVR C Z loc s sv H (.new o) v) (e : o.toD = some d) : ∃ Z', Ext Z loc Z' loc ∧ SR C Z' loc s sv H ∧ RepV C.cA Z' loc (.d d) v := by
  obtain ⟨a, rfl, ne, h1, h2⟩ := h
  obtain ⟨u, h3, h4⟩ := cell_toD h1 e h2.z
  exact ⟨_, Ext.z (same_upd h2.z), r.absorb h3 h2, h4⟩
theorem set_get {α : Type} {l : List α} {i j : Nat} {x y : α} (h : (l.set i x)[j]? = some y) : (i = j ∧ y = x) ∨ (i ≠ j ∧ l[j]? = some y) := by
  by_cases e : i = j
  · subst e
    rw [List.getElem?_set] at h
    simp at h
    exact .inl ⟨rfl, h.2.symm⟩
  · rw [List.getElem?_set_ne e] at h
    exact .inr ⟨e, h⟩
theorem SR.drop (r : SR C Z loc s sv H) (i : Nat) : SR C Z loc { s with sg := s.sg.set i none } sv H := by
  refine ⟨r.fr, r.zh, r.zf, r.lk, r.ln, r.nd, r.lh, r.cl, fun j x h => ?_, fun j o h => ?_, fun j k o o' a h1 h2 => ?_, by simpa using r.ls⟩
  · rcases set_get h with ⟨_, q⟩ | ⟨_, q⟩
    · cases q
    · exact r.vl j x q
  · rcases set_get h with ⟨_, q⟩ | ⟨_, q⟩
    · cases q
    · exact r.ow j o q
  · rcases set_get h1 with ⟨_, q⟩ | ⟨_, q⟩
    · cases q
    · rcases set_get h2 with ⟨_, q'⟩ | ⟨_, q'⟩
      · cases q'
      · exact r.oi j k o o' a q q'
theorem SR.own_free (r : SR C Z loc s sv H) {i : Nat} {o : Ob} {a : Addr} (h : s.sg[i]? = some (some (.own o))) (ha : sv[i]? = some (some (.ref a))) : Free C Z loc { s with sg := s.sg.set i none } sv a := by
  obtain ⟨b, h1, h2, h3, h4, h5, h6⟩ := r.ow i o h
  rw [ha] at h1
  cases h1
  refine ⟨h4, h5, h6, fun j o' q e => ?_⟩
  rcases set_get q with ⟨_, q⟩ | ⟨ne, q⟩
  · cases q
  · exact ne (r.oi i j o o' a h q ha e)
theorem SR.setv (r : SR C Z loc s sv H) {i : Nat} {x : Val} {v : V} (h : sv[i]? = some (some v)) (q : RepV C.cA Z loc x v) : SR C Z loc { s with sg := s.sg.set i (some (.v x)) } sv H := by
  refine ⟨r.fr, r.zh, r.zf, r.lk, r.ln, r.nd, r.lh, r.cl, fun j y h1 => ?_, fun j o h1 => ?_, fun j k o o' a h1 h2 => ?_, by simpa using r.ls⟩
  · rcases set_get h1 with ⟨rfl, e⟩ | ⟨_, e⟩
    · cases e
      exact ⟨v, h, q⟩
    · exact r.vl j y e
  · rcases set_get h1 with ⟨rfl, e⟩ | ⟨_, e⟩
    · cases e
    · exact r.ow j o e
  · rcases set_get h1 with ⟨_, q⟩ | ⟨_, q⟩
    · cases q
    · rcases set_get h2 with ⟨_, q'⟩ | ⟨_, q'⟩
      · cases q'
      · exact r.oi j k o o' a q q'
theorem SR.seto (r : SR C Z loc s sv H) {i : Nat} {o : Ob} {a : Addr} (h : sv[i]? = some (some (.ref a))) (ne : o ≠ .gone) (q : Cell C.cA Z loc H a o) (f : Free C Z loc s sv a) : SR C Z loc { s with sg := s.sg.set i (some (.own o)) } sv H := by
  refine ⟨r.fr, r.zh, r.zf, r.lk, r.ln, r.nd, r.lh, r.cl, fun j y h1 => ?_, fun j ob h1 => ?_, fun j k ob ob' b h1 h2 h3 h4 => ?_, by simpa using r.ls⟩
  · rcases set_get h1 with ⟨rfl, e⟩ | ⟨_, e⟩
    · cases e
    · exact r.vl j y e
  · rcases set_get h1 with ⟨rfl, e⟩ | ⟨_, e⟩
    · cases e
      exact ⟨a, h, ne, q, f.z, f.f, f.l⟩
    · exact r.ow j ob e
  · rcases set_get h1 with ⟨rfl, e⟩ | ⟨n1, e⟩
    · rcases set_get h2 with ⟨rfl, e'⟩ | ⟨n2, e'⟩
      · rfl
      · rw [h] at h3
        cases h3
        exact absurd h4 (f.o k ob' e')
    · rcases set_get h2 with ⟨rfl, e'⟩ | ⟨n2, e'⟩
      · rw [h] at h4
        cases h4
        exact absurd h3 (f.o j ob e)
      · exact r.oi j k ob ob' b e e' h3 h4
theorem set_set' {α : Type} (l : List α) (i : Nat) (x y : α) : (l.set i x).set i y = l.set i y := List.set_set ..
theorem SR.capt (r : SR C Z loc s sv H) {i : Nat} {v : V} {x : Val} (h : sv[i]? = some (some v)) (e : capt i s = .ok x s') : ∃ Z', Ext Z loc Z' loc ∧ SR C Z' loc s' sv H ∧ RepV C.cA Z' loc x v := by
  unfold Vw.capt at e
  split at e
  · rename_i o ho
    split at e
    · rename_i d hd
      cases e
      obtain ⟨a, h1, h2, h3, h4⟩ := r.ow i o ho
      rw [h] at h1
      cases h1
      obtain ⟨Z', g, r', q⟩ := (r.drop i).settled (v := .ref a) ⟨a, rfl, h2, h3, r.own_free ho h⟩ hd
      refine ⟨Z', g, ?_, q⟩
      have := r'.setv h q
      simpa [set_set'] using this
    · cases e
  · rename_i x' hx
    cases e
    obtain ⟨v', h1, h2⟩ := r.vl i x hx
    rw [h] at h1
    cases h1
    exact ⟨Z, Ext.refl _ _, r, h2⟩
  · cases e
theorem SR.cap (r : SR C Z loc s sv H) {rv : RV} {v : V} {x : Val} (h : RVR C Z loc s sv H rv v) (e : cap rv s = .ok x s') : ∃ Z', Ext Z loc Z' loc ∧ SR C Z' loc s' sv H ∧ RepV C.cA Z' loc x v := by
  cases rv with
  | val y => cases e; exact ⟨Z, Ext.refl _ _, r, h⟩
  | new o =>
    cases hd : o.toD with
    | none => simp [Vw.cap, hd] at e
    | some d =>
      simp [Vw.cap, hd] at e
      obtain ⟨rfl, rfl⟩ := e
      exact r.settled h hd
  | own i => exact r.capt h e
theorem cap_no {rv : RV} {x : Exn} : cap rv s ≠ .exc x s' := by
  unfold cap capt
  repeat' split
  all_goals simp
theorem settle_no {rv : RV} {x : Exn} : settle rv s ≠ .exc x s' := by
  unfold settle
  repeat' split
  all_goals simp
/-- settled: no new object -/
def Stl : RV → Prop
  | .new _ => False
  | _ => True
theorem RVR.mono (h : Ext Z loc Z' loc') : ∀ {rv : RV} {v : V}, Stl rv → RVR C Z loc s sv H rv v → RVR C Z' loc' s' sv H' rv v
  | .val x, v, _, q => RepV.mono h x q
  | .own i, v, _, q => q
  | .new o, v, z, _ => z.elim
theorem SR.settle (r : SR C Z loc s sv H) {rv rv' : RV} {v : V} (h : RVR C Z loc s sv H rv v) (e : settle rv s = .ok rv' s') : s' = s ∧ Stl rv' ∧ ∃ Z', Ext Z loc Z' loc ∧ SR C Z' loc s sv H ∧ RVR C Z' loc s sv H rv' v := by
  cases rv with
  | val y => cases e; exact ⟨rfl, trivial, Z, Ext.refl _ _, r, h⟩
  | own i => cases e; exact ⟨rfl, trivial, Z, Ext.refl _ _, r, h⟩
  | new o =>
    cases hd : o.toD with
    | none => simp [Vw.settle, hd] at e
    | some d =>
      simp [Vw.settle, hd] at e
      obtain ⟨rfl, rfl⟩ := e
      obtain ⟨Z', g, r', q⟩ := r.settled h hd
      exact ⟨rfl, trivial, Z', g, r', q⟩
end

def XRep (C : Cst) (Z : Hp) (H : Hp) (x : Exn) (c : Value) (d : Option Addr) : Prop :=
  c = .ref (C.cA x.c) ∧ match x.p with
    | none => d = none
    | some p => ∃ dd v, d = some dd ∧ Z dd = some (.xd [(Str.ofString "place", v)]) ∧ RepD C.cA Z p v
inductive Fl where
  | nx
  | ret (r : RV)
  | brk
  | cnt
def EPost (C : Cst) (Z : Hp) (loc : List Addr) (sv : L2.St) (r : Res RV) (Q : VK) : Prop :=
  match r with
  | .ok rv s' => ∀ Z' loc' H' v, Ext Z loc Z' loc' → SR C Z' loc' s' sv H' → RVR C Z' loc' s' sv H' rv v → Q v H'
  | .exc x s' => ∀ Z' loc' H' c d, Ext Z loc Z' loc' → SR C Z' loc' s' sv H' → XRep C Z' H' x c d → C.W c d sv H'
  | .stuck => False
def RVRs (C : Cst) (Z : Hp) (loc : List Addr) (s : State) (sv : L2.St) (H : Hp) : List RV → List V → Prop
  | [], vs => vs = []
  | x :: l, vs => ∃ v r, vs = v :: r ∧ Stl x ∧ RVR C Z loc s sv H x v ∧ RVRs C Z loc s sv H l r
def APost (C : Cst) (Z : Hp) (loc : List Addr) (sv : L2.St) (r : Res (List RV)) (Q : List V → Hp → Prop) : Prop :=
  match r with
  | .ok rv s' => ∀ Z' loc' H' v, Ext Z loc Z' loc' → SR C Z' loc' s' sv H' → RVRs C Z' loc' s' sv H' rv v → Q v H'
  | .exc x s' => ∀ Z' loc' H' c d, Ext Z loc Z' loc' → SR C Z' loc' s' sv H' → XRep C Z' H' x c d → C.W c d sv H'
  | .stuck => False
def BPost (C : Cst) (Z : Hp) (loc : List Addr) (sv : L2.St) (r : Res Bool) (Q : Bool → Hp → Prop) : Prop :=
  match r with
  | .ok b s' => ∀ Z' loc' H', Ext Z loc Z' loc' → SR C Z' loc' s' sv H' → Q b H'
  | .exc x s' => ∀ Z' loc' H' c d, Ext Z loc Z' loc' → SR C Z' loc' s' sv H' → XRep C Z' H' x c d → C.W c d sv H'
  | .stuck => False
def SPost (C : Cst) (Z : Hp) (loc : List Addr) (r : Res Fl) (D : Ends) : Prop :=
  match r with
  | .ok .nx s' => ∀ Z' loc' sv' H', Ext Z loc Z' loc' → SR C Z' loc' s' sv' H' → D.nx sv' H'
  | .ok .brk s' => ∀ Z' loc' sv' H', Ext Z loc Z' loc' → SR C Z' loc' s' sv' H' → D.bk sv' H'
  | .ok .cnt s' => ∀ Z' loc' sv' H', Ext Z loc Z' loc' → SR C Z' loc' s' sv' H' → D.ct sv' H'
  | .ok (.ret rv) s' => ∀ Z' loc' sv' H' v, Ext Z loc Z' loc' → SR C Z' loc' s' sv' H' → RVR C Z' loc' s' sv' H' rv v → D.rt v H'
  | .exc x s' => ∀ Z' loc' sv' H' c d, Ext Z loc Z' loc' → SR C Z' loc' s' sv' H' → XRep C Z' H' x c d → C.W c d sv' H'
  | .stuck => False
def TEx (C : Cst) (f : State → Res RV) : TE := fun sv H Q => ∃ Z loc s, SR C Z loc s sv H ∧ EPost C Z loc sv (f s) Q
def TAr (C : Cst) (f : State → Res (List RV)) : TA := fun sv H Q => ∃ Z loc s, SR C Z loc s sv H ∧ APost C Z loc sv (f s) Q
def TBx (C : Cst) (f : State → Res Bool) : TT := fun sv H Q => ∃ Z loc s, SR C Z loc s sv H ∧ BPost C Z loc sv (f s) Q
def TSt (C : Cst) (f : State → Res Fl) : TS := fun D sv H => ∃ Z loc s, SR C Z loc s sv H ∧ SPost C Z loc (f s) D
section
variable {C : Cst} {Z Z' : Hp} {loc loc' : List Addr} {s : State} {sv : L2.St} {H : Hp}
theorem EPost.ext {r : Res RV} {Q : VK} (h : EPost C Z loc sv r Q) (g : Ext Z loc Z' loc') : EPost C Z' loc' sv r Q := by
  cases r with
  | ok rv s' => exact fun Z2 l2 H2 v g2 => h Z2 l2 H2 v (g.trans g2)
  | exc x s' => exact fun Z2 l2 H2 c d g2 => h Z2 l2 H2 c d (g.trans g2)
  | stuck => exact h
theorem EPost.imp {r : Res RV} {Q Q' : VK} (h : EPost C Z loc sv r Q) (q : ∀ v H, Q v H → Q' v H) : EPost C Z loc sv r Q' := by
  cases r with
  | ok rv s' => exact fun Z2 l2 H2 v g2 a b => q _ _ (h Z2 l2 H2 v g2 a b)
  | exc x s' => exact h
  | stuck => exact h
theorem APost.ext {r : Res (List RV)} {Q : List V → Hp → Prop} (h : APost C Z loc sv r Q) (g : Ext Z loc Z' loc') : APost C Z' loc' sv r Q := by
  cases r with
  | ok rv s' => exact fun Z2 l2 H2 v g2 => h Z2 l2 H2 v (g.trans g2)
  | exc x s' => exact fun Z2 l2 H2 c d g2 => h Z2 l2 H2 c d (g.trans g2)
  | stuck => exact h
theorem BPost.ext {r : Res Bool} {Q : Bool → Hp → Prop} (h : BPost C Z loc sv r Q) (g : Ext Z loc Z' loc') : BPost C Z' loc' sv r Q := by
  cases r with
  | ok rv s' => exact fun Z2 l2 H2 g2 => h Z2 l2 H2 (g.trans g2)
  | exc x s' => exact fun Z2 l2 H2 c d g2 => h Z2 l2 H2 c d (g.trans g2)
  | stuck => exact h
theorem SPost.ext {r : Res Fl} {D : Ends} (h : SPost C Z loc r D) (g : Ext Z loc Z' loc') : SPost C Z' loc' r D := by
  cases r with
  | ok f s' =>
    cases f with
    | nx => exact fun Z2 l2 v2 H2 g2 => h Z2 l2 v2 H2 (g.trans g2)
    | brk => exact fun Z2 l2 v2 H2 g2 => h Z2 l2 v2 H2 (g.trans g2)
    | cnt => exact fun Z2 l2 v2 H2 g2 => h Z2 l2 v2 H2 (g.trans g2)
    | ret rv => exact fun Z2 l2 v2 H2 v g2 => h Z2 l2 v2 H2 v (g.trans g2)
  | exc x s' => exact fun Z2 l2 v2 H2 c d g2 => h Z2 l2 v2 H2 c d (g.trans g2)
  | stuck => exact h
/-- first f, then what follows -/
theorem TEx.bindE {f : State → Res RV} {k : RV → State → Res RV} {Q : VK} (r : SR C Z loc s sv H) (h : EPost C Z loc sv ((f s).bind k) Q) :
    TEx C f sv H (fun v H' => ∃ Z' loc' s' rv, Ext Z loc Z' loc' ∧ SR C Z' loc' s' sv H' ∧ RVR C Z' loc' s' sv H' rv v ∧ EPost C Z' loc' sv (k rv s') Q) := by
  refine ⟨Z, loc, s, r, ?_⟩
  cases e : f s with
  | ok rv s' => rw [e] at h; exact fun Z' loc' H' v g r' q => ⟨Z', loc', s', rv, g, r', q, EPost.ext h g⟩
  | exc x s' => rw [e] at h; exact h
  | stuck => rw [e] at h; exact h
theorem TEx.bindA {f : State → Res RV} {k : RV → State → Res (List RV)} {Q : List V → Hp → Prop} (r : SR C Z loc s sv H) (h : APost C Z loc sv ((f s).bind k) Q) :
    TEx C f sv H (fun v H' => ∃ Z' loc' s' rv, Ext Z loc Z' loc' ∧ SR C Z' loc' s' sv H' ∧ RVR C Z' loc' s' sv H' rv v ∧ APost C Z' loc' sv (k rv s') Q) := by
  refine ⟨Z, loc, s, r, ?_⟩
  cases e : f s with
  | ok rv s' => rw [e] at h; exact fun Z' loc' H' v g r' q => ⟨Z', loc', s', rv, g, r', q, APost.ext h g⟩
  | exc x s' => rw [e] at h; exact h
  | stuck => rw [e] at h; exact h
theorem TEx.bindB {f : State → Res RV} {k : RV → State → Res Bool} {Q : Bool → Hp → Prop} (r : SR C Z loc s sv H) (h : BPost C Z loc sv ((f s).bind k) Q) :
    TEx C f sv H (fun v H' => ∃ Z' loc' s' rv, Ext Z loc Z' loc' ∧ SR C Z' loc' s' sv H' ∧ RVR C Z' loc' s' sv H' rv v ∧ BPost C Z' loc' sv (k rv s') Q) := by
  refine ⟨Z, loc, s, r, ?_⟩
  cases e : f s with
  | ok rv s' => rw [e] at h; exact fun Z' loc' H' v g r' q => ⟨Z', loc', s', rv, g, r', q, BPost.ext h g⟩
  | exc x s' => rw [e] at h; exact h
  | stuck => rw [e] at h; exact h
theorem TEx.bindS {f : State → Res RV} {k : RV → State → Res Fl} {D : Ends} (r : SR C Z loc s sv H) (h : SPost C Z loc ((f s).bind k) D) :
    TEx C f sv H (fun v H' => ∃ Z' loc' s' rv, Ext Z loc Z' loc' ∧ SR C Z' loc' s' sv H' ∧ RVR C Z' loc' s' sv H' rv v ∧ SPost C Z' loc' (k rv s') D) := by
  refine ⟨Z, loc, s, r, ?_⟩
  cases e : f s with
  | ok rv s' => rw [e] at h; exact fun Z' loc' H' v g r' q => ⟨Z', loc', s', rv, g, r', q, SPost.ext h g⟩
  | exc x s' => rw [e] at h; exact fun Z' loc' H' c d => h Z' loc' sv H' c d
  | stuck => rw [e] at h; exact h
theorem TAr.bindE {f : State → Res (List RV)} {k : List RV → State → Res RV} {Q : VK} (r : SR C Z loc s sv H) (h : EPost C Z loc sv ((f s).bind k) Q) :
    TAr C f sv H (fun v H' => ∃ Z' loc' s' rv, Ext Z loc Z' loc' ∧ SR C Z' loc' s' sv H' ∧ RVRs C Z' loc' s' sv H' rv v ∧ EPost C Z' loc' sv (k rv s') Q) := by
  refine ⟨Z, loc, s, r, ?_⟩
  cases e : f s with
  | ok rv s' => rw [e] at h; exact fun Z' loc' H' v g r' q => ⟨Z', loc', s', rv, g, r', q, EPost.ext h g⟩
  | exc x s' => rw [e] at h; exact h
  | stuck => rw [e] at h; exact h
theorem TBx.bindE {f : State → Res Bool} {k : Bool → State → Res RV} {Q : VK} (r : SR C Z loc s sv H) (h : EPost C Z loc sv ((f s).bind k) Q) :
    TBx C f sv H (fun b H' => ∃ Z' loc' s', Ext Z loc Z' loc' ∧ SR C Z' loc' s' sv H' ∧ EPost C Z' loc' sv (k b s') Q) := by
  refine ⟨Z, loc, s, r, ?_⟩
  cases e : f s with
  | ok rv s' => rw [e] at h; exact fun Z' loc' H' g r' => ⟨Z', loc', s', g, r', EPost.ext h g⟩
  | exc x s' => rw [e] at h; exact h
  | stuck => rw [e] at h; exact h
theorem TBx.bindS {f : State → Res Bool} {k : Bool → State → Res Fl} {D : Ends} (r : SR C Z loc s sv H) (h : SPost C Z loc ((f s).bind k) D) :
    TBx C f sv H (fun b H' => ∃ Z' loc' s', Ext Z loc Z' loc' ∧ SR C Z' loc' s' sv H' ∧ SPost C Z' loc' (k b s') D) := by
  refine ⟨Z, loc, s, r, ?_⟩
  cases e : f s with
  | ok rv s' => rw [e] at h; exact fun Z' loc' H' g r' => ⟨Z', loc', s', g, r', SPost.ext h g⟩
  | exc x s' => rw [e] at h; exact fun Z' loc' H' c d => h Z' loc' sv H' c d
  | stuck => rw [e] at h; exact h
theorem TEx.imp {f : State → Res RV} {Q Q' : VK} (h : TEx C f sv H Q) (q : ∀ v H, Q v H → Q' v H) : TEx C f sv H Q' := by
  obtain ⟨Z, loc, s, r, h⟩ := h
  exact ⟨Z, loc, s, r, h.imp q⟩
theorem TAr.imp {f : State → Res (List RV)} {Q Q' : List V → Hp → Prop} (h : TAr C f sv H Q) (q : ∀ v H, Q v H → Q' v H) : TAr C f sv H Q' := by
  obtain ⟨Z, loc, s, r, h⟩ := h
  refine ⟨Z, loc, s, r, ?_⟩
  cases e : f s with
  | ok rv s' => rw [e] at h; exact fun Z2 l2 H2 v g2 a b => q _ _ (h Z2 l2 H2 v g2 a b)
  | exc x s' => rw [e] at h; exact h
  | stuck => rw [e] at h; exact h
theorem TBx.imp {f : State → Res Bool} {Q Q' : Bool → Hp → Prop} (h : TBx C f sv H Q) (q : ∀ v H, Q v H → Q' v H) : TBx C f sv H Q' := by
  obtain ⟨Z, loc, s, r, h⟩ := h
  refine ⟨Z, loc, s, r, ?_⟩
  cases e : f s with
  | ok rv s' => rw [e] at h; exact fun Z2 l2 H2 g2 a => q _ _ (h Z2 l2 H2 g2 a)
  | exc x s' => rw [e] at h; exact h
  | stuck => rw [e] at h; exact h
end
theorem PE_mono {X : Cx} {e : Expr} {t t' : TE} (h : PE X e t) (m : ∀ sv H Q, t' sv H Q → t sv H Q) : PE X e t' := ⟨fun pins s sv H Q I q => h.run pins s sv H Q I (m sv H Q q)⟩
theorem PA_mono {X : Cx} {e : List Expr} {t t' : TA} (h : PA X e t) (m : ∀ sv H Q, t' sv H Q → t sv H Q) : PA X e t' := ⟨fun pos pins s sv H Q I q => h.run pos pins s sv H Q I (m sv H Q q)⟩
theorem PT_mono {X : Cx} {e : Expr} {t t' : TT} (h : PT X e t) (m : ∀ sv H Q, t' sv H Q → t sv H Q) : PT X e t' := ⟨fun pins s sv H Q I q => h.run pins s sv H Q I (m sv H Q q)⟩
theorem PS_mono {X : Cx} {e : Stmt} {t t' : TS} (h : PS X e t) (m : ∀ D sv H, t' D sv H → t D sv H) : PS X e t' := ⟨fun pins s sv H D I q => h.run pins s sv H D I (m D sv H q)⟩
theorem PSs_mono {X : Cx} {e : List Stmt} {t t' : TS} (h : PSs X e t) (m : ∀ D sv H, t' D sv H → t D sv H) : PSs X e t' := ⟨fun pins s sv H D I q => h.run pins s sv H D I (m D sv H q)⟩
end Vw
namespace Vw
open PySem L2 PyProof.Rows

section
variable {X : Cx}
theorem h_cat : OpR X (binaryOp .Add) (fun x y H Q => ∃ l b xs zs, x = .ref l ∧ y = .ref b ∧ Rd H l (.lst xs) ∧ Rd H b (.lst zs) ∧ xs.length + zs.length ≤ sizeLine ∧ ∀ p, H p = none → Q (.ref p) (upd H p (.lst (xs ++ zs)))) := by
  intro pins s σ H x y v u Q I rx ry h
  obtain ⟨l, b, xs, zs, rfl, rfl, hH, hB, hz, q⟩ := h
  cases rx
  cases ry
  obtain ⟨z, its, n, r, e⟩ := hH.ok I.hok
  obtain ⟨z2, its2, n2, r2, e2⟩ := hB.ok I.hok
  have hl := r.length
  have hl2 := r2.length
  refine PySem.P.add_list e e2 ?_ (by rw [List.size_toArray, List.size_toArray]; omega)
  have ea : its.toArray ++ its2.toArray = (its ++ its2).toArray := by simp
  rw [ea]
  exact ⟨.ref _, _, I.lnew (t' := s.toks) (r.append r2) (by rw [List.length_append]; omega), rfl, q _ I.fresh⟩
def rPl (K : PySem.W.Frag) (n : Bool) : R2 := fun x y H Q => ∃ d e, Dp K H x d ∧ Dp K H y e ∧ d.plain = true ∧ e.plain = true ∧ min d.depth e.depth ≤ 60 ∧ Q (.bl (xor n (PyData.eqv d e))) H
theorem h_eq (hu : X.A.units + 64 < cLine) : OpR X (compareOp .Eq) (rPl X.K false) := by
  intro pins s σ H x y v u Q I rx ry h
  obtain ⟨d, e, hd, he, sd, se, dp, q⟩ := h
  obtain ⟨as, r1⟩ := Dp.reads I d x v hd rx
  obtain ⟨bs, r2⟩ := Dp.reads I e y u he ry
  exact SeqAt.eq_plain r1 r2 sd se (by omega) ⟨.bl _, H, I, by simp [L2.RelV], q⟩
theorem h_ne (hu : X.A.units + 64 < cLine) : OpR X (compareOp .NotEq) (rPl X.K true) := by
  intro pins s σ H x y v u Q I rx ry h
  obtain ⟨d, e, hd, he, sd, se, dp, q⟩ := h
  obtain ⟨as, r1⟩ := Dp.reads I d x v hd rx
  obtain ⟨bs, r2⟩ := Dp.reads I e y u he ry
  exact SeqAt.ne_plain r1 r2 sd se (by omega) ⟨.bl _, H, I, by simp [L2.RelV], q⟩
def rIn (K : PySem.W.Frag) (n : Bool) : R2 := fun x y H Q => ∃ d l, Dp K H x d ∧ (Dp K H y (.list l) ∨ Dp K H y (.tuple l)) ∧ d.plain = true ∧ PyData.plainAll l = true ∧ min (PyData.depthAll l) d.depth ≤ 60 ∧ Q (.bl (xor n (l.any fun y => PyData.eqv y d))) H
theorem h_in (hu : X.A.units + 64 < cLine) : OpR X (compareOp .In) (rIn X.K false) := by
  intro pins s σ H x y v u Q I rx ry h
  obtain ⟨d, l, hd, he, sd, se, dp, q⟩ := h
  obtain ⟨as, r1⟩ := Dp.reads I d x v hd rx
  rcases he with he | he
  · obtain ⟨bs, r2⟩ := Dp.reads I _ y u he ry
    exact SeqAt.in_list_data r2 r1 se sd (by omega) ⟨.bl _, H, I, by simp [L2.RelV], q⟩
  · obtain ⟨bs, r2⟩ := Dp.reads I _ y u he ry
    exact SeqAt.in_tuple_data r2 r1 se sd (by omega) ⟨.bl _, H, I, by simp [L2.RelV], q⟩
theorem h_nin (hu : X.A.units + 64 < cLine) : OpR X (compareOp .NotIn) (rIn X.K true) := by
  intro pins s σ H x y v u Q I rx ry h
  obtain ⟨d, l, hd, he, sd, se, dp, q⟩ := h
  obtain ⟨as, r1⟩ := Dp.reads I d x v hd rx
  rcases he with he | he
  · obtain ⟨bs, r2⟩ := Dp.reads I _ y u he ry
    exact SeqAt.notIn_list_data r2 r1 se sd (by omega) ⟨.bl _, H, I, by simp [L2.RelV], q⟩
  · obtain ⟨bs, r2⟩ := Dp.reads I _ y u he ry
    exact SeqAt.notIn_tuple_data r2 r1 se sd (by omega) ⟨.bl _, H, I, by simp [L2.RelV], q⟩
def rDin (n : Bool) : R2 := fun y x H Q => ∃ a o, x = .ref a ∧ DGet H a y o ∧ Q (.bl (xor n o.isSome)) H
theorem h_din (hu : X.A.units + 64 < cLine) : OpR X (compareOp .In) (rDin false) := by
  intro pins s σ H x y v u Q I rx ry h
  obtain ⟨a, o, rfl, g, q⟩ := h
  cases ry
  exact d_in (by omega) I g rx fun s' I' => ⟨.bl _, H, I', by simp [L2.RelV], q⟩
theorem h_dnin (hu : X.A.units + 64 < cLine) : OpR X (compareOp .NotIn) (rDin true) := by
  intro pins s σ H x y v u Q I rx ry h
  obtain ⟨a, o, rfl, g, q⟩ := h
  cases ry
  exact d_notIn (by omega) I g rx fun s' I' => ⟨.bl _, H, I', by simp [L2.RelV], q⟩
def rIxD : R2 := fun x y H Q => ∃ a v, x = .ref a ∧ DGet H a y (some v) ∧ Q v H
theorem h_ixd (hu : X.A.units + 64 < cLine) : IxR X rIxD := by
  intro value slice pins s σ H x y v u Q I rx ry h hs
  obtain ⟨a, z, rfl, g, q⟩ := h
  cases rx
  have hT := dict_typeIs I g
  unfold subscriptTail
  refine wpAny_bind ?_
  rw [getitemInPython_of_ne hT.not_modules]
  refine wpAny_bind (wpAny_specialOf hT PySem.F.slot_dict_getitem.lookup ?_)
  have fin : wpAny (model X.prog X.w) X.A (subscripted slice false (.ref a) u) (fun r s₃ => wpAny (model X.prog X.w) X.A (letTemporaryGo value (.ref a) r >>= fun _ => pure r) (EP X pins σ Q) X.xe s₃) X.xe s := by
    rw [hs]
    exact wpAny_operating (d_getItem (by omega) I g ry fun w' s3 I3 rw' => wpAny_bind (wpAny_letTemporaryGo (wpAny_pure ⟨z, H, I3, rw', q⟩)))
  first
    | exact wpAny_pure (wpAny_bind fin)
    | exact wpAny_bind (wpAny_pure (wpAny_bind fin))
    | exact wpAny_bind fin
end

def st (l : List Nat) : Str := ⟨l.toArray⟩
mutual
def pd : D → PyData
  | .non => .none
  | .bl b => .bool b
  | .int i => .int i
  | .str s => .str (st s)
  | .tup l => .tuple (pds l)
  | .lst l => .list (pds l)
  | _ => .dict []
def pds : List D → List PyData
  | [] => []
  | x :: r => pd x :: pds r
end
mutual
theorem pd_dp {C : Cst} {K : PySem.W.Frag} {Z : Hp} {loc : List Addr} {s : State} {sv : L2.St} {H : Hp} (r : SR C Z loc s sv H) : ∀ (d : D) {v : V}, RepD C.cA Z d v → (pd d).plain = true → Dp K H v (pd d)
  | .non, v, q, _ => by rw [show v = _ from q]; exact .non
  | .bl _, v, q, _ => by rw [show v = _ from q]; exact .bl _
  | .int _, v, q, _ => by rw [show v = _ from q]; exact .int _
  | .str _, v, q, _ => by rw [show v = _ from q]; exact .str _
  | .tup l, v, ⟨a, vs, e, z, q⟩, p => by
    rw [e]
    exact .tup (.inl (r.zh a _ z).rd) (pds_dp r l q p)
  | .lst l, v, ⟨a, vs, e, z, q⟩, p => by
    rw [e]
    refine .lst (.inl ?_) (pds_dp r l q p)
    rcases z with z | ⟨o, z⟩
    · exact (r.zh a _ z).rd
    · exact .inr ⟨o, (r.zh a _ z).at rfl⟩
  | .dic _, v, _, p => by cases p
  | .dit _, v, _, p => by cases p
  | .ins _ _, v, _, p => by cases p
  | .exc _ _, v, _, p => by cases p
theorem pds_dp {C : Cst} {K : PySem.W.Frag} {Z : Hp} {loc : List Addr} {s : State} {sv : L2.St} {H : Hp} (r : SR C Z loc s sv H) : ∀ (l : List D) {vs : List V}, RepDs C.cA Z l vs → PyData.plainAll (pds l) = true → DpAll K H vs (pds l)
  | [], vs, q, _ => by rw [show vs = _ from q]; exact .nil
  | d :: l, vs, ⟨v, t, e, q1, q2⟩, p => by
    rw [e]
    have p' : (pd d).plain = true ∧ PyData.plainAll (pds l) = true := by simpa [pds, PyData.plainAll] using p
    exact .cons (pd_dp r d q1 p'.1) (pds_dp r l q2 p'.2)
end
def deq (x y : D) : Bool := PyData.eqv (pd x) (pd y)
def comparable (x y : D) : Bool := (pd x).plain && (pd y).plain && decide (min (pd x).depth (pd y).depth ≤ 60)

def nrm (s : State) : RV → RV
  | .own i => match s.sg[i]? with
    | some (some (.v x)) => .val x
    | _ => .own i
  | r => r
/-- a datum -/
def dv (s : State) (r : RV) : Option D :=
  match nrm s r with
  | .val (.d x) => some x
  | _ => none
/-- an object -/
def ob (s : State) (r : RV) : Option Ob :=
  match nrm s r with
  | .own i => match s.sg[i]? with
    | some (some (.own o)) => some o
    | _ => none
  | .val (.r n) => match s.st[n]? with
    | some .gone => none
    | some o => some o
    | none => none
  | _ => none
/-- a list's items -/
def lv (s : State) (r : RV) : Option (List Val) :=
  match dv s r with
  | some (.lst l) => some (l.map .d)
  | some _ => none
  | none => match ob s r with
    | some (.lst l) => some l
    | _ => none
/-- a tuple's items -/
def tv (s : State) (r : RV) : Option (List Val) :=
  match nrm s r with
  | .val (.d (.tup l)) => some (l.map .d)
  | .val (.tp l) => some l
  | _ => none
/-- the datum that it is now -/
def pv' (s : State) (r : RV) : Option D :=
  match dv s r with
  | some d => some d
  | none => match ob s r with
    | some (.lst l) => (toDs l).map .lst
    | _ => none

section
variable {C : Cst} {Z : Hp} {loc : List Addr} {s : State} {sv : L2.St} {H : Hp}
theorem SR.nrm (r : SR C Z loc s sv H) {rv : RV} {v : V} (h : RVR C Z loc s sv H rv v) : RVR C Z loc s sv H (nrm s rv) v := by
  cases rv with
  | val x => exact h
  | new o => exact h
  | own i =>
    unfold Vw.nrm
    dsimp only
    split
    · rename_i x e
      obtain ⟨v', h1, h2⟩ := r.vl i x e
      rw [show sv[i]? = some (some v) from h] at h1
      cases h1
      exact h2
    · exact h
theorem SR.dv (r : SR C Z loc s sv H) {rv : RV} {v : V} {x : D} (h : RVR C Z loc s sv H rv v) (e : dv s rv = some x) : RepD C.cA Z x v := by
  have q := r.nrm h
  unfold Vw.dv at e
  split at e
  · rename_i y e1
    cases e
    rw [e1] at q
    exact q
  · cases e
/-- the object's cell, and that it may be written -/
theorem SR.ob (r : SR C Z loc s sv H) {rv : RV} {v : V} {o : Ob} (h : RVR C Z loc s sv H rv v) (e : ob s rv = some o) : ∃ a, v = .ref a ∧ o ≠ .gone ∧ Cell C.cA Z loc H a o := by
  have q := r.nrm h
  unfold Vw.ob at e
  split at e
  · rename_i i e1
    rw [e1] at q
    split at e
    · rename_i o' e2
      cases e
      obtain ⟨a, h1, h2, h3, _⟩ := r.ow i _ e2
      rw [show sv[i]? = some (some v) from q] at h1
      cases h1
      exact ⟨a, rfl, h2, h3⟩
    · cases e
  · rename_i n e1
    rw [e1] at q
    obtain ⟨a, h1, h2⟩ := q
    split at e
    · cases e
    · rename_i o' ne e2
      cases e
      exact ⟨a, h2, ne, (r.cl n a _ h1 e2 ne).1⟩
    · cases e
  · cases e
theorem SR.lv (r : SR C Z loc s sv H) {rv : RV} {v : V} {l : List Val} (h : RVR C Z loc s sv H rv v) (e : lv s rv = some l) : ∃ a xs, v = .ref a ∧ Rd H a (.lst xs) ∧ RepVs C.cA Z loc l xs := by
  unfold Vw.lv at e
  split at e
  · rename_i l' e1
    cases e
    obtain ⟨a, vs, h1, h2, h3⟩ := r.dv h e1
    refine ⟨a, vs, h1, ?_, rep_map.mpr h3⟩
    rcases h2 with z | ⟨o, z⟩
    · exact (r.zh a _ z).rd
    · exact .inr ⟨o, (r.zh a _ z).at rfl⟩
  · cases e
  · split at e
    · rename_i l' e1
      cases e
      obtain ⟨a, h1, _, xs, h2, h3⟩ := r.ob h e1
      exact ⟨a, xs, h1, .inl h2, h3⟩
    · cases e
theorem SR.tv (r : SR C Z loc s sv H) {rv : RV} {v : V} {l : List Val} (h : RVR C Z loc s sv H rv v) (e : tv s rv = some l) : ∃ a xs, v = .ref a ∧ H a = some (.tup xs) ∧ RepVs C.cA Z loc l xs := by
  have q := r.nrm h
  unfold Vw.tv at e
  split at e
  · rename_i l' e1
    cases e
    rw [e1] at q
    obtain ⟨a, vs, h1, h2, h3⟩ := q
    exact ⟨a, vs, h1, (r.zh a _ h2).at rfl, rep_map.mpr h3⟩
  · rename_i l' e1
    cases e
    rw [e1] at q
    obtain ⟨a, vs, h1, h2, h3⟩ := q
    exact ⟨a, vs, h1, (r.zh a _ h2).at rfl, h3⟩
  · cases e
theorem SR.pv' (r : SR C Z loc s sv H) {K : PySem.W.Frag} {rv : RV} {v : V} {d : D} (h : RVR C Z loc s sv H rv v) (e : pv' s rv = some d) (p : (pd d).plain = true) : Dp K H v (pd d) := by
  unfold Vw.pv' at e
  split at e
  · rename_i d' e1
    cases e
    exact pd_dp r _ (r.dv h e1) p
  · split at e
    · rename_i l e1
      obtain ⟨ds, e2, rfl⟩ := Option.map_eq_some_iff.mp e
      obtain ⟨a, h1, _, xs, h2, h3⟩ := r.ob h e1
      rw [h1]
      rw [toDs_inv e2] at h3
      exact .lst (.inl (.inl h2)) (pds_dp r ds (rep_map.mp h3) p)
    · cases e
end
end Vw
namespace Vw
open PySem L2 PyProof.Rows

def okv (x : D) (s : State) : Res RV := .ok (.val (.d x)) s
inductive Bop where
  | add | sub | mul | fdiv | mod | pow
  deriving DecidableEq
def Bop.py : Bop → Operator
  | .add => .Add
  | .sub => .Sub
  | .mul => .Mult
  | .fdiv => .FloorDiv
  | .mod => .Mod
  | .pow => .Pow
def bAdd (x y : RV) (s : State) : Res RV :=
  match dv s x, dv s y with
  | some (.int i), some (.int j) => okv (.int (i + j)) s
  | some (.str a), some (.str b) => if a.length + b.length ≤ sizeLine then okv (.str (a ++ b)) s else .stuck
  | _, _ => match lv s x, lv s y with
    | some l, some m => if l.length + m.length ≤ sizeLine then .ok (.new (.lst (l ++ m))) s else .stuck
    | _, _ => .stuck
def bMul (x y : RV) (s : State) : Res RV :=
  match dv s x, dv s y with
  | some (.int i), some (.int j) => if i.natAbs.log2 + j.natAbs.log2 < 1000000 then okv (.int (i * j)) s else .stuck
  | some (.str a), some (.int j) => if 0 ≤ j ∧ j < 1000000 ∧ a.length * j.toNat ≤ 1000000 then okv (.str (List.replicate j.toNat a).flatten) s else .stuck
  | _, _ => .stuck
def binop : Bop → RV → RV → State → Res RV
  | .add, x, y, s => bAdd x y s
  | .mul, x, y, s => bMul x y s
  | .sub, x, y, s => match dv s x, dv s y with
    | some (.int i), some (.int j) => okv (.int (i - j)) s
    | _, _ => .stuck
  | .fdiv, x, y, s => match dv s x, dv s y with
    | some (.int i), some (.int j) => if 0 < j ∧ j.natAbs.log2 < 9000 then okv (.int (i / j)) s else .stuck
    | _, _ => .stuck
  | .mod, x, y, s => match dv s x, dv s y with
    | some (.int i), some (.int j) => if 0 < j then okv (.int (i % j)) s else .stuck
    | _, _ => .stuck
  | .pow, x, y, s => match dv s x, dv s y with
    | some (.int i), some (.int j) => if 0 ≤ j ∧ j ≤ 1000000 ∧ i.natAbs < 2 ^ 64 then okv (.int (i ^ j.toNat)) s else .stuck
    | _, _ => .stuck
inductive Cop where
  | eq | ne | lt | le | gt | ge | is | isn | isin | notin
  deriving DecidableEq
def Cop.py : Cop → CmpOp
  | .eq => .Eq
  | .ne => .NotEq
  | .lt => .Lt
  | .le => .LtE
  | .gt => .Gt
  | .ge => .GtE
  | .is => .Is
  | .isn => .IsNot
  | .isin => .In
  | .notin => .NotIn
def subIn (a b : List Nat) : Bool := !(Builtin.Str.occurrences (st b) (st a) 0 b.length 1).isEmpty
def lexS (a b : List Nat) : Bool := decide (a < b)
def ordD (s : State) (x y : RV) (f : Int → Int → Bool) (g : List Nat → List Nat → Bool) : Option Bool :=
  match dv s x, dv s y with
  | some (.int i), some (.int j) => some (f i j)
  | some (.str a), some (.str b) => some (g a b)
  | _, _ => none
/-- a plain key, a key of several -/
def key0 : D → Option K0
  | .int i => some (.i i)
  | .str t => some (.s t)
  | _ => none
def keyT : List D → Option (List K0)
  | [] => some []
  | d :: r => match key0 d, keyT r with
    | some k, some t => some (k :: t)
    | _, _ => none
def kget {κ α : Type} [DecidableEq κ] (l : List (κ × α)) (k : κ) : Option α := (l.find? fun p => decide (p.1 = k)).map (·.2)
def kput {κ α : Type} [DecidableEq κ] (l : List (κ × α)) (k : κ) (v : α) : List (κ × α) :=
  if l.any fun p => decide (p.1 = k) then l.map (fun p => if p.1 = k then (p.1, v) else p) else l ++ [(k, v)]
def kdrop {κ α : Type} [DecidableEq κ] (l : List (κ × α)) (k : κ) : List (κ × α) := l.filter fun p => decide (p.1 ≠ k)
/-- a dict's entries: by plain keys, by tuples -/
def dcv (s : State) (r : RV) : Option (List (K0 × Val)) :=
  match dv s r with
  | some (.dic l) => some (l.map fun p => (p.1, .d p.2))
  | some _ => none
  | none => match ob s r with
    | some (.dic _ l) => some l
    | _ => none
def dtv (s : State) (r : RV) : Option (List (List K0 × Val)) :=
  match dv s r with
  | some (.dit l) => some (l.map fun p => (p.1, .d p.2))
  | some _ => none
  | none => match ob s r with
    | some (.dit _ l) => some l
    | _ => none
/-- what a dict has at a key: none where it is no dict or the key no key -/
def dget (s : State) (x k : RV) : Option (Option Val) :=
  match dcv s x, dv s k with
  | some l, some d => (key0 d).map (kget l)
  | _, _ => match dtv s x, dv s k with
    | some l, some (.tup ks) => (keyT ks).map (kget l)
    | _, _ => none
def inD (s : State) (x y : RV) : Option Bool :=
  match dget s y x with
  | some o => some o.isSome
  | none => match dv s x, dv s y with
    | some (.str a), some (.str b) => some (subIn a b)
    | _, _ => match pv' s x, pv' s y with
      | some d, some (.lst l) => if (pd d).plain && PyData.plainAll (pds l) && decide (min (PyData.depthAll (pds l)) (pd d).depth ≤ 60) then some (l.any fun y => deq y d) else none
      | some d, some (.tup l) => if (pd d).plain && PyData.plainAll (pds l) && decide (min (PyData.depthAll (pds l)) (pd d).depth ≤ 60) then some (l.any fun y => deq y d) else none
      | _, _ => none
def isN (s : State) (x y : RV) : Option Bool :=
  match dv s y with
  | some .non => match dv s x with
    | some .non => some true
    | some _ => some false
    | none => match ob s x with
      | some _ => some false
      | none => (tv s x).map fun _ => false
  | _ => none
def eqD (s : State) (x y : RV) : Option Bool :=
  match pv' s x, pv' s y with
  | some a, some b => if comparable a b then some (deq a b) else none
  | _, _ => none
def cmpop : Cop → State → RV → RV → Option Bool
  | .eq, s, x, y => eqD s x y
  | .ne, s, x, y => (eqD s x y).map not
  | .lt, s, x, y => ordD s x y (fun i j => decide (i < j)) lexS
  | .le, s, x, y => ordD s x y (fun i j => decide (i ≤ j)) fun a b => !lexS b a
  | .gt, s, x, y => ordD s x y (fun i j => decide (j < i)) fun a b => lexS b a
  | .ge, s, x, y => ordD s x y (fun i j => decide (j ≤ i)) fun a b => !lexS a b
  | .is, s, x, y => isN s x y
  | .isn, s, x, y => (isN s x y).map not
  | .isin, s, x, y => inD s x y
  | .notin, s, x, y => (inD s x y).map not

def OpS (C : Cst) (f : RV → RV → State → Res RV) (r : R2) : Prop :=
  ∀ Z loc s sv H x y u v Q, SR C Z loc s sv H → RVR C Z loc s sv H x u → RVR C Z loc s sv H y v → EPost C Z loc sv (f x y s) Q → r u v H Q
def CmS (C : Cst) (f : State → RV → RV → Option Bool) (r : R2) : Prop :=
  ∀ Z loc s sv H x y u v b Q, SR C Z loc s sv H → RVR C Z loc s sv H x u → RVR C Z loc s sv H y v → f s x y = some b → Q (.bl b) H → r u v H Q
section
variable {C : Cst} {Z : Hp} {loc : List Addr} {s : State} {sv : L2.St} {H : Hp} {Q : VK}
theorem EPost.val {x : Val} {v : V} (h : EPost C Z loc sv (.ok (.val x) s) Q) (r : SR C Z loc s sv H) (q : RepV C.cA Z loc x v) : Q v H := h Z loc H v (Ext.refl _ _) r q
theorem EPost.okv {x : D} {v : V} (h : EPost C Z loc sv (okv x s) Q) (r : SR C Z loc s sv H) (q : RepD C.cA Z x v) : Q v H := EPost.val h r q
theorem EPost.new {o : Ob} {u : HO} {p : Addr} (h : EPost C Z loc sv (.ok (.new o) s) Q) (r : SR C Z loc s sv H) (np : H p = none) (ne : o ≠ .gone) (q : Cell C.cA Z loc (upd H p u) p o) : Q (.ref p) (upd H p u) :=
  h Z loc _ _ (Ext.refl _ _) (r.grow (same_upd np)) ⟨p, rfl, ne, q, r.free np⟩
theorem repVs_len : ∀ {l : List Val} {xs : List V}, RepVs C.cA Z loc l xs → l.length = xs.length
  | [], xs, h => by rw [show xs = _ from h]; rfl
  | x :: l, xs, ⟨v, r, e, q, t⟩ => by rw [e, List.length_cons, List.length_cons, repVs_len t]
theorem repVs_app : ∀ {l m : List Val} {xs ys : List V}, RepVs C.cA Z loc l xs → RepVs C.cA Z loc m ys → RepVs C.cA Z loc (l ++ m) (xs ++ ys)
  | [], m, xs, ys, h, g => by rw [show xs = _ from h]; exact g
  | x :: l, m, xs, ys, ⟨v, r, e, q, t⟩, g => by rw [e]; exact ⟨v, r ++ ys, rfl, q, repVs_app t g⟩
theorem bAdd_ok : OpS C bAdd (fun x y H Q => rI0 (fun i j => .int (i + j)) x y H Q ∨ ((∃ i j, x = .str i ∧ y = .str j ∧ i.length + j.length ≤ sizeLine ∧ Q (.str (i ++ j)) H) ∨
    ∃ l b xs zs, x = .ref l ∧ y = .ref b ∧ Rd H l (.lst xs) ∧ Rd H b (.lst zs) ∧ xs.length + zs.length ≤ sizeLine ∧ ∀ p, H p = none → Q (.ref p) (upd H p (.lst (xs ++ zs))))) := by
  intro Z loc s sv H x y u v Q r hx hy h
  unfold bAdd at h
  split at h
  · rename_i i j e1 e2
    exact .inl ⟨i, j, r.dv hx e1, r.dv hy e2, h.okv r rfl⟩
  · rename_i a b e1 e2
    split at h
    · rename_i hl
      refine .inr (.inl ⟨⟨a.toArray⟩, ⟨b.toArray⟩, r.dv hx e1, r.dv hy e2, by simpa [Str.length] using hl, h.okv r ?_⟩)
      show V.str _ = V.str _
      congr 1
      show Str.mk (a.toArray ++ b.toArray) = _
      simp
    · exact h.elim
  · split at h
    · rename_i l m e1 e2
      split at h
      · rename_i hl
        obtain ⟨a, xs, h1, h2, h3⟩ := r.lv hx e1
        obtain ⟨b, ys, h4, h5, h6⟩ := r.lv hy e2
        refine .inr (.inr ⟨a, b, xs, ys, h1, h4, h2, h5, by rw [← repVs_len h3, ← repVs_len h6]; exact hl, fun p np => h.new r np (by simp) ⟨_, upd_same, repVs_app h3 h6⟩⟩)
      · exact h.elim
    · exact h.elim
end
section
variable {X : Cx}
theorem h_add : OpR X (binaryOp .Add) (fun x y H Q => rI0 (fun i j => .int (i + j)) x y H Q ∨ ((∃ i j, x = .str i ∧ y = .str j ∧ i.length + j.length ≤ sizeLine ∧ Q (.str (i ++ j)) H) ∨
    ∃ l b xs zs, x = .ref l ∧ y = .ref b ∧ Rd H l (.lst xs) ∧ Rd H b (.lst zs) ∧ xs.length + zs.length ≤ sizeLine ∧ ∀ p, H p = none → Q (.ref p) (upd H p (.lst (xs ++ zs))))) :=
  op_add.or (op_add_str.or h_cat)
def rSM : R2 := fun x y H Q => ∃ (a : Str) (j : Int), x = .str a ∧ y = .int j ∧ 0 ≤ j ∧ j < 1000000 ∧ a.length * j.toNat ≤ 1000000 ∧ Q (.str ⟨(List.replicate j.toNat a.cps.toList).flatten.toArray⟩) H
theorem flat_fold (a : Array Nat) : ∀ (n : Nat) (b : Array Nat), (List.replicate n a).foldl (· ++ ·) b = (b.toList ++ (List.replicate n a.toList).flatten).toArray
  | 0, b => by simp
  | n + 1, b => by
    rw [List.replicate_succ, List.foldl_cons, flat_fold a n]
    simp [List.replicate_succ]
theorem h_smul : OpR X (binaryOp .Mult) rSM := by
  intro pins s σ H x y v u Q I rx ry h
  obtain ⟨a, j, rfl, rfl, h0, h1, h2, q⟩ := h
  obtain ⟨t, rfl⟩ := rx
  obtain ⟨t', rfl⟩ := ry
  have b63 : (2 : Int) ^ 63 = 9223372036854775808 := by decide
  refine PySem.P.mul_str (by simp; omega) (fun g1 g2 g => ?_) (fun g1 g2 => ?_) ?_
  · have hj : (1 : Int) ≤ j := by omega
    have e1 : (a.length : Int) * j ≤ 1000000 := by
      have : ((a.length * j.toNat : Nat) : Int) ≤ 1000000 := by omega
      rw [Int.natCast_mul, Int.toNat_of_nonneg h0] at this
      exact this
    have e2 : (a.length : Int) ≤ 1000000 := by
      have : a.length ≤ a.length * j.toNat := Nat.le_mul_of_pos_right _ (by omega)
      omega
    have e3 : (9223372036853 : Int) ≤ (2 ^ 63 - 1) / j := by
      refine Int.le_ediv_of_mul_le (by omega) ?_
      rw [b63]
      omega
    omega
  · have h3 : a.length * j.toNat ≤ 1000000 := h2
    unfold Builtin.Str.tooLong
    rw [sizeLine_eq]
    simp
    omega
  · by_cases c1 : j < 1
    · rw [if_pos c1]
      have e0 : j = 0 := by omega
      subst e0
      exact ⟨by decide, .str _, H, I.tok _, ⟨_, rfl⟩, q⟩
    · rw [if_neg c1]
      by_cases c2 : (j == 1 || a.length == 0) = true
      · rw [if_pos c2]
        refine ⟨.str a, H, I, ⟨_, rfl⟩, ?_⟩
        have ea : (⟨(List.replicate j.toNat a.cps.toList).flatten.toArray⟩ : Str) = a := by
          refine Str.ext' (Array.toList_inj.mp ?_)
          simp at c2
          rcases c2 with c2 | c2
          · subst c2; simp
          · have : a.cps.toList = [] := List.length_eq_zero_iff.mp (by simpa [Str.length] using c2)
            simp [this]
        rw [ea] at q
        exact q
      · rw [if_neg c2]
        have ea : (List.replicate j.toNat a.cps).foldl (· ++ ·) #[] = (List.replicate j.toNat a.cps.toList).flatten.toArray := by
          rw [flat_fold]; simp
        rw [ea]
        refine ⟨?_, .str _, H, I.tok _, ⟨_, rfl⟩, q⟩
        show (List.replicate j.toNat a.cps.toList).flatten.toArray.size ≤ _
        rw [List.size_toArray, List.length_flatten, List.map_replicate, List.sum_replicate_nat, sizeLine_eq]
        have h3 : a.cps.toList.length = a.length := rfl
        rw [h3, Nat.mul_comm]
        omega
end
end Vw
namespace Vw
open PySem L2 PyProof.Rows

section
variable {C : Cst} {X : Cx}
theorem ops_no {f : RV → RV → State → Res RV} (h : ∀ x y s, f x y s = .stuck) {r : R2} : OpS C f r := by
  intro Z loc s sv H x y u v Q _ _ _ q
  rw [h] at q
  exact q.elim
/-- two whole numbers -/
theorem ops_int {f : RV → RV → State → Res RV} {c : Int → Int → Prop} {g : Int → Int → Int}
    (h : ∀ x y s, (∃ i j, dv s x = some (.int i) ∧ dv s y = some (.int j) ∧ c i j ∧ f x y s = okv (.int (g i j)) s) ∨ f x y s = .stuck) : OpS C f (rI c fun i j => .int (g i j)) := by
  intro Z loc s sv H x y u v Q r hx hy q
  rcases h x y s with ⟨i, j, e1, e2, hc, e⟩ | e
  · rw [e] at q
    exact ⟨i, j, r.dv hx e1, r.dv hy e2, hc, q.okv r rfl⟩
  · rw [e] at q
    exact q.elim
theorem bop_ok (op : Bop) : ∃ r, OpR X (binaryOp op.py) r ∧ OpS C (binop op) r := by
  cases op with
  | add => exact ⟨_, h_add, bAdd_ok⟩
  | sub => exact ⟨_, opI (C := fun _ _ => True) fun _ _ _ _ _ _ _ _ q => sub_int q, ops_int fun x y s => by
      show (_ ∨ (match dv s x, dv s y with | some (.int i), some (.int j) => _ | _, _ => _) = Res.stuck)
      split
      · rename_i i j e1 e2; exact .inl ⟨i, j, e1, e2, trivial, by unfold binop; simp only [e1, e2]⟩
      · exact .inr rfl⟩
  | mul =>
    refine ⟨_, op_mulW.or h_smul, ?_⟩
    intro Z loc s sv H x y u v Q r hx hy q
    unfold binop bMul at q
    dsimp only at q
    split at q
    · rename_i i j e1 e2
      split at q
      · rename_i hc
        exact .inl ⟨i, j, r.dv hx e1, r.dv hy e2, hc, q.okv r rfl⟩
      · exact q.elim
    · rename_i a j e1 e2
      split at q
      · rename_i hc
        refine .inr ⟨⟨a.toArray⟩, j, r.dv hx e1, r.dv hy e2, hc.1, hc.2.1, by simpa [Str.length] using hc.2.2, q.okv r ?_⟩
        show V.str _ = V.str _
        simp
      · exact q.elim
    · exact q.elim
  | fdiv => exact ⟨_, op_fdivW, ops_int fun x y s => by
      show (_ ∨ (match dv s x, dv s y with | some (.int i), some (.int j) => _ | _, _ => _) = Res.stuck)
      split
      · rename_i i j e1 e2
        by_cases hc : 0 < j ∧ j.natAbs.log2 < 9000
        · exact .inl ⟨i, j, e1, e2, hc, by unfold binop; simp only [e1, e2, if_pos hc]⟩
        · exact .inr (if_neg hc)
      · exact .inr rfl⟩
  | mod => exact ⟨_, op_mod, ops_int fun x y s => by
      show (_ ∨ (match dv s x, dv s y with | some (.int i), some (.int j) => _ | _, _ => _) = Res.stuck)
      split
      · rename_i i j e1 e2
        by_cases hc : 0 < j
        · exact .inl ⟨i, j, e1, e2, hc, by unfold binop; simp only [e1, e2, if_pos hc]⟩
        · exact .inr (if_neg hc)
      · exact .inr rfl⟩
  | pow => exact ⟨_, op_pow, ops_int fun x y s => by
      show (_ ∨ (match dv s x, dv s y with | some (.int i), some (.int j) => _ | _, _ => _) = Res.stuck)
      split
      · rename_i i j e1 e2
        by_cases hc : 0 ≤ j ∧ j ≤ 1000000 ∧ i.natAbs < 2 ^ 64
        · exact .inl ⟨i, j, e1, e2, hc, by unfold binop; simp only [e1, e2, if_pos hc]⟩
        · exact .inr (if_neg hc)
      · exact .inr rfl⟩
end

section
variable {C : Cst} {Z : Hp} {loc : List Addr} {s : State} {sv : L2.St} {H : Hp}
theorem kV_kz {d : D} {k : K0} {v : V} (e : key0 d = some k) (h : RepD C.cA Z d v) : v = kV (kz k) := by
  cases d <;> simp [key0] at e
  · subst e; exact h
  · subst e; exact h
theorem kVs_kz : ∀ {l : List D} {ks : List K0} {vs : List V}, keyT l = some ks → RepDs C.cA Z l vs → vs = (ks.map kz).map kV
  | [], ks, vs, e, h => by cases e; rw [show vs = _ from h]; rfl
  | d :: l, ks, vs, e, ⟨v, r, e1, q, t⟩ => by
    unfold keyT at e
    split at e
    · rename_i k ks' e2 e3
      cases e
      rw [e1, kV_kz e2 q, kVs_kz e3 t]
      rfl
    · cases e
def OptR (C : Cst) (Z : Hp) (loc : List Addr) : Option Val → Option V → Prop
  | some x, some v => RepV C.cA Z loc x v
  | none, none => True
  | _, _ => False
theorem kget_cons {κ α : Type} [DecidableEq κ] (k' : κ) (x : α) (l : List (κ × α)) (k : κ) : kget ((k', x) :: l) k = if k' = k then some x else kget l k := by
  unfold kget
  by_cases e : k' = k <;> simp [List.find?_cons, e]
theorem kget_repK : ∀ {l : List (K0 × Val)} {ws : List (Key × V)} (k : K0), RepVKs C.cA Z loc l ws → OptR C Z loc (kget l k) (valV ws (kz k))
  | [], ws, k, h => by rw [show ws = _ from h]; exact trivial
  | (k', x) :: l, ws, k, ⟨v, r, e, q, t⟩ => by
    rw [e, kget_cons]
    by_cases hk : k' = k
    · rw [if_pos hk, valV_pos (by rw [hk])]; exact q
    · rw [if_neg hk, valV_neg (fun z => hk (kz_inj z))]; exact kget_repK k t
theorem map_kz_inj : ∀ {a b : List K0}, a.map kz = b.map kz → a = b
  | [], [], _ => rfl
  | [], _ :: _, h => by simp at h
  | _ :: _, [], h => by simp at h
  | x :: a, y :: b, h => by
    simp only [List.map_cons, List.cons.injEq] at h
    rw [kz_inj h.1, map_kz_inj h.2]
theorem kget_repT : ∀ {l : List (List K0 × Val)} {ws : List (List Key × V)} (k : List K0), RepVTs C.cA Z loc l ws → OptR C Z loc (kget l k) (valV ws (k.map kz))
  | [], ws, k, h => by rw [show ws = _ from h]; exact trivial
  | (k', x) :: l, ws, k, ⟨v, r, e, q, t⟩ => by
    rw [e, kget_cons]
    by_cases hk : k' = k
    · rw [if_pos hk, valV_pos (by rw [hk])]; exact q
    · rw [if_neg hk, valV_neg (fun z => hk (map_kz_inj z))]; exact kget_repT k t
theorem LkD.rd {H : Hp} {a : Addr} {u : HO} : ∀ {k : Bool}, LkD H a u k → Rd H a u
  | false, q => .inl q
  | true, q => .inr q
theorem SR.dcv (r : SR C Z loc s sv H) {rv : RV} {v : V} {l : List (K0 × Val)} (h : RVR C Z loc s sv H rv v) (e : dcv s rv = some l) : ∃ a ws, v = .ref a ∧ Rd H a (.dK ws) ∧ RepVKs C.cA Z loc l ws := by
  unfold Vw.dcv at e
  split at e
  · rename_i l' e1
    cases e
    obtain ⟨a, ws, h1, h2, h3⟩ := r.dv h e1
    exact ⟨a, ws, h1, (r.zh a _ h2).rd, rep_mapK.mpr h3⟩
  · cases e
  · split at e
    · rename_i k l' e1
      cases e
      obtain ⟨a, h1, _, ws, h2, h3⟩ := r.ob h e1
      exact ⟨a, ws, h1, h2.rd, h3⟩
    · cases e
theorem SR.dtv (r : SR C Z loc s sv H) {rv : RV} {v : V} {l : List (List K0 × Val)} (h : RVR C Z loc s sv H rv v) (e : dtv s rv = some l) : ∃ a ws, v = .ref a ∧ Rd H a (.dT ws) ∧ RepVTs C.cA Z loc l ws := by
  unfold Vw.dtv at e
  split at e
  · rename_i l' e1
    cases e
    obtain ⟨a, ws, h1, h2, h3⟩ := r.dv h e1
    exact ⟨a, ws, h1, (r.zh a _ h2).rd, rep_mapT.mpr h3⟩
  · cases e
  · split at e
    · rename_i k l' e1
      cases e
      obtain ⟨a, h1, _, ws, h2, h3⟩ := r.ob h e1
      exact ⟨a, ws, h1, h2.rd, h3⟩
    · cases e
theorem SR.dget (r : SR C Z loc s sv H) {x k : RV} {u v : V} {o : Option Val} (hx : RVR C Z loc s sv H x u) (hk : RVR C Z loc s sv H k v) (e : dget s x k = some o) :
    ∃ a w, u = .ref a ∧ DGet H a v w ∧ OptR C Z loc o w := by
  unfold Vw.dget at e
  split at e
  · rename_i l d e1 e2
    obtain ⟨k0, e3, rfl⟩ := Option.map_eq_some_iff.mp e
    obtain ⟨a, ws, h1, h2, h3⟩ := r.dcv hx e1
    exact ⟨a, _, h1, .inl ⟨ws, kz k0, h2, kV_kz e3 (r.dv hk e2), rfl⟩, kget_repK k0 h3⟩
  · split at e
    · rename_i l ks e1 e2
      obtain ⟨k0, e3, rfl⟩ := Option.map_eq_some_iff.mp e
      obtain ⟨a, ws, h1, h2, h3⟩ := r.dtv hx e1
      obtain ⟨b, vs, h4, h5, h6⟩ := r.dv hk e2
      refine ⟨a, _, h1, .inr ⟨ws, k0.map kz, b, h2, h4, ?_, rfl⟩, kget_repT k0 h3⟩
      rw [← kVs_kz e3 h6]
      exact (r.zh b _ h5).at rfl
    · cases e
theorem OptR.isSome {o : Option Val} {w : Option V} (h : OptR C Z loc o w) : o.isSome = w.isSome := by
  cases o <;> cases w <;> first | rfl | exact h.elim
end

section
variable {C : Cst} {X : Cx}
theorem ordS {op : CmpOp} {f : Int → Int → Bool} {g : List Nat → List Nat → Bool}
    (h1 : OpR X (compareOp op) (rI0 fun i j => .bl (f i j))) (h2 : OpR X (compareOp op) (fun x y H Q => ∃ i j : Str, x = .str i ∧ y = .str j ∧ Q (.bl (g i.cps.toList j.cps.toList)) H)) :
    ∃ r, OpR X (compareOp op) r ∧ CmS C (fun s x y => ordD s x y f g) r := by
  refine ⟨_, h1.or h2, ?_⟩
  intro Z loc s sv H x y u v b Q r hx hy e q
  unfold ordD at e
  dsimp only at e
  split at e
  · rename_i i j e1 e2
    cases e
    exact .inl ⟨i, j, r.dv hx e1, r.dv hy e2, q⟩
  · rename_i i j e1 e2
    cases e
    exact .inr ⟨⟨i.toArray⟩, ⟨j.toArray⟩, r.dv hx e1, r.dv hy e2, by simpa using q⟩
  · cases e
theorem eqS (n : Bool) {Z : Hp} {loc : List Addr} {s : State} {sv : L2.St} {H : Hp} {x y : RV} {u v : V} {b : Bool} {Q : VK} (r : SR C Z loc s sv H) (hx : RVR C Z loc s sv H x u) (hy : RVR C Z loc s sv H y v) (e : eqD s x y = some b)
    (q : Q (.bl (xor n b)) H) : rPl X.K n u v H Q := by
  unfold eqD at e
  split at e
  · rename_i d d' e1 e2
    split at e
    · rename_i hc
      cases e
      simp only [comparable, Bool.and_eq_true, decide_eq_true_eq] at hc
      exact ⟨pd d, pd d', r.pv' hx e1 hc.1.1, r.pv' hy e2 hc.1.2, hc.1.1, hc.1.2, hc.2, q⟩
    · cases e
  · cases e
theorem pds_any (d : D) : ∀ l : List D, (pds l).any (fun y => PyData.eqv y (pd d)) = l.any fun y => deq y d
  | [] => rfl
  | x :: l => by
    show (_ || _) = (_ || _)
    rw [pds_any d l]
    rfl
theorem isS (n : Bool) {Z : Hp} {loc : List Addr} {s : State} {sv : L2.St} {H : Hp} {x y : RV} {u v : V} {b : Bool} (r : SR C Z loc s sv H) (hx : RVR C Z loc s sv H x u) (hy : RVR C Z loc s sv H y v) (e : isN s x y = some b) :
    v = .non ∧ decide (u = .non) = b := by
  unfold isN at e
  split at e
  · rename_i e1
    refine ⟨r.dv hy e1, ?_⟩
    split at e
    · rename_i e2
      cases e
      exact decide_eq_true (r.dv hx e2)
    · rename_i d ne e2
      cases e
      refine decide_eq_false fun z => ?_
      have q := r.dv hx e2
      subst z
      cases d with
      | non => exact ne rfl
      | bl _ => cases q
      | int _ => cases q
      | str _ => cases q
      | tup l => obtain ⟨_, _, h, _⟩ := q; cases h
      | lst l => obtain ⟨_, _, h, _⟩ := q; cases h
      | dic l => obtain ⟨_, _, h, _⟩ := q; cases h
      | dit l => obtain ⟨_, _, h, _⟩ := q; cases h
      | ins c l => obtain ⟨_, _, _, h, _⟩ := q; cases h
      | exc c l => obtain ⟨_, _, _, h, _⟩ := q; cases h
    · split at e
      · rename_i o e2
        cases e
        obtain ⟨a, h, _⟩ := r.ob hx e2
        rw [h]; rfl
      · obtain ⟨l, e2, e3⟩ := Option.map_eq_some_iff.mp e
        obtain ⟨a, xs, h, _⟩ := r.tv hx e2
        rw [h, ← e3]; rfl
  · cases e
theorem inS (n : Bool) {Z : Hp} {loc : List Addr} {s : State} {sv : L2.St} {H : Hp} {x y : RV} {u v : V} {b : Bool} {Q : VK} (r : SR C Z loc s sv H) (hx : RVR C Z loc s sv H x u) (hy : RVR C Z loc s sv H y v) (e : inD s x y = some b)
    (q : Q (.bl (xor n b)) H) : rDin n u v H Q ∨ ((∃ i j, u = .str i ∧ v = .str j ∧ Q (.bl (xor n (!(Builtin.Str.occurrences j i 0 j.length 1).isEmpty))) H) ∨ rIn X.K n u v H Q) := by
  unfold inD at e
  split at e
  · rename_i o e1
    cases e
    obtain ⟨a, w, h1, h2, h3⟩ := r.dget hy hx e1
    exact .inl ⟨a, w, h1, h2, by rw [← h3.isSome]; exact q⟩
  · split at e
    · rename_i i j e1 e2
      cases e
      exact .inr (.inl ⟨⟨i.toArray⟩, ⟨j.toArray⟩, r.dv hx e1, r.dv hy e2, by simpa [subIn, st, Str.length] using q⟩)
    · split at e
      · rename_i d l e1 e2
        split at e
        · rename_i hc
          cases e
          simp only [Bool.and_eq_true, decide_eq_true_eq] at hc
          refine .inr (.inr ⟨pd d, pds l, r.pv' hx e1 hc.1.1, .inl (r.pv' hy e2 hc.1.2), hc.1.1, hc.1.2, hc.2, ?_⟩)
          rw [pds_any]; exact q
        · cases e
      · rename_i d l e1 e2
        split at e
        · rename_i hc
          cases e
          simp only [Bool.and_eq_true, decide_eq_true_eq] at hc
          refine .inr (.inr ⟨pd d, pds l, r.pv' hx e1 hc.1.1, .inr (r.pv' hy e2 hc.1.2), hc.1.1, hc.1.2, hc.2, ?_⟩)
          rw [pds_any]; exact q
        · cases e
      · cases e
theorem cop_ok (hu : X.A.units + 64 < cLine) (op : Cop) : ∃ r, OpR X (compareOp op.py) r ∧ CmS C (cmpop op) r := by
  cases op with
  | eq => exact ⟨_, h_eq hu, fun Z loc s sv H x y u v b Q r hx hy e q => eqS false r hx hy e (by simpa using q)⟩
  | ne => exact ⟨_, h_ne hu, fun Z loc s sv H x y u v b Q r hx hy e q => by
      obtain ⟨b', e1, rfl⟩ := Option.map_eq_some_iff.mp e
      exact eqS true r hx hy e1 (by simpa using q)⟩
  | lt => exact ordS op_lt op_lt_str
  | le => exact ordS op_le op_le_str
  | gt => exact ordS op_gt op_gt_str
  | ge => exact ordS op_ge op_ge_str
  | is => exact ⟨_, op_isN, fun Z loc s sv H x y u v b Q r hx hy e q => by
      obtain ⟨h1, h2⟩ := isS false r hx hy e
      exact ⟨h1, by rw [h2]; exact q⟩⟩
  | isn => exact ⟨_, op_notN, fun Z loc s sv H x y u v b Q r hx hy e q => by
      obtain ⟨b', e1, rfl⟩ := Option.map_eq_some_iff.mp e
      obtain ⟨h1, h2⟩ := isS false r hx hy e1
      exact ⟨h1, by rw [h2]; exact q⟩⟩
  | isin => exact ⟨_, (h_din hu).or (op_in_str.or (h_in hu)), fun Z loc s sv H x y u v b Q r hx hy e q => by
      rcases inS (X := X) false r hx hy e (by simpa using q) with h | ⟨i, j, h1, h2, h3⟩ | h
      · exact .inl h
      · exact .inr (.inl ⟨i, j, h1, h2, by simpa using h3⟩)
      · exact .inr (.inr h)⟩
  | notin => exact ⟨_, (h_dnin hu).or (L2.op_notin_str.or (h_nin hu)), fun Z loc s sv H x y u v b Q r hx hy e q => by
      obtain ⟨b', e1, rfl⟩ := Option.map_eq_some_iff.mp e
      rcases inS (X := X) true r hx hy e1 (by simpa using q) with h | ⟨i, j, h1, h2, h3⟩ | h
      · exact .inl h
      · exact .inr (.inl ⟨i, j, h1, h2, by simpa using h3⟩)
      · exact .inr (.inr h)⟩
end
end Vw
namespace Vw
open PySem L2 PyProof.Rows

def notStar : Expr → Bool
  | .Starred .. => false
  | _ => true
def abOk : Expr → Bool
  | .Call (.Name x _) [] [] _ => x != "super"
  | _ => true
theorem star_cons {e : Expr} {es : List Expr} {env : Env} (h : notStar e = true) : starEach (e :: es) env = (false, eval e env) :: starEach es env := by
  cases e <;> first | rfl | cases h
theorem star_any {pos : Pos} {env : Env} : ∀ {es : List Expr}, es.all notStar = true → (backTo pos (starEach es env)).any (·.1) = false
  | [], _ => rfl
  | e :: es, h => by
    simp only [List.all_cons, Bool.and_eq_true] at h
    rw [star_cons h.1]
    show (false || _) = false
    rw [Bool.false_or]
    exact star_any h.2
theorem star_all {pos : Pos} {env : Env} : ∀ {es : List Expr}, es.all notStar = true → (backTo pos (starEach es env)).all (fun x => !x.1) = true
  | [], _ => rfl
  | e :: es, h => by
    simp only [List.all_cons, Bool.and_eq_true] at h
    rw [star_cons h.1]
    show (true && _) = true
    rw [Bool.true_and]
    exact star_all h.2
theorem few_ok {pos : Pos} {env : Env} {es : List Expr} (h : es.all notStar = true) (hl : es.length < 20) :
    ((backTo pos (starEach es env)).all (fun x => !x.1) && (backToKw pos (keywordEach [] env)).all (fun x => x.1.isSome)
      && decide (es.length + ([] : List Keyword).length + (if ([] : List Keyword).isEmpty then 0 else 1) < 30)) = true := by
  rw [star_all h]
  show (true && true && decide (es.length + 0 + 0 < 30)) = true
  simp
  omega
theorem ab_ok {o : Expr} {a : Str} {env : Env} {w : Sem Value} (h : abOk o = true) : attributeBase o a env w = w := by
  unfold attributeBase
  split
  · rename_i x p q
    have hx : (x != "super") = true := by
      unfold abOk at h
      exact h
    simp [hx]
  · rfl
def plainTest : Expr → Bool
  | .UnaryOp .Not _ _ => false
  | .BoolOp .. => false
  | .IfExp .. => false
  | .Compare .. => false
  | _ => true
theorem tst_ok {e : Expr} {env : Env} (h : plainTest e = true) : ∀ whole, isTrue e env whole = (do let v ← whole; standAt e.pos; holding [v] (truthy v)) := by
  intro w
  cases e <;> first | rfl | cases h | skip
  rename_i op x p
  cases op <;> first | rfl | cases h
def notSet : Expr → Bool
  | .Set .. => false
  | _ => true
theorem marks_ok {op : CmpOp} {e : Expr} (h : notSet e = true) : behindInMarks op e = false := by
  cases e <;> first | rfl | cases h
theorem fold_ok {e : Expr} {env : Env} (h : notSet e = true) : ∀ x, foldedSetIterable e env x = pure x := by
  intro x
  cases e <;> first | rfl | cases h
def notComp : Expr → Bool
  | .ListComp .. => false
  | .SetComp .. => false
  | .DictComp .. => false
  | _ => true
theorem swap_ok {e : Expr} {t : Option Expr} {n : Nat} {env : Env} (h : notComp e = true) : swapsWith e t n env = pure false := by
  cases e <;> first | rfl | cases h
def notSlice : Expr → Bool
  | .Slice .. => false
  | _ => true
theorem plainIx_ok {e : Expr} (h : notSlice e = true) : PlainIx e := by
  intro o i
  cases e <;> first | rfl | cases h

def fVar (i : Nat) (s : State) : Res RV :=
  match s.sg[i]? with
  | some (some (.v x)) => .ok (.val x) s
  | some (some (.own _)) => .ok (.own i) s
  | _ => .stuck
def fD (d : D) (s : State) : Res RV := okv d s
def ev (f : State → Res RV) (s : State) : Res RV := (f s).bind settle
def ev2 (fa fb : State → Res RV) (k : RV → RV → State → Res RV) (s : State) : Res RV := (ev fa s).bind fun x s => (ev fb s).bind fun y s => k x y s
def fCmp (op : Cop) (x y : RV) (s : State) : Res RV :=
  match cmpop op s x y with
  | some b => okv (.bl b) s
  | none => .stuck
def asB (r : RV) (s : State) : Res Bool :=
  match dv s r with
  | some (.bl b) => .ok b s
  | _ => .stuck
def evB (f : State → Res RV) (s : State) : Res Bool := (ev f s).bind asB
def evA : List (State → Res RV) → State → Res (List RV)
  | [], s => .ok [] s
  | f :: r, s => (ev f s).bind fun x s => (evA r s).bind fun xs s => .ok (x :: xs) s
def capAll : List RV → State → Res (List Val)
  | [], s => .ok [] s
  | r :: rs, s => (cap r s).bind fun x s => (capAll rs s).bind fun xs s => .ok (x :: xs) s
def mkTup (l : List Val) : Val :=
  match toDs l with
  | some ds => .d (.tup ds)
  | none => .tp l
def bTup (rs : List RV) (s : State) : Res RV := (capAll rs s).bind fun l s => if l.length ≤ sizeLine then .ok (.val (mkTup l)) s else .stuck
def bLst (rs : List RV) (s : State) : Res RV := (capAll rs s).bind fun l s => if l.length ≤ sizeLine then .ok (.new (.lst l)) s else .stuck
def bNeg (x : RV) (s : State) : Res RV :=
  match dv s x with
  | some (.int i) => okv (.int (-i)) s
  | _ => .stuck
def fAnd : List (State → Res Bool) → State → Res Bool
  | [], s => .ok true s
  | [f], s => f s
  | f :: r, s => (f s).bind fun b s => if b = true then fAnd r s else .ok false s
def fOr : List (State → Res Bool) → State → Res Bool
  | [], s => .ok false s
  | [f], s => f s
  | f :: r, s => (f s).bind fun b s => if b = true then .ok true s else fOr r s
def fNot (f : State → Res Bool) (s : State) : Res Bool := (f s).bind fun b s => .ok (!b) s
def fAndV : List (State → Res RV) → State → Res RV
  | [], s => .stuck
  | [f], s => ev f s
  | f :: r, s => (evB f s).bind fun b s => if b = true then fAndV r s else okv (.bl false) s
def fOrV : List (State → Res RV) → State → Res RV
  | [], s => .stuck
  | [f], s => ev f s
  | f :: r, s => (evB f s).bind fun b s => if b = true then okv (.bl true) s else fOrV r s

theorem Res.bind_assoc {α β γ : Type} (r : Res α) (f : α → State → Res β) (g : β → State → Res γ) : (r.bind f).bind g = r.bind fun a s => (f a s).bind g := by
  cases r <;> rfl

section
variable {C : Cst} {Z Z' : Hp} {loc loc' : List Addr} {s s' : State} {sv : L2.St} {H : Hp}
theorem settle_res {rv : RV} : (∃ r, settle rv s = .ok r s) ∨ settle rv s = .stuck := by
  cases rv with
  | val x => exact .inl ⟨_, rfl⟩
  | own x => exact .inl ⟨_, rfl⟩
  | new o =>
    unfold settle
    dsimp only
    split
    · exact .inl ⟨_, rfl⟩
    · exact .inr rfl
/-- f evaluated and settled, then what follows (for any kind of end) -/
theorem TEx.evG {f : State → Res RV} {α : Type} {k : RV → State → Res α} {PO : Hp → List Addr → Res α → Prop} {Q : VK}
    (r : SR C Z loc s sv H) (h : PO Z loc ((ev f s).bind k)) (ext : ∀ Z' loc' t, Ext Z loc Z' loc' → PO Z loc t → PO Z' loc' t)
    (hx : ∀ x s', PO Z loc (.exc x s') → ∀ Z' loc' H' c d, Ext Z loc Z' loc' → SR C Z' loc' s' sv H' → XRep C Z' H' x c d → C.W c d sv H') (hs : ¬ PO Z loc .stuck)
    (hq : ∀ v H', (∃ Z' loc' s' rv, Ext Z loc Z' loc' ∧ SR C Z' loc' s' sv H' ∧ Stl rv ∧ RVR C Z' loc' s' sv H' rv v ∧ PO Z' loc' (k rv s')) → Q v H') : TEx C f sv H Q := by
  refine ⟨Z, loc, s, r, ?_⟩
  unfold ev at h
  cases e : f s with
  | stuck => rw [e] at h; exact (hs h).elim
  | exc x s' => rw [e] at h; exact hx x s' h
  | ok rv s' =>
    rw [e] at h
    intro Z1 l1 H1 v g r1 q
    simp only [Res.bind_ok] at h
    cases e2 : settle rv s' with
    | stuck => rw [e2] at h; exact (hs h).elim
    | exc x s2 => exact absurd e2 settle_no
    | ok rv' s2 =>
      rw [e2] at h
      obtain ⟨rfl, st, Z2, g2, r2, q2⟩ := r1.settle q e2
      exact hq v H1 ⟨Z2, l1, s2, rv', g.trans g2, r2, st, q2, ext _ _ _ (g.trans g2) h⟩
theorem TEx.evE {f : State → Res RV} {k : RV → State → Res RV} {Q : VK} (r : SR C Z loc s sv H) (h : EPost C Z loc sv ((ev f s).bind k) Q) :
    TEx C f sv H (fun v H' => ∃ Z' loc' s' rv, Ext Z loc Z' loc' ∧ SR C Z' loc' s' sv H' ∧ Stl rv ∧ RVR C Z' loc' s' sv H' rv v ∧ EPost C Z' loc' sv (k rv s') Q) :=
  TEx.evG (PO := fun Z loc t => EPost C Z loc sv t Q) r h (fun _ _ _ g q => q.ext g) (fun _ _ q => q) (fun q => q) fun _ _ q => q
theorem TEx.evA' {f : State → Res RV} {k : RV → State → Res (List RV)} {Q : List V → Hp → Prop} (r : SR C Z loc s sv H) (h : APost C Z loc sv ((ev f s).bind k) Q) :
    TEx C f sv H (fun v H' => ∃ Z' loc' s' rv, Ext Z loc Z' loc' ∧ SR C Z' loc' s' sv H' ∧ Stl rv ∧ RVR C Z' loc' s' sv H' rv v ∧ APost C Z' loc' sv (k rv s') Q) :=
  TEx.evG (PO := fun Z loc t => APost C Z loc sv t Q) r h (fun _ _ _ g q => q.ext g) (fun _ _ q => q) (fun q => q) fun _ _ q => q
theorem TEx.evB' {f : State → Res RV} {k : RV → State → Res Bool} {Q : Bool → Hp → Prop} (r : SR C Z loc s sv H) (h : BPost C Z loc sv ((ev f s).bind k) Q) :
    TEx C f sv H (fun v H' => ∃ Z' loc' s' rv, Ext Z loc Z' loc' ∧ SR C Z' loc' s' sv H' ∧ Stl rv ∧ RVR C Z' loc' s' sv H' rv v ∧ BPost C Z' loc' sv (k rv s') Q) :=
  TEx.evG (PO := fun Z loc t => BPost C Z loc sv t Q) r h (fun _ _ _ g q => q.ext g) (fun _ _ q => q) (fun q => q) fun _ _ q => q
theorem TEx.evS {f : State → Res RV} {k : RV → State → Res Fl} {D : Ends} (r : SR C Z loc s sv H) (h : SPost C Z loc ((ev f s).bind k) D) :
    TEx C f sv H (fun v H' => ∃ Z' loc' s' rv, Ext Z loc Z' loc' ∧ SR C Z' loc' s' sv H' ∧ Stl rv ∧ RVR C Z' loc' s' sv H' rv v ∧ SPost C Z' loc' (k rv s') D) :=
  TEx.evG (PO := fun Z loc t => SPost C Z loc t D) r h (fun _ _ _ g q => q.ext g) (fun _ _ q Z' loc' H' c d => q Z' loc' sv H' c d) (fun q => q) fun _ _ q => q
theorem SR.idT (r : SR C Z loc s sv H) {f : State → Res RV} {Q : VK} (h : EPost C Z loc sv (f s) Q) : TEx C f sv H Q := ⟨Z, loc, s, r, h⟩

variable {X : Cx} {e a b c : Expr} {es : List Expr} {pos : Pos} {f fa fb fc : State → Res RV} {ft : State → Res Bool}
theorem v_var {i : Nat} {x : Str} (hN : X.N[i]? = some x) (hv : Vis X.env.scope x) (hd : (x == ("__debug__" : Str)) = false) (hcd : (x == ("__classdict__" : Str)) = false) : PE X (.Name x pos) (TEx C (fVar i)) := by
  refine PE_mono (pe_var hN hv hd hcd) fun sv H Q ⟨Z, loc, s, r, h⟩ => ?_
  unfold fVar at h
  split at h
  · rename_i y e
    obtain ⟨v, h1, h2⟩ := r.vl i y e
    exact ⟨v, h1, h.val r h2⟩
  · rename_i o e
    obtain ⟨a, h1, _⟩ := r.ow i o e
    exact ⟨_, h1, h Z loc H _ (Ext.refl _ _) r h1⟩
  · exact h.elim
theorem v_const {d : D} {v : V} (he : PE X e (tC v)) (hd : ∀ Z, RepD C.cA Z d v) : PE X e (TEx C (fD d)) :=
  PE_mono he fun sv H Q ⟨Z, loc, s, r, h⟩ => EPost.okv h r (hd Z)
theorem core2 {r : R2} {g : RV → RV → State → Res RV} (hs : OpS C g r) {Q : VK} (h : TEx C (ev2 fa fb g) sv H Q) : tOp r (TEx C fa) (TEx C fb) sv H Q := by
  obtain ⟨Z, loc, s, r0, h⟩ := h
  refine (TEx.evE r0 h).imp fun u H1 ⟨Z1, l1, s1, x, g1, r1, st1, q1, h1⟩ => ?_
  refine (TEx.evE r1 h1).imp fun v H2 ⟨Z2, l2, s2, y, g2, r2, st2, q2, h2⟩ => ?_
  exact hs Z2 l2 s2 sv H2 x y u v Q r2 (q1.mono g2 st1) q2 h2
theorem v_bin (op : Bop) (ha : PE X a (TEx C fa)) (hb : PE X b (TEx C fb)) : PE X (.BinOp a op.py b pos) (TEx C (ev2 fa fb (binop op))) := by
  obtain ⟨r, ho, hs⟩ := bop_ok (C := C) (X := X) op
  exact PE_mono (pe_op ho ha hb) fun sv H Q h => core2 hs h
theorem cmpS {op : Cop} {r : R2} (hs : CmS C (cmpop op) r) : OpS C (fCmp op) r := by
  intro Z loc s sv H x y u v Q r0 hx hy h
  unfold fCmp at h
  split at h
  · rename_i b e
    exact hs Z loc s sv H x y u v b Q r0 hx hy e (h.okv r0 rfl)
  · exact h.elim
theorem v_cmp (hu : X.A.units + 64 < cLine) (op : Cop) (ha : PE X a (TEx C fa)) (hb : PE X b (TEx C fb)) (hm : notSet b = true) : PE X (.Compare a [op.py] [b] pos) (TEx C (ev2 fa fb (fCmp op))) := by
  obtain ⟨r, ho, hs⟩ := cop_ok (C := C) hu op
  exact PE_mono (pe_cmpR ho ha hb (marks_ok hm)) fun sv H Q h => core2 (cmpS hs) h
theorem toB {f : State → Res RV} {Q : Bool → Hp → Prop} (h : TBx C (evB f) sv H Q) : TEx C f sv H (fun x H' => ∃ k, x = .bl k ∧ Q k H') := by
  obtain ⟨Z, loc, s, r0, h⟩ := h
  refine (TEx.evB' r0 h).imp fun u H1 ⟨Z1, l1, s1, x, g1, r1, st1, q1, h1⟩ => ?_
  unfold asB at h1
  split at h1
  · rename_i b e
    exact ⟨b, r1.dv q1 e, h1 Z1 l1 H1 (Ext.refl _ _) r1⟩
  · exact h1.elim
theorem v_tst (h : PE X e (TEx C f)) (he : plainTest e = true) : PT X e (TBx C (evB f)) :=
  PT_mono (pt_val h (tst_ok he)) fun sv H Q q => toB q
theorem v_tcmp (hu : X.A.units + 64 < cLine) (op : Cop) (ha : PE X a (TEx C fa)) (hb : PE X b (TEx C fb)) (hm : notSet b = true) : PT X (.Compare a [op.py] [b] pos) (TBx C (evB (ev2 fa fb (fCmp op)))) := by
  obtain ⟨r, ho, hs⟩ := cop_ok (C := C) hu op
  exact PT_mono (pt_cmpR ho ha hb (marks_ok hm)) fun sv H Q q => core2 (cmpS hs) (toB q)
/-- a < b < c -/
def ev3 (fa fb fc : State → Res RV) (g g' : RV → RV → State → Res RV) (s : State) : Res RV :=
  (ev fa s).bind fun x s => (ev fb s).bind fun y s => (g x y s).bind fun z s => (asB z s).bind fun k s => if k = true then (ev fc s).bind fun w s => g' y w s else okv (.bl false) s
def BoolS (C : Cst) (f : RV → RV → State → Res RV) : Prop := ∀ x y s, (∃ b, f x y s = okv (.bl b) s) ∨ f x y s = .stuck
theorem cmpB {op : Cop} : BoolS C (fCmp op) := by
  intro x y s
  unfold fCmp
  split
  · exact .inl ⟨_, rfl⟩
  · exact .inr rfl
theorem core3 {r r' : R2} {g g' : RV → RV → State → Res RV} (hs : OpS C g r) (hs' : OpS C g' r') (hb : BoolS C g) {Q : VK} (h : TEx C (ev3 fa fb fc g g') sv H Q) : tChain r r' (TEx C fa) (TEx C fb) (TEx C fc) sv H Q := by
  obtain ⟨Z, loc, s, r0, h⟩ := h
  refine (TEx.evE r0 h).imp fun u H1 ⟨Z1, l1, s1, x, g1, r1, st1, q1, h1⟩ => ?_
  refine (TEx.evE r1 h1).imp fun v H2 ⟨Z2, l2, s2, y, g2, r2, st2, q2, h2⟩ => ?_
  have q1' := q1.mono (s' := s2) (H' := H2) g2 st1
  rcases hb x y s2 with ⟨k, e⟩ | e
  · rw [e] at h2
    refine hs Z2 l2 s2 sv H2 x y u v _ r2 q1' q2 ?_
    rw [e]
    intro Z3 l3 H3 z g3 r3 q3
    refine ⟨k, q3, ?_⟩
    simp only [okv, Res.bind_ok, asB, dv, nrm] at h2
    cases k with
    | true =>
      rw [if_pos rfl] at h2 ⊢
      refine (TEx.evE r3 (h2.ext g3)).imp fun w H4 ⟨Z4, l4, s4, z', g4, r4, st4, q4, h4⟩ => ?_
      exact hs' Z4 l4 s4 sv H4 y z' v w Q r4 (q2.mono (g3.trans g4) st2) q4 h4
    | false =>
      rw [if_neg Bool.false_ne_true] at h2 ⊢
      exact EPost.okv (h2.ext g3) r3 rfl
  · rw [e] at h2
    exact h2.elim
theorem last_ok {op op' : Cop} (hm : notSet c = true) : lastMarks [op.py, op'.py] [b, c] = false := marks_ok hm
theorem v_chain (hu : X.A.units + 64 < cLine) (op op' : Cop) (ha : PE X a (TEx C fa)) (hb : PE X b (TEx C fb)) (hc : PE X c (TEx C fc)) (hm : notSet c = true) : PE X (.Compare a [op.py, op'.py] [b, c] pos) (TEx C (ev3 fa fb fc (fCmp op) (fCmp op'))) := by
  obtain ⟨r, ho, hs⟩ := cop_ok (C := C) hu op
  obtain ⟨r', ho', hs'⟩ := cop_ok (C := C) hu op'
  exact PE_mono (pe_chain ho ho' ha hb hc (last_ok hm)) fun sv H Q h => core3 (cmpS hs) (cmpS hs') (cmpB (C := C)) h
theorem v_tchain (hu : X.A.units + 64 < cLine) (op op' : Cop) (ha : PE X a (TEx C fa)) (hb : PE X b (TEx C fb)) (hc : PE X c (TEx C fc)) (hm : notSet c = true) : PT X (.Compare a [op.py, op'.py] [b, c] pos) (TBx C (evB (ev3 fa fb fc (fCmp op) (fCmp op')))) := by
  obtain ⟨r, ho, hs⟩ := cop_ok (C := C) hu op
  obtain ⟨r', ho', hs'⟩ := cop_ok (C := C) hu op'
  exact PT_mono (pt_chain ho ho' ha hb hc (last_ok hm)) fun sv H Q h => core3 (cmpS hs) (cmpS hs') (cmpB (C := C)) (toB h)
theorem v_and1 (h : PT X e (TBx C ft)) : PW X (.BoolOp .And [e] pos) (TBx C (fAnd [ft])) := pw_and1 h
theorem v_or1 (h : PT X e (TBx C ft)) : PW X (.BoolOp .Or [e] pos) (TBx C (fOr [ft])) := pw_or1 h
theorem v_and {ft2 : State → Res Bool} {fr : List (State → Res Bool)} (h : PT X e (TBx C ft)) (h2 : PW X (.BoolOp .And (a :: es) pos) (TBx C (fAnd (ft2 :: fr)))) : PW X (.BoolOp .And (e :: a :: es) pos) (TBx C (fAnd (ft :: ft2 :: fr))) := by
  refine ⟨fun wh pins t sv H Q I q => (pw_and h h2).run wh pins t sv H Q I ?_⟩
  obtain ⟨Z, loc, s, r0, q⟩ := q
  refine ⟨Z, loc, s, r0, ?_⟩
  show BPost C Z loc sv (ft s) _
  have q : BPost C Z loc sv ((ft s).bind fun b s => if b = true then fAnd (ft2 :: fr) s else .ok false s) Q := q
  cases e : ft s with
  | stuck => rw [e] at q; exact q
  | exc x s' => rw [e] at q; exact q
  | ok b s' =>
    rw [e] at q
    intro Z1 l1 H1 g1 r1
    cases b with
    | true => exact ⟨Z1, l1, s', r1, BPost.ext q g1⟩
    | false => exact BPost.ext (show BPost C Z loc sv (.ok false s') Q from q) g1 Z1 l1 H1 (Ext.refl _ _) r1
theorem v_or {ft2 : State → Res Bool} {fr : List (State → Res Bool)} (h : PT X e (TBx C ft)) (h2 : PW X (.BoolOp .Or (a :: es) pos) (TBx C (fOr (ft2 :: fr)))) : PW X (.BoolOp .Or (e :: a :: es) pos) (TBx C (fOr (ft :: ft2 :: fr))) := by
  refine ⟨fun wh pins t sv H Q I q => (pw_or h h2).run wh pins t sv H Q I ?_⟩
  obtain ⟨Z, loc, s, r0, q⟩ := q
  refine ⟨Z, loc, s, r0, ?_⟩
  show BPost C Z loc sv (ft s) _
  have q : BPost C Z loc sv ((ft s).bind fun b s => if b = true then .ok true s else fOr (ft2 :: fr) s) Q := q
  cases e : ft s with
  | stuck => rw [e] at q; exact q
  | exc x s' => rw [e] at q; exact q
  | ok b s' =>
    rw [e] at q
    intro Z1 l1 H1 g1 r1
    cases b with
    | false => exact ⟨Z1, l1, s', r1, BPost.ext q g1⟩
    | true => exact BPost.ext (show BPost C Z loc sv (.ok true s') Q from q) g1 Z1 l1 H1 (Ext.refl _ _) r1
theorem v_not (h : PT X e (TBx C ft)) : PT X (.UnaryOp .Not e pos) (TBx C (fNot ft)) := by
  refine PT_mono (pt_not h) fun sv H Q q => ?_
  obtain ⟨Z, loc, s, r0, q⟩ := q
  unfold fNot at q
  refine ⟨Z, loc, s, r0, ?_⟩
  cases e : ft s with
  | stuck => rw [e] at q; exact q
  | exc x s' => rw [e] at q; exact q
  | ok b s' => rw [e] at q; exact q
end
end Vw
namespace Vw
open PySem L2 PyProof.Rows

def fNotV (f : State → Res RV) (s : State) : Res RV := (evB f s).bind fun b s => okv (.bl (!b)) s
def fIf (t : State → Res Bool) (a b : State → Res RV) (s : State) : Res RV := (t s).bind fun k s => if k = true then a s else b s
/-- an item by its place -/
def ixv (x y : RV) (s : State) : Res RV :=
  match dget s x y with
  | some (some v) => .ok (.val v) s
  | some none => .stuck
  | none => match dv s x, dv s y with
    | some (.str t), some (.int i) => if t.length ≤ sizeLine then match atI t i with
      | some c => okv (.str [c]) s
      | none => .stuck else .stuck
    | _, some (.int i) => match lv s x, tv s x with
      | some l, _ => match atI l i with
        | some v => .ok (.val v) s
        | none => .stuck
      | none, some l => match atI l i with
        | some v => .ok (.val v) s
        | none => .stuck
      | none, none => .stuck
    | _, _ => .stuck
/-- a part of a slice -/
inductive Par where
  | no
  | ex (f : State → Res RV)
def asI (r : RV) (s : State) : Res (Option Int) :=
  match dv s r with
  | some (.int i) => .ok (some i) s
  | _ => .stuck
def evP : Par → State → Res (Option Int)
  | .no, s => .ok none s
  | .ex f, s => (ev f s).bind asI
def cutL {α : Type} (l : List α) (lo hi : Option Int) : List α := (l.drop (HT.sIx l.length 0 lo)).take (HT.sIx l.length l.length hi - HT.sIx l.length 0 lo)
def slv (x : RV) (lo hi : Option Int) (s : State) : Res RV :=
  match dv s x with
  | some (.str t) => if t.length ≤ sizeLine then okv (.str (cutL t lo hi)) s else .stuck
  | _ => match lv s x with
    | some l => .ok (.new (.lst (cutL l lo hi))) s
    | none => match tv s x with
      | some l => if (cutL l lo hi).length = l.length then .stuck else .ok (.val (mkTup (cutL l lo hi))) s
      | none => .stuck
def fSl (f : State → Res RV) (lo hi : Par) (s : State) : Res RV :=
  (ev f s).bind fun x s => (evP lo s).bind fun l s => (evP hi s).bind fun h s => slv x l h s

section
variable {C : Cst} {Z Z' : Hp} {loc loc' : List Addr} {s s' : State} {sv : L2.St} {H : Hp}
variable {X : Cx} {e a b c : Expr} {es : List Expr} {pos : Pos} {f fa fb fc : State → Res RV} {ft : State → Res Bool}
theorem v_and1v (h : PE X e (TEx C f)) : PE X (.BoolOp .And [e] pos) (TEx C (fAndV [f])) := PE_mono (pe_one h) fun sv H Q ⟨Z, loc, s, r, q⟩ => by
  have q : EPost C Z loc sv ((ev f s).bind fun x s => .ok x s) Q := by
    have e1 : ((ev f s).bind fun x s => .ok x s) = fAndV [f] s := by
      show _ = ev f s
      cases ev f s <;> rfl
    rw [e1]; exact q
  exact (TEx.evE r q).imp fun v H1 ⟨Z1, l1, s1, x, g1, r1, st1, q1, h1⟩ => h1 Z1 l1 H1 v (Ext.refl _ _) r1 q1
theorem v_or1v (h : PE X e (TEx C f)) : PE X (.BoolOp .Or [e] pos) (TEx C (fOrV [f])) := PE_mono (pe_one h) fun sv H Q ⟨Z, loc, s, r, q⟩ => by
  have q : EPost C Z loc sv ((ev f s).bind fun x s => .ok x s) Q := by
    have e1 : ((ev f s).bind fun x s => .ok x s) = fOrV [f] s := by
      show _ = ev f s
      cases ev f s <;> rfl
    rw [e1]; exact q
  exact (TEx.evE r q).imp fun v H1 ⟨Z1, l1, s1, x, g1, r1, st1, q1, h1⟩ => h1 Z1 l1 H1 v (Ext.refl _ _) r1 q1
/-- f gives a truth value, then what follows -/
theorem TEx.evBE {f : State → Res RV} {k : Bool → State → Res RV} {Q : VK} (r : SR C Z loc s sv H) (h : EPost C Z loc sv ((evB f s).bind k) Q) :
    TEx C f sv H (fun x H' => ∃ c, x = .bl c ∧ ∃ Z' loc' s', Ext Z loc Z' loc' ∧ SR C Z' loc' s' sv H' ∧ EPost C Z' loc' sv (k c s') Q) := by
  unfold evB at h
  rw [Res.bind_assoc] at h
  refine (TEx.evE r h).imp fun v H1 ⟨Z1, l1, s1, x, g1, r1, st1, q1, h1⟩ => ?_
  unfold asB at h1
  split at h1
  · rename_i b e
    exact ⟨b, r1.dv q1 e, Z1, l1, s1, g1, r1, h1⟩
  · exact h1.elim
theorem v_andv {f2 : State → Res RV} {fr : List (State → Res RV)} (h : PE X e (TEx C f)) (h2 : PE X (.BoolOp .And (a :: es) pos) (TEx C (fAndV (f2 :: fr)))) : PE X (.BoolOp .And (e :: a :: es) pos) (TEx C (fAndV (f :: f2 :: fr))) := by
  refine PE_mono (pe_and h h2) fun sv H Q ⟨Z, loc, s, r, q⟩ => ?_
  have q : EPost C Z loc sv ((evB f s).bind fun b s => if b = true then fAndV (f2 :: fr) s else okv (.bl false) s) Q := q
  refine (TEx.evBE r q).imp fun v H1 ⟨c, e1, Z1, l1, s1, g1, r1, h1⟩ => ⟨c, e1, ?_⟩
  cases c with
  | true => exact ⟨Z1, l1, s1, r1, h1⟩
  | false => exact EPost.okv h1 r1 rfl
theorem v_orv {f2 : State → Res RV} {fr : List (State → Res RV)} (h : PE X e (TEx C f)) (h2 : PE X (.BoolOp .Or (a :: es) pos) (TEx C (fOrV (f2 :: fr)))) : PE X (.BoolOp .Or (e :: a :: es) pos) (TEx C (fOrV (f :: f2 :: fr))) := by
  refine PE_mono (pe_or h h2) fun sv H Q ⟨Z, loc, s, r, q⟩ => ?_
  have q : EPost C Z loc sv ((evB f s).bind fun b s => if b = true then okv (.bl true) s else fOrV (f2 :: fr) s) Q := q
  refine (TEx.evBE r q).imp fun v H1 ⟨c, e1, Z1, l1, s1, g1, r1, h1⟩ => ⟨c, e1, ?_⟩
  cases c with
  | false => exact ⟨Z1, l1, s1, r1, h1⟩
  | true => exact EPost.okv h1 r1 rfl
theorem v_notv (h : PE X e (TEx C f)) : PE X (.UnaryOp .Not e pos) (TEx C (fNotV f)) := by
  refine PE_mono (pe_not h) fun sv H Q ⟨Z, loc, s, r, q⟩ => ?_
  exact (TEx.evBE r q).imp fun v H1 ⟨c, e1, Z1, l1, s1, g1, r1, h1⟩ => ⟨c, e1, EPost.okv h1 r1 rfl⟩
theorem v_ifx (ht : PT X c (TBx C ft)) (ha : PE X a (TEx C fa)) (hb : PE X b (TEx C fb)) : PE X (.IfExp c a b pos) (TEx C (fIf ft fa fb)) := by
  refine PE_mono (pe_ifExp ht ha hb) fun sv H Q ⟨Z, loc, s, r, q⟩ => ?_
  refine (TBx.bindE r q).imp fun k H1 ⟨Z1, l1, s1, g1, r1, h1⟩ => ?_
  cases k with
  | true => exact ⟨Z1, l1, s1, r1, h1⟩
  | false => exact ⟨Z1, l1, s1, r1, h1⟩
theorem v_neg (h : PE X e (TEx C f)) : PE X (.UnaryOp .USub e pos) (TEx C (fun s => (ev f s).bind bNeg)) := by
  refine PE_mono (pe_un un_neg h) fun sv H Q ⟨Z, loc, s, r, q⟩ => ?_
  refine (TEx.evE r q).imp fun v H1 ⟨Z1, l1, s1, x, g1, r1, st1, q1, h1⟩ => ?_
  unfold bNeg at h1
  split at h1
  · rename_i i e
    exact ⟨i, r1.dv q1 e, h1.okv r1 rfl⟩
  · exact h1.elim

theorem RVRs.mono (h : Ext Z loc Z' loc') {H' : Hp} : ∀ {rs : List RV} {vs : List V}, RVRs C Z loc s sv H rs vs → RVRs C Z' loc' s' sv H' rs vs
  | [], vs, q => q
  | x :: rs, vs, ⟨v, r, e, st, q, t⟩ => ⟨v, r, e, st, q.mono h st, RVRs.mono h t⟩
theorem v_nil : PA X [] (TAr C (evA [])) := PA_mono pa_nil fun sv H Q ⟨Z, loc, s, r, q⟩ => q Z loc H [] (Ext.refl _ _) r rfl
theorem v_cons {fr : List (State → Res RV)} (h : PE X e (TEx C f)) (hr : PA X es (TAr C (evA fr))) (hs : notStar e = true) : PA X (e :: es) (TAr C (evA (f :: fr))) := by
  refine PA_mono (pa_cons h hr (star_cons hs)) fun sv H Q ⟨Z, loc, s, r, q⟩ => ?_
  refine (TEx.evA' r q).imp fun v H1 ⟨Z1, l1, s1, x, g1, r1, st1, q1, h1⟩ => ?_
  refine ⟨Z1, l1, s1, r1, ?_⟩
  cases e1 : evA fr s1 with
  | stuck => rw [e1] at h1; exact h1
  | exc y s2 => rw [e1] at h1; exact h1
  | ok xs s2 =>
    rw [e1] at h1
    intro Z2 l2 H2 vs g2 r2 q2
    exact h1 Z2 l2 H2 (v :: vs) g2 r2 ⟨v, vs, rfl, st1, q1.mono g2 st1, q2⟩
theorem SR.capAll (r : SR C Z loc s sv H) : ∀ {rs : List RV} {vs : List V} {l : List Val}, RVRs C Z loc s sv H rs vs → capAll rs s = .ok l s' → ∃ Z', Ext Z loc Z' loc ∧ SR C Z' loc s' sv H ∧ RepVs C.cA Z' loc l vs := by
  intro rs
  induction rs generalizing Z s with
  | nil => intro vs l h e; cases e; exact ⟨Z, Ext.refl _ _, r, h⟩
  | cons x rs ih =>
    intro vs l h e
    obtain ⟨v, t, rfl, st, q, h⟩ := h
    unfold Vw.capAll at e
    cases e1 : Vw.cap x s with
    | stuck => rw [e1] at e; cases e
    | exc y s2 => exact absurd e1 cap_no
    | ok y s1 =>
      rw [e1] at e
      simp only [Res.bind_ok] at e
      obtain ⟨Z1, g1, r1, q1⟩ := r.cap q e1
      cases e2 : Vw.capAll rs s1 with
      | stuck => rw [e2] at e; cases e
      | exc y s2 => rw [e2] at e; cases e
      | ok ys s2 =>
        rw [e2] at e
        cases e
        obtain ⟨Z2, g2, r2, q2⟩ := ih r1 (h.mono g1) e2
        exact ⟨Z2, g1.trans g2, r2, v, t, rfl, q1.mono g2, q2⟩
theorem capAll_no : ∀ {rs : List RV} {s s1 : State} {x : Exn}, capAll rs s ≠ .exc x s1
  | [], s, s1, x => by simp [capAll]
  | r :: rs, s, s1, x => by
    unfold capAll
    cases e : cap r s with
    | stuck => simp
    | exc y s2 => exact absurd e cap_no
    | ok y s1 =>
      simp only [Res.bind_ok]
      cases e2 : capAll rs s1 with
      | stuck => simp
      | exc y s2 => exact absurd e2 capAll_no
      | ok ys s2 => simp
theorem mkTup_rep {l : List Val} {vs : List V} {p : Addr} (h : RepVs C.cA Z loc l vs) (hp : Z p = some (.tup vs)) : RepV C.cA Z loc (mkTup l) (.ref p) := by
  unfold mkTup
  split
  · rename_i ds e
    rw [toDs_inv e] at h
    exact ⟨p, vs, rfl, hp, rep_map.mp h⟩
  · exact ⟨p, vs, rfl, hp, h⟩
/-- a new tuple is absorbed at once -/
theorem EPost.tup {l : List Val} {vs : List V} {p : Addr} {Q : VK} (h : EPost C Z loc sv (.ok (.val (mkTup l)) s) Q) (r : SR C Z loc s sv H) (q : RepVs C.cA Z loc l vs) (np : H p = none) : Q (.ref p) (upd H p (.tup vs)) := by
  have r1 := (r.grow (same_upd np)).absorb (o := .tup vs) upd_same (r.free np)
  have g : Ext Z loc (upd Z p (.tup vs)) loc := Ext.z (same_upd (r.free np).z)
  exact h _ loc _ _ g r1 (mkTup_rep (RepVs.mono g l q) upd_same)
theorem v_tup {k : Nat} {fs : List (State → Res RV)} (h : PA X es (TAr C (evA fs))) : PE X (.Tuple es k pos) (TEx C (fun s => (evA fs s).bind bTup)) := by
  refine PE_mono (pe_tup h) fun sv H Q ⟨Z, loc, s, r, q⟩ => ?_
  refine (TAr.bindE r q).imp fun vs H1 ⟨Z1, l1, s1, rs, g1, r1, q1, h1⟩ => ?_
  unfold bTup at h1
  cases e : capAll rs s1 with
  | stuck => rw [e] at h1; exact h1.elim
  | exc y s2 => exact absurd e capAll_no
  | ok l s2 =>
    rw [e] at h1
    simp only [Res.bind_ok] at h1
    obtain ⟨Z2, g2, r2, q2⟩ := r1.capAll q1 e
    split at h1
    · rename_i hl
      exact ⟨by rw [← repVs_len q2]; exact hl, fun p np => (h1.ext g2).tup r2 q2 np⟩
    · exact h1.elim
theorem v_lst {fs : List (State → Res RV)} (h : PA X es (TAr C (evA fs))) : PE X (.List es pos) (TEx C (fun s => (evA fs s).bind bLst)) := by
  refine PE_mono (pe_lst h) fun sv H Q ⟨Z, loc, s, r, q⟩ => ?_
  refine (TAr.bindE r q).imp fun vs H1 ⟨Z1, l1, s1, rs, g1, r1, q1, h1⟩ => ?_
  unfold bLst at h1
  cases e : capAll rs s1 with
  | stuck => rw [e] at h1; exact h1.elim
  | exc y s2 => exact absurd e capAll_no
  | ok l s2 =>
    rw [e] at h1
    simp only [Res.bind_ok] at h1
    obtain ⟨Z2, g2, r2, q2⟩ := r1.capAll q1 e
    split at h1
    · rename_i hl
      exact ⟨by rw [← repVs_len q2]; exact hl, fun p np => (h1.ext g2).new r2 np (by simp) ⟨_, upd_same, q2⟩⟩
    · exact h1.elim

theorem repVs_get : ∀ {l : List Val} {xs : List V} {i : Nat} {x : Val}, RepVs C.cA Z loc l xs → l[i]? = some x → ∃ v, xs[i]? = some v ∧ RepV C.cA Z loc x v
  | [], xs, i, x, h, e => by simp at e
  | y :: l, xs, 0, x, ⟨v, r, e1, q, t⟩, e => by
    rw [e1]
    simp at e
    exact ⟨v, rfl, e ▸ q⟩
  | y :: l, xs, i + 1, x, ⟨v, r, e1, q, t⟩, e => by
    rw [e1]
    exact repVs_get (i := i) t (by simpa using e)
theorem repVs_at {l : List Val} {xs : List V} {i : Int} {x : Val} (h : RepVs C.cA Z loc l xs) (e : atI l i = some x) : ∃ v, atI xs i = some v ∧ RepV C.cA Z loc x v := by
  unfold atI at e ⊢
  rw [← repVs_len h]
  cases e1 : ixN l.length i with
  | none => rw [e1] at e; cases e
  | some j =>
    rw [e1] at e
    exact repVs_get h e
def rIxA (K : PySem.W.Frag) : R2 := fun x y H Q => rIxD x y H Q ∨ rIx K x y H Q
theorem ixv_ok : OpS C ixv (rIxA X.K) := by
  intro Z loc s sv H x y u v Q r hx hy h
  unfold ixv at h
  split at h
  · rename_i w e
    obtain ⟨a, o, h1, h2, h3⟩ := r.dget hx hy e
    cases o with
    | none => exact h3.elim
    | some z => exact .inl ⟨a, z, h1, h2, h.val r h3⟩
  · exact h.elim
  · split at h
    · rename_i t i e1 e2
      split at h
      · rename_i hl
        split at h
        · rename_i c e3
          exact .inr (.inr (.inr ⟨⟨t.toArray⟩, i, c, r.dv hx e1, r.dv hy e2, by simpa [Str.length] using hl, by simpa using e3, h.okv r rfl⟩))
        · exact h.elim
      · exact h.elim
    · rename_i i e2 _
      split at h
      · rename_i l e3
        split at h
        · rename_i w e4
          obtain ⟨a, xs, h1, h2, h3⟩ := r.lv hx e3
          obtain ⟨z, h4, h5⟩ := repVs_at h3 e4
          exact .inr (.inl ⟨a, xs, i, z, h1, r.dv hy e2, .inl h2, h4, h.val r h5⟩)
        · exact h.elim
      · rename_i l e3
        split at h
        · rename_i w e4
          obtain ⟨a, xs, h1, h2, h3⟩ := r.tv hx e3
          obtain ⟨z, h4, h5⟩ := repVs_at h3 e4
          exact .inr (.inr (.inl ⟨a, xs, i, z, h1, r.dv hy e2, .inl (.inl h2), h4, h.val r h5⟩))
        · exact h.elim
      · exact h.elim
    · exact h.elim
theorem v_ix (hu : X.A.units + 64 < cLine) (ha : PE X a (TEx C fa)) (hb : PE X b (TEx C fb)) (hs : notSlice b = true) : PE X (.Subscript a b pos) (TEx C (ev2 fa fb ixv)) :=
  PE_mono (pe_ix ((h_ixd hu).or ix_seq) ha hb (plainIx_ok hs)) fun sv H Q h => core2 ixv_ok h
def TPa (C : Cst) (p : Par) : TO := fun sv H Q => ∃ Z loc s, SR C Z loc s sv H ∧ match evP p s with
  | .ok o s' => ∀ Z' loc' H', Ext Z loc Z' loc' → SR C Z' loc' s' sv H' → Q o H'
  | .exc x s' => ∀ Z' loc' H' c d, Ext Z loc Z' loc' → SR C Z' loc' s' sv H' → XRep C Z' H' x c d → C.W c d sv H'
  | .stuck => False
theorem v_pno : PO X none (TPa C .no) := ⟨fun pins t sv H Q I ⟨Z, loc, s, r, h⟩ => po_none.run pins t sv H Q I (h Z loc H (Ext.refl _ _) r)⟩
theorem v_pex (h : PE X e (TEx C f)) : PO X (some e) (TPa C (.ex f)) := by
  refine ⟨fun pins t sv H Q I ⟨Z, loc, s, r, q⟩ => (po_some h).run pins t sv H Q I ?_⟩
  unfold evP at q
  dsimp only at q
  refine TEx.evG (f := f) (PO := fun Z loc (t : Res (Option Int)) => match t with
    | .ok o s' => ∀ Z' loc' H', Ext Z loc Z' loc' → SR C Z' loc' s' sv H' → Q o H'
    | .exc x s' => ∀ Z' loc' H' c d, Ext Z loc Z' loc' → SR C Z' loc' s' sv H' → XRep C Z' H' x c d → C.W c d sv H'
    | .stuck => False) r q (fun Z1 l1 t g q => ?_) (fun _ _ q => q) (fun q => q) fun v H1 ⟨Z1, l1, s1, x, g1, r1, st1, q1, h1⟩ => ?_
  · cases t with
    | ok o s' => exact fun Z2 l2 H2 g2 => q Z2 l2 H2 (g.trans g2)
    | exc x s' => exact fun Z2 l2 H2 c d g2 => q Z2 l2 H2 c d (g.trans g2)
    | stuck => exact q
  · have key : (∃ i, dv s1 x = some (.int i) ∧ asI x s1 = .ok (some i) s1) ∨ asI x s1 = .stuck := by
      unfold asI
      split
      · rename_i i e
        exact .inl ⟨i, e, rfl⟩
      · exact .inr rfl
    rcases key with ⟨i, e1, e2⟩ | e2
    · rw [e2] at h1
      exact ⟨i, r1.dv q1 e1, h1 Z1 l1 H1 (Ext.refl _ _) r1⟩
    · rw [e2] at h1
      exact h1.elim
theorem repVs_drop : ∀ {l : List Val} {xs : List V} (n : Nat), RepVs C.cA Z loc l xs → RepVs C.cA Z loc (l.drop n) (xs.drop n)
  | l, xs, 0, h => h
  | [], xs, n + 1, h => by rw [show xs = _ from h]; exact rfl
  | x :: l, xs, n + 1, ⟨v, r, e, q, t⟩ => by rw [e]; exact repVs_drop n t
theorem repVs_take : ∀ {l : List Val} {xs : List V} (n : Nat), RepVs C.cA Z loc l xs → RepVs C.cA Z loc (l.take n) (xs.take n)
  | l, xs, 0, h => rfl
  | [], xs, n + 1, h => by rw [show xs = _ from h]; exact rfl
  | x :: l, xs, n + 1, ⟨v, r, e, q, t⟩ => by rw [e]; exact ⟨v, r.take n, rfl, q, repVs_take n t⟩
theorem repVs_cut {l : List Val} {xs : List V} {lo hi : Option Int} (h : RepVs C.cA Z loc l xs) : RepVs C.cA Z loc (cutL l lo hi) (cutV xs lo hi) := by
  unfold cutL cutV
  rw [← repVs_len h]
  exact repVs_take _ (repVs_drop _ h)
theorem v_sl {lo hi : Option Expr} {pl ph : Par} {p2 : Pos} (he : PE X e (TEx C f)) (hl : PO X lo (TPa C pl)) (hh : PO X hi (TPa C ph)) : PE X (.Subscript e (.Slice lo hi none p2) pos) (TEx C (fSl f pl ph)) := by
  refine PE_mono (pe_slice (sl_str.or (sl_list.or sl_tup)) he hl hh) fun sv H Q ⟨Z, loc, s, r, q⟩ => ?_
  refine (TEx.evE r q).imp fun v H1 ⟨Z1, l1, s1, x, g1, r1, st1, q1, h1⟩ => ?_
  have part : ∀ {p : Par} {k : Option Int → State → Res RV} {Z1 : Hp} {l1 : List Addr} {s1 : State} {H1 : Hp}, SR C Z1 l1 s1 sv H1 → EPost C Z1 l1 sv ((evP p s1).bind k) Q →
      TPa C p sv H1 fun o H2 => ∃ Z2 l2 s2, Ext Z1 l1 Z2 l2 ∧ SR C Z2 l2 s2 sv H2 ∧ EPost C Z2 l2 sv (k o s2) Q := by
    intro p k Z1 l1 s1 H1 r1 h
    refine ⟨Z1, l1, s1, r1, ?_⟩
    cases e : evP p s1 with
    | stuck => rw [e] at h; exact h
    | exc y s2 => rw [e] at h; exact h
    | ok o s2 => rw [e] at h; exact fun Z2 l2 H2 g2 r2 => ⟨Z2, l2, s2, g2, r2, EPost.ext h g2⟩
  have imp : ∀ {p : Par} {H1 : Hp} {Q1 Q2 : Option Int → Hp → Prop}, TPa C p sv H1 Q1 → (∀ o H, Q1 o H → Q2 o H) → TPa C p sv H1 Q2 := by
    rintro p H1 Q1 Q2 ⟨Z, loc, s, r, h⟩ m
    refine ⟨Z, loc, s, r, ?_⟩
    cases e : evP p s with
    | stuck => rw [e] at h; exact h
    | exc y s2 => rw [e] at h; exact h
    | ok o s2 => rw [e] at h; exact fun Z2 l2 H2 g2 r2 => m _ _ (h Z2 l2 H2 g2 r2)
  refine imp (part r1 h1) fun o1 H2 ⟨Z2, l2, s2, g2, r2, h2⟩ => ?_
  refine imp (part r2 h2) fun o2 H3 ⟨Z3, l3, s3, g3, r3, h3⟩ => ?_
  have q3 := q1.mono (s' := s3) (H' := H3) (g2.trans g3) st1
  unfold slv at h3
  split at h3
  · rename_i t e1
    split at h3
    · rename_i hz
      refine .inl ⟨⟨t.toArray⟩, r3.dv q3 e1, by simpa [Str.length] using hz, h3.okv r3 ?_⟩
      show V.str _ = V.str _
      simp [cutS, cutL, Str.length]
    · exact h3.elim
  · split at h3
    · rename_i l e1
      obtain ⟨a, xs, h4, h5, h6⟩ := r3.lv q3 e1
      exact .inr (.inl ⟨a, xs, h4, .inl h5, fun p np => h3.new r3 np (by simp) ⟨_, upd_same, repVs_cut h6⟩⟩)
    · split at h3
      · rename_i l e1
        obtain ⟨a, xs, h4, h5, h6⟩ := r3.tv q3 e1
        split at h3
        · exact h3.elim
        · rename_i hne
          refine .inr (.inr ⟨a, xs, h4, .inl (.inl h5), fun z => hne ?_, fun p np => h3.tup r3 (repVs_cut h6) np⟩)
          rw [← repVs_len h6] at z
          unfold cutL
          rw [z.1, z.2]
          simp
      · exact h3.elim
end
end Vw
namespace Vw
open PySem L2 PyProof.Rows

/-- a slot takes a value -/
def putS (i : Nat) : RV → State → Option State
  | .val x, s => some { s with sg := s.sg.set i (some (.v x)) }
  | .new o, s => some { s with sg := s.sg.set i (some (.own o)) }
  | .own j, s => match capt j s with
    | .ok x s => some { s with sg := s.sg.set i (some (.v x)) }
    | _ => none
/-- an object is written -/
def wr (r : RV) (o : Ob) (s : State) : State :=
  match nrm s r with
  | .own i => { s with sg := s.sg.set i (some (.own o)) }
  | .val (.r n) => { s with st := s.st.set n o }
  | _ => s
inductive Tg where
  | nm (i : Nat)
  | tp (l : List Tg)
mutual
def asgT : Tg → Val → State → Option State
  | .nm i, x, s => some { s with sg := s.sg.set i (some (.v x)) }
  | .tp ts, x, s => match tv s (.val x) with
    | some l => if l.length = ts.length then asgTs ts l s else none
    | none => none
def asgTs : List Tg → List Val → State → Option State
  | [], [], s => some s
  | t :: ts, x :: xs, s => match asgT t x s with
    | some s => asgTs ts xs s
    | none => none
  | _, _, _ => none
end
def optF (o : Option State) : Res Fl :=
  match o with
  | some s => .ok .nx s
  | none => .stuck
def sAsg (i : Nat) (f : State → Res RV) (s : State) : Res Fl := (f s).bind fun r s => optF (putS i r s)
def sAsgT (t : Tg) (f : State → Res RV) (s : State) : Res Fl := (ev f s).bind fun r s => match cap r s with
  | .ok x s => optF (asgT t x s)
  | _ => .stuck
def sExpr (f : State → Res RV) (s : State) : Res Fl := (f s).bind fun _ s => .ok .nx s
def sRet (f : State → Res RV) (s : State) : Res Fl := (f s).bind fun r s => .ok (.ret r) s
def sIf (t : State → Res Bool) (a b : State → Res Fl) (s : State) : Res Fl := (t s).bind fun k s => if k = true then a s else b s
def sSeq : List (State → Res Fl) → State → Res Fl
  | [], s => .ok .nx s
  | f :: r, s => match f s with
    | .ok .nx s => sSeq r s
    | t => t
def sWh : Nat → (State → Res Bool) → (State → Res Fl) → State → Res Fl
  | 0, _, _, _ => .stuck
  | n + 1, t, b, s => (t s).bind fun k s => if k = true then (match b s with
      | .ok .nx s => sWh n t b s
      | .ok .cnt s => sWh n t b s
      | .ok .brk s => .ok .nx s
      | r => r) else .ok .nx s
def sForI (t : Tg) (b : State → Res Fl) : List Val → State → Res Fl
  | [], s => .ok .nx s
  | x :: r, s => match asgT t x s with
    | none => .stuck
    | some s => match b s with
      | .ok .nx s => sForI t b r s
      | .ok .cnt s => sForI t b r s
      | .ok .brk s => .ok .nx s
      | r => r
/-- o[i] = v, a list's or a dict's -/
def setI (o i : RV) (x : Val) (s : State) : Option State :=
  match ob s o, dv s i with
  | some (.lst l), some (.int k) => match ixN l.length k with
    | some j => some (wr o (.lst (l.set j x)) s)
    | none => none
  | some (.dic false l), some d => match key0 d with
    | some k => if l.length < sizeLine then some (wr o (.dic false (kput l k x)) s) else none
    | none => none
  | some (.dit false l), some (.tup d) => match keyT d with
    | some k => if l.length < sizeLine then some (wr o (.dit false (kput l k x)) s) else none
    | none => none
  | _, _ => none
def sSet (fo fi fv : State → Res RV) (s : State) : Res Fl :=
  (ev fv s).bind fun v s => (ev fo s).bind fun o s => (ev fi s).bind fun i s => match cap v s with
    | .ok x s => optF (setI o i x s)
    | _ => .stuck
def augf : Bop → Option (Int → Int → Int)
  | .add => some fun a b => a + b
  | .sub => some fun a b => a - b
  | _ => none
def sl (s : State) (i : Nat) : Option D :=
  match s.sg[i]? with
  | some (some (.v (.d x))) => some x
  | _ => none
def sAug (i : Nat) (op : Bop) (f : State → Res RV) (s : State) : Res Fl :=
  match augf op, sl s i with
  | some g, some (.int a) => (ev f s).bind fun y s => match dv s y with
    | some (.int b) => .ok .nx { s with sg := s.sg.set i (some (.v (.d (.int (g a b))))) }
    | _ => .stuck
  | _, _ => .stuck
def sPar (i j : Nat) (fa fb : State → Res RV) (s : State) : Res Fl :=
  (ev fa s).bind fun x s => (ev fb s).bind fun y s => match cap x s with
    | .ok a s => match cap y s with
      | .ok b s => .ok .nx { s with sg := (s.sg.set i (some (.v a))).set j (some (.v b)) }
      | _ => .stuck
    | _ => .stuck

section
variable {C : Cst} {Z Z' : Hp} {loc loc' : List Addr} {s s' : State} {sv sv' : L2.St} {H H' : Hp}
theorem SR.unset (r : SR C Z loc s sv H) (i : Nat) (v : Option V) : SR C Z loc { s with sg := s.sg.set i none } (sv.set i v) H := by
  have r1 := r.drop i
  have key : ∀ {j : Nat} {x : Sl}, (s.sg.set i none)[j]? = some (some x) → (sv.set i v)[j]? = sv[j]? := fun {j x} h => by
    rcases set_get h with ⟨_, q⟩ | ⟨ne, q⟩
    · cases q
    · rw [List.getElem?_set_ne ne]
  refine ⟨r1.fr, r1.zh, r1.zf, r1.lk, r1.ln, r1.nd, r1.lh, r1.cl, fun j x h => ?_, fun j o h => ?_, fun j k o o' a h1 h2 h3 h4 => ?_, by simpa using r1.ls⟩
  · rw [key h]; exact r1.vl j x h
  · rw [key h]; exact r1.ow j o h
  · rw [key h1] at h3; rw [key h2] at h4; exact r1.oi j k o o' a h1 h2 h3 h4
theorem SR.store (r : SR C Z loc s sv H) {i : Nat} (hi : i < sv.length) {x : Val} {v : V} (q : RepV C.cA Z loc x v) : SR C Z loc { s with sg := s.sg.set i (some (.v x)) } (sv.set i (some v)) H := by
  have := (r.unset i (some v)).setv (i := i) (v := v) (x := x) (by simp [hi]) q
  simpa [set_set'] using this
theorem SR.putS (r : SR C Z loc s sv H) {i : Nat} (hi : i < sv.length) {rv : RV} {v : V} (q : RVR C Z loc s sv H rv v) (e : putS i rv s = some s') : ∃ Z', Ext Z loc Z' loc ∧ SR C Z' loc s' (sv.set i (some v)) H := by
  cases rv with
  | val x => cases e; exact ⟨Z, Ext.refl _ _, r.store hi q⟩
  | own j =>
    unfold Vw.putS at e
    dsimp only at e
    split at e
    · rename_i x s1 e1
      cases e
      obtain ⟨Z1, g, r1, q1⟩ := r.capt q e1
      exact ⟨Z1, g, r1.store hi q1⟩
    · cases e
  | new o =>
    cases e
    obtain ⟨a, rfl, ne, h1, h2⟩ := q
    have r1 := r.unset i (some (.ref a))
    have f : Free C Z loc { s with sg := s.sg.set i none } (sv.set i (some (.ref a))) a := by
      refine ⟨h2.z, h2.f, h2.l, fun j ob h => ?_⟩
      rcases set_get h with ⟨_, q⟩ | ⟨ne', q⟩
      · cases q
      · rw [List.getElem?_set_ne ne']; exact h2.o j ob q
    have := r1.seto (i := i) (o := o) (a := a) (by simp [hi]) ne h1 f
    exact ⟨Z, Ext.refl _ _, by simpa [set_set'] using this⟩

/-- an object that no datum leans on has another content -/
theorem SR.write (r : SR C Z loc s sv H) {rv : RV} {v : V} {o o' : Ob} {a : Addr} {u : HO} (h : RVR C Z loc s sv H rv v) (e : Vw.ob s rv = some o) (ea : v = .ref a) (ne : o' ≠ .gone) (nf : ∀ x w, H a ≠ some (.frz x w))
    (q : Cell C.cA Z loc (upd H a u) a o') : SR C Z loc (wr rv o' s) sv (upd H a u) := by
  have q0 := r.nrm h
  have zz : Z a = none ∧ C.Fr a = none := by
    unfold Vw.ob at e
    split at e
    · rename_i i e1
      rw [e1] at q0
      split at e
      · rename_i o1 e2
        obtain ⟨b, h1, _, _, h4, h5, _⟩ := r.ow i _ e2
        rw [show sv[i]? = some (some v) from q0, ea] at h1
        cases h1
        exact ⟨h4, h5⟩
      · cases e
    · rename_i n e1
      rw [e1] at q0
      obtain ⟨b, h1, h2⟩ := q0
      rw [ea] at h2
      cases h2
      split at e
      · cases e
      · rename_i o1 ng e2
        exact ⟨(r.cl n a _ h1 e2 ng).2, (r.lh a (List.mem_of_getElem? h1)).2⟩
      · cases e
    · cases e
  have cellAt : ∀ {b : Addr} {ob : Ob}, b ≠ a → Cell C.cA Z loc H b ob → Cell C.cA Z loc (upd H a u) b ob := fun {b ob} hb x => x.at (upd_ne hb)
  have fr : Same C.Fr (upd H a u) := fun b x hx => by
    have hb : b ≠ a := fun z => by rw [z, zz.2] at hx; cases hx
    rw [upd_ne hb]; exact r.fr b x hx
  have zh : ∀ (b : Addr) (x : HO), Z b = some x → Rz (upd H a u) b x := fun b x hx => by
    have hb : b ≠ a := fun z => by rw [z, zz.1] at hx; cases hx
    unfold Rz
    rw [upd_ne hb]; exact r.zh b x hx
  have lk : ∀ (b : Addr) (x : Obj) (w : HO), C.H0 b = some (.frz x w) → upd H a u b = some (.frz x w) := fun b x w hx => by
    have hb : b ≠ a := fun z => nf x w (z ▸ r.lk b x w hx)
    rw [upd_ne hb]; exact r.lk b x w hx
  have lh : ∀ b ∈ loc, upd H a u b ≠ none ∧ C.Fr b = none := fun b hb => by
    refine ⟨?_, (r.lh b hb).2⟩
    by_cases hba : b = a
    · rw [hba, upd_same]; simp
    · rw [upd_ne hba]; exact (r.lh b hb).1
  unfold Vw.ob at e
  unfold wr
  split at e
  · rename_i i e1
    rw [e1] at q0
    split at e
    · rename_i o1 e2
      cases e
      have hi : sv[i]? = some (some (.ref a)) := by rw [← ea]; exact q0
      obtain ⟨b, h1, h2, h3, h4, h5, h6⟩ := r.ow i _ e2
      rw [hi] at h1
      cases h1
      try rw [e1]
      try dsimp only
      refine ⟨fr, zh, r.zf, lk, r.ln, r.nd, lh, fun n b ob g1 g2 g3 => ?_, fun j x g => ?_, fun j ob g => ?_, fun j k o1 o2 b g1 g2 g3 g4 => ?_, by simpa using r.ls⟩
      · have hb : b ≠ a := fun z => h6 (z ▸ List.mem_of_getElem? g1)
        exact ⟨cellAt hb (r.cl n b ob g1 g2 g3).1, (r.cl n b ob g1 g2 g3).2⟩
      · change (s.sg.set i _)[j]? = _ at g
        rcases set_get g with ⟨_, k⟩ | ⟨_, k⟩
        · cases k
        · exact r.vl j x k
      · change (s.sg.set i _)[j]? = _ at g
        rcases set_get g with ⟨rfl, k⟩ | ⟨nj, k⟩
        · cases k
          exact ⟨a, hi, ne, q, h4, h5, h6⟩
        · obtain ⟨b, f1, f2, f3, f4⟩ := r.ow j ob k
          have hb : b ≠ a := fun z => nj (r.oi i j _ ob a e2 k hi (z ▸ f1))
          exact ⟨b, f1, f2, cellAt hb f3, f4⟩
      · have pick : ∀ {j : Nat} {ob : Ob}, (s.sg.set i (some (.own o')))[j]? = some (some (.own ob)) → ∃ ob', s.sg[j]? = some (some (.own ob')) := fun {j ob} g => by
          rcases set_get g with ⟨rfl, _⟩ | ⟨_, k⟩
          · exact ⟨_, e2⟩
          · exact ⟨_, k⟩
        obtain ⟨p1, k1⟩ := pick g1
        obtain ⟨p2, k2⟩ := pick g2
        exact r.oi j k p1 p2 b k1 k2 g3 g4
    · cases e
  · rename_i n e1
    rw [e1] at q0
    obtain ⟨b, h1, h2⟩ := q0
    rw [ea] at h2
    cases h2
    try rw [e1]
    try dsimp only
    have hn : n < s.st.length := by rw [← r.ln]; exact (List.getElem?_eq_some_iff.mp h1).1
    refine ⟨fr, zh, r.zf, lk, by simpa using r.ln, r.nd, lh, fun m b ob g1 g2 g3 => ?_, r.vl, fun j ob g => ?_, r.oi, r.ls⟩
    · rcases set_get g2 with ⟨rfl, g⟩ | ⟨nm, g⟩
      · cases g
        rw [h1] at g1
        cases g1
        exact ⟨q, zz.1⟩
      · have hb : b ≠ a := fun z => by
          subst z
          obtain ⟨l1, e3⟩ := List.getElem?_eq_some_iff.mp h1
          obtain ⟨l2, e4⟩ := List.getElem?_eq_some_iff.mp g1
          exact nm ((List.getElem_inj r.nd).mp (e3.trans e4.symm))
        exact ⟨cellAt hb (r.cl m b ob g1 g g3).1, (r.cl m b ob g1 g g3).2⟩
    · obtain ⟨b, f1, f2, f3, f4, f5, f6⟩ := r.ow j ob g
      have hb : b ≠ a := fun z => f6 (z ▸ List.mem_of_getElem? h1)
      exact ⟨b, f1, f2, cellAt hb f3, f4, f5, f6⟩
  · cases e

theorem repVs_len' {l : List Val} {xs : List V} (h : RepVs C.cA Z loc l xs) : xs.length = l.length := (repVs_len h).symm
mutual
def tgS : Tg → List Nat
  | .nm i => [i]
  | .tp l => tgSs l
def tgSs : List Tg → List Nat
  | [] => []
  | t :: l => tgS t ++ tgSs l
end
/-- only these slots differ -/
def Off (l : List Nat) (a b : L2.St) : Prop := b.length = a.length ∧ ∀ j, j ∉ l → b[j]? = a[j]?
def TTg (C : Cst) (t : Tg) : TG := fun v sv H Q => ∃ Z loc s x, SR C Z loc s sv H ∧ RepV C.cA Z loc x v ∧ match asgT t x s with
  | some s' => ∀ sv', Off (tgS t) sv sv' → SR C Z loc s' sv' H → Q sv' H
  | none => False
def TTgs (C : Cst) (ts : List Tg) : TGs := fun vs sv H Q => ∃ Z loc s xs, SR C Z loc s sv H ∧ RepVs C.cA Z loc xs vs ∧ match asgTs ts xs s with
  | some s' => ∀ sv', Off (tgSs ts) sv sv' → SR C Z loc s' sv' H → Q sv' H
  | none => False
variable {X : Cx} {e a b c : Expr} {es : List Expr} {pos : Pos} {f fa fb fc fo fi fv : State → Res RV} {ft : State → Res Bool}
theorem PG_mono {t t' : TG} {e : Expr} (h : PG X e t) (m : ∀ v sv H Q, sv.length = X.N.length → t' v sv H Q → t v sv H Q) : PG X e t' := ⟨fun pins s sv H v u Q I r q => h.run pins s sv H v u Q I r (m v sv H Q I.len q)⟩
theorem PGs_mono {t t' : TGs} {e : List Expr} (h : PGs X e t) (m : ∀ v sv H Q, sv.length = X.N.length → t' v sv H Q → t v sv H Q) : PGs X e t' := ⟨fun pins s sv H v u Q I r q => h.run pins s sv H v u Q I r (m v sv H Q I.len q)⟩
theorem PS_mono' {st : Stmt} {t t' : TS} (h : PS X st t) (m : ∀ D sv H, sv.length = X.N.length → t' D sv H → t D sv H) : PS X st t' := ⟨fun pins s sv H D I q => h.run pins s sv H D I (m D sv H I.len q)⟩
theorem v_tgn {i : Nat} {x : Str} (hN : X.N.Nodup) (hi : X.N[i]? = some x) (hx : Loc X.env.scope x) (hf : X.fn x = true ∨ X.env.scope.names.lookup x = some .local) : PG X (.Name x pos) (TTg C (.nm i)) := by
  refine PG_mono (pg_name hN hi hx hf) fun v sv H Q hl ⟨Z, loc, s, y, r, q, h⟩ => ?_
  have hi' : i < sv.length := by rw [hl]; exact (List.getElem?_eq_some_iff.mp hi).1
  exact h _ ⟨List.length_set, fun j hj => List.getElem?_set_ne (fun e => hj (by simp [tgS, e]))⟩ (r.store hi' q)
theorem v_tgnil : PGs X [] (TTgs C []) := PGs_mono pgs_nil fun vs sv H Q hl ⟨Z, loc, s, xs, r, q, h⟩ => by
  cases xs with
  | nil => exact ⟨q, h sv ⟨rfl, fun _ _ => rfl⟩ r⟩
  | cons x xs => exact h.elim
theorem asg_cons {e : Expr} {es : List Expr} {env : Env} (h : notStar e = true) : assignEach (e :: es) env = (false, assign e env) :: assignEach es env := by
  cases e <;> first | rfl | cases h
theorem v_tgcons {t : Tg} {ts : List Tg} (h1 : PG X e (TTg C t)) (h2 : PGs X es (TTgs C ts)) (hs : notStar e = true) : PGs X (e :: es) (TTgs C (t :: ts)) := by
  refine PGs_mono (pgs_cons h1 h2 (by rw [asg_cons hs]; rfl)) fun vs sv H Q hl ⟨Z, loc, s, xs, r, q, h⟩ => ?_
  cases xs with
  | nil => exact h.elim
  | cons x xs =>
    obtain ⟨v, t', rfl, q1, q2⟩ := q
    refine ⟨v, t', rfl, Z, loc, s, x, r, q1, ?_⟩
    unfold asgTs at h
    cases e1 : asgT t x s with
    | none => rw [e1] at h; exact h
    | some s1 =>
      rw [e1] at h
      refine fun sv' o' r' => ⟨Z, loc, s1, xs, r', q2, ?_⟩
      dsimp only at h
      split at h
      · rename_i s2 e2
        exact fun sv2 o2 r2 => h sv2 ⟨o2.1.trans o'.1, fun j hj => (o2.2 j fun z => hj (by simp [tgSs, z])).trans (o'.2 j fun z => hj (by simp [tgSs, z]))⟩ r2
      · exact h.elim
theorem tgs_len : ∀ {es : List Expr} {env : Env}, (assignEach es env).length = es.length
  | [], _ => rfl
  | e :: es, env => by cases e <;> exact congrArg Nat.succ tgs_len
theorem tgs_idx : ∀ {es : List Expr} {env : Env}, es.all notStar = true → (assignEach es env).findIdx? (·.1) = none
  | [], _, _ => rfl
  | e :: es, env, h => by
    simp only [List.all_cons, Bool.and_eq_true] at h
    rw [asg_cons h.1, List.findIdx?_cons]
    simp [tgs_idx h.2]
theorem v_tgtup {k : Nat} {ts : List Tg} (hc : X.calm = true) (h : PGs X es (TTgs C ts)) (hs : es.all notStar = true) (hl : es.length = ts.length) : PG X (.Tuple es k pos) (TTg C (.tp ts)) := by
  refine PG_mono (pg_tup hc h (n := ts.length) (tgs_len.trans hl) (tgs_idx hs)) fun v sv H Q hl ⟨Z, loc, s, y, r, q, h⟩ => ?_
  unfold asgT at h
  cases e1 : tv s (.val y) with
  | none => rw [e1] at h; exact h.elim
  | some l =>
    rw [e1] at h
    dsimp only at h
    obtain ⟨a, xs, h1, h2, h3⟩ := r.tv (rv := .val y) q e1
    by_cases hlen : l.length = ts.length
    · rw [if_pos hlen] at h
      exact ⟨a, xs, h1, .inl (.inl h2), by rw [← repVs_len h3]; exact hlen, Z, loc, s, l, r, h3, h⟩
    · rw [if_neg hlen] at h; exact h.elim

theorem SPost.nx {D : Ends} (h : SPost C Z loc (.ok .nx s) D) (r : SR C Z loc s sv H) : D.nx sv H := h Z loc sv H (Ext.refl _ _) r
theorem v_pass : PS X (.Pass pos) (TSt C (fun s => .ok .nx s)) := PS_mono ps_pass fun D sv H ⟨Z, loc, s, r, h⟩ => h.nx r
theorem v_brk : PS X (.Break pos) (TSt C (fun s => .ok .brk s)) := PS_mono ps_break fun D sv H ⟨Z, loc, s, r, h⟩ => h Z loc sv H (Ext.refl _ _) r
theorem v_cnt : PS X (.Continue pos) (TSt C (fun s => .ok .cnt s)) := PS_mono ps_continue fun D sv H ⟨Z, loc, s, r, h⟩ => h Z loc sv H (Ext.refl _ _) r
theorem v_expr (h : PE X e (TEx C f)) (hc : notComp e = true) : PS X (.Expr e pos) (TSt C (sExpr f)) := by
  refine PS_mono (ps_expr h (swap_ok hc)) fun D sv H ⟨Z, loc, s, r, q⟩ => ?_
  exact (TEx.bindS r q).imp fun v H1 ⟨Z1, l1, s1, x, g1, r1, q1, h1⟩ => h1.nx r1
theorem v_ret (h : PE X e (TEx C f)) : PS X (.Return (some e) pos) (TSt C (sRet f)) := by
  refine PS_mono (ps_ret h) fun D sv H ⟨Z, loc, s, r, q⟩ => ?_
  exact (TEx.bindS r q).imp fun v H1 ⟨Z1, l1, s1, x, g1, r1, q1, h1⟩ => h1 Z1 l1 sv H1 v (Ext.refl _ _) r1 q1
theorem v_retn : PS X (.Return none pos) (TSt C (fun s => .ok (.ret (.val (.d .non))) s)) := PS_mono ps_retN fun D sv H ⟨Z, loc, s, r, h⟩ => h Z loc sv H .non (Ext.refl _ _) r rfl
theorem v_if {a b : List Stmt} {sa sb : State → Res Fl} (ht : PT X c (TBx C ft)) (ha : PSs X a (TSt C sa)) (hb : PSs X b (TSt C sb)) : PS X (.If c a b pos) (TSt C (sIf ft sa sb)) := by
  refine PS_mono (ps_if ht ha hb) fun D sv H ⟨Z, loc, s, r, q⟩ => ?_
  refine (TBx.bindS r q).imp fun k H1 ⟨Z1, l1, s1, g1, r1, h1⟩ => ?_
  cases k with
  | true => exact ⟨Z1, l1, s1, r1, h1⟩
  | false => exact ⟨Z1, l1, s1, r1, h1⟩
theorem v_snil : PSs X [] (TSt C (sSeq [])) := PSs_mono pss_nil fun D sv H ⟨Z, loc, s, r, h⟩ => h.nx r
theorem v_scons {st : Stmt} {sts : List Stmt} {g : State → Res Fl} {gs : List (State → Res Fl)} (h1 : PS X st (TSt C g)) (h2 : PSs X sts (TSt C (sSeq gs))) : PSs X (st :: sts) (TSt C (sSeq (g :: gs))) := by
  refine PSs_mono (pss_cons h1 h2) fun D sv H ⟨Z, loc, s, r, h⟩ => ?_
  refine ⟨Z, loc, s, r, ?_⟩
  unfold sSeq at h
  cases e : g s with
  | stuck => rw [e] at h; exact h
  | exc x s1 => rw [e] at h; exact h
  | ok k s1 =>
    rw [e] at h
    cases k with
    | nx => exact fun Z1 l1 sv1 H1 g1 r1 => ⟨Z1, l1, s1, r1, SPost.ext h g1⟩
    | ret rv => exact h
    | brk => exact h
    | cnt => exact h
theorem v_asg {i : Nat} {x : Str} {p : Pos} (hN : X.N.Nodup) (hi : X.N[i]? = some x) (hx : Loc X.env.scope x) (hf : X.fn x = true ∨ X.env.scope.names.lookup x = some .local) (h : PE X e (TEx C f)) (hc : notComp e = true) :
    PS X (.Assign [.Name x p] e pos) (TSt C (sAsg i f)) := by
  refine PS_mono' (ps_set hN hi hx h (swap_ok hc) hf) fun D sv H hl ⟨Z, loc, s, r, q⟩ => ?_
  have hi' : i < sv.length := by rw [hl]; exact (List.getElem?_eq_some_iff.mp hi).1
  refine (TEx.bindS r q).imp fun v H1 ⟨Z1, l1, s1, y, g1, r1, q1, h1⟩ => ?_
  show D.nx (sv.set i (some v)) H1
  unfold optF at h1
  split at h1
  · rename_i s2 e2
    obtain ⟨Z2, g2, r2⟩ := r1.putS hi' q1 e2
    exact (h1.ext g2).nx r2
  · exact h1.elim
def notTup : Expr → Bool
  | .Tuple .. => false
  | _ => true
theorem swp_ok {tg e : Expr} {env : Env} (h : notTup e = true) : swappedStores [tg] e env = pure none := by
  cases e <;> first | rfl | (cases tg <;> rfl) | cases h
theorem v_asgT {t : Tg} {tg : Expr} (h : PE X e (TEx C f)) (ht : PG X tg (TTg C t)) (hc : notComp e = true) (hn : notTup e = true) (hs : notStar tg = true) : PS X (.Assign [tg] e pos) (TSt C (sAsgT t f)) := by
  refine PS_mono' (ps_asg h ht (swap_ok hc) (swp_ok hn) (by rw [asg_cons hs]; rfl)) fun D sv H hl ⟨Z, loc, s, r, q⟩ => ?_
  refine (TEx.evS r q).imp fun v H1 ⟨Z1, l1, s1, y, g1, r1, st1, q1, h1⟩ => ?_
  cases e1 : cap y s1 with
  | stuck => rw [e1] at h1; exact h1.elim
  | exc x s2 => rw [e1] at h1; exact h1.elim
  | ok z s2 =>
    rw [e1] at h1
    dsimp only at h1
    obtain ⟨Z2, g2, r2, q2⟩ := r1.cap q1 e1
    refine ⟨Z2, l1, s2, z, r2, q2, ?_⟩
    cases e2 : asgT t z s2 with
    | none => rw [e2] at h1; exact h1
    | some s3 => rw [e2] at h1; exact fun sv' _ r' => SPost.nx (SPost.ext h1 g2) r'
end
end Vw
namespace Vw
open PySem L2 PyProof.Rows

section
variable {C : Cst} {Z Z' : Hp} {loc loc' : List Addr} {s s' : State} {sv sv' : L2.St} {H H' : Hp}
variable {X : Cx} {e a b c : Expr} {es : List Expr} {pos : Pos} {f fa fb fc fo fi fv : State → Res RV} {ft : State → Res Bool}
theorem h_dset (hu : X.A.units + 64 < cLine) : PSet X (fun o i v H Q => ∃ a H', o = .ref a ∧ DPut H a i v H' ∧ Q H') := by
  intro pins s sv H o i v ov iv u Q I ro ri rv ⟨a, H', e, g, q⟩
  subst e
  cases ro
  exact d_setItem (by omega) I g ri rv fun s' I' => ⟨H', I', q⟩
theorem PSet_or {t t' : TSet} (h : PSet X t) (h' : PSet X t') : PSet X (fun o i v H Q => t o i v H Q ∨ t' o i v H Q) := by
  intro pins s sv H o i v ov iv u Q I ro ri rv q
  rcases q with q | q
  · exact h pins s sv H o i v ov iv u Q I ro ri rv q
  · exact h' pins s sv H o i v ov iv u Q I ro ri rv q
theorem repVs_set : ∀ {l : List Val} {xs : List V} (j : Nat) {x : Val} {v : V}, RepVs C.cA Z loc l xs → RepV C.cA Z loc x v → RepVs C.cA Z loc (l.set j x) (xs.set j v)
  | [], xs, j, x, v, h, q => by rw [show xs = _ from h]; exact rfl
  | y :: l, xs, 0, x, v, ⟨w, t, e, q1, q2⟩, q => by rw [e]; exact ⟨v, t, rfl, q, q2⟩
  | y :: l, xs, j + 1, x, v, ⟨w, t, e, q1, q2⟩, q => by rw [e]; exact ⟨w, t.set j v, rfl, q1, repVs_set j q2 q⟩
theorem kput_eq {κ α : Type} [DecidableEq κ] (l : List (κ × α)) (k : κ) (v : α) : kput l k v = if l.any (fun p => decide (p.1 = k)) then l.map (fun p => if p.1 = k then (p.1, v) else p) else l ++ [(k, v)] := rfl
theorem anyK : ∀ {l : List (K0 × Val)} {ws : List (Key × V)} (k : K0), RepVKs C.cA Z loc l ws → (l.any fun p => decide (p.1 = k)) = ws.any fun p => decide (p.1 = kz k)
  | [], ws, k, h => by rw [show ws = _ from h]; rfl
  | (k', x) :: l, ws, k, ⟨v, t, e, q, r⟩ => by
    rw [e, List.any_cons, List.any_cons, anyK k r]
    congr 1
    by_cases h : k' = k
    · simp [h]
    · have h2 : ¬ kz k' = kz k := fun z => h (kz_inj z)
      simp [h, h2]
theorem anyT : ∀ {l : List (List K0 × Val)} {ws : List (List Key × V)} (k : List K0), RepVTs C.cA Z loc l ws → (l.any fun p => decide (p.1 = k)) = ws.any fun p => decide (p.1 = k.map kz)
  | [], ws, k, h => by rw [show ws = _ from h]; rfl
  | (k', x) :: l, ws, k, ⟨v, t, e, q, r⟩ => by
    rw [e, List.any_cons, List.any_cons, anyT k r]
    congr 1
    by_cases h : k' = k
    · simp [h]
    · have h2 : ¬ k'.map kz = k.map kz := fun z => h (map_kz_inj z)
      simp [h, h2]
theorem mapK : ∀ {l : List (K0 × Val)} {ws : List (Key × V)} (k : K0) {x : Val} {v : V}, RepVKs C.cA Z loc l ws → RepV C.cA Z loc x v →
    RepVKs C.cA Z loc (l.map fun p => if p.1 = k then (p.1, x) else p) (ws.map fun p => if p.1 = kz k then (p.1, v) else p)
  | [], ws, k, x, v, h, q => by rw [show ws = _ from h]; exact rfl
  | (k', y) :: l, ws, k, x, v, ⟨w, t, e, q1, r⟩, q => by
    rw [e, List.map_cons, List.map_cons]
    by_cases h : k' = k
    · rw [if_pos h, if_pos (by rw [h])]; exact ⟨v, _, rfl, q, mapK k r q⟩
    · rw [if_neg h, if_neg (fun z => h (kz_inj z))]; exact ⟨w, _, rfl, q1, mapK k r q⟩
theorem mapT : ∀ {l : List (List K0 × Val)} {ws : List (List Key × V)} (k : List K0) {x : Val} {v : V}, RepVTs C.cA Z loc l ws → RepV C.cA Z loc x v →
    RepVTs C.cA Z loc (l.map fun p => if p.1 = k then (p.1, x) else p) (ws.map fun p => if p.1 = k.map kz then (p.1, v) else p)
  | [], ws, k, x, v, h, q => by rw [show ws = _ from h]; exact rfl
  | (k', y) :: l, ws, k, x, v, ⟨w, t, e, q1, r⟩, q => by
    rw [e, List.map_cons, List.map_cons]
    by_cases h : k' = k
    · rw [if_pos h, if_pos (by rw [h])]; exact ⟨v, _, rfl, q, mapT k r q⟩
    · rw [if_neg h, if_neg (fun z => h (map_kz_inj z))]; exact ⟨w, _, rfl, q1, mapT k r q⟩
theorem appK : ∀ {l m : List (K0 × Val)} {ws us : List (Key × V)}, RepVKs C.cA Z loc l ws → RepVKs C.cA Z loc m us → RepVKs C.cA Z loc (l ++ m) (ws ++ us)
  | [], m, ws, us, h, q => by rw [show ws = _ from h]; exact q
  | (k, y) :: l, m, ws, us, ⟨w, t, e, q1, r⟩, q => by rw [e]; exact ⟨w, t ++ us, rfl, q1, appK r q⟩
theorem appT : ∀ {l m : List (List K0 × Val)} {ws us : List (List Key × V)}, RepVTs C.cA Z loc l ws → RepVTs C.cA Z loc m us → RepVTs C.cA Z loc (l ++ m) (ws ++ us)
  | [], m, ws, us, h, q => by rw [show ws = _ from h]; exact q
  | (k, y) :: l, m, ws, us, ⟨w, t, e, q1, r⟩, q => by rw [e]; exact ⟨w, t ++ us, rfl, q1, appT r q⟩
theorem putKr {l : List (K0 × Val)} {ws : List (Key × V)} (k : K0) {x : Val} {v : V} (h : RepVKs C.cA Z loc l ws) (q : RepV C.cA Z loc x v) : RepVKs C.cA Z loc (kput l k x) (putK ws (kz k) v) := by
  unfold kput putK
  rw [anyK k h]
  split
  · exact mapK k h q
  · exact appK h ⟨v, [], rfl, q, rfl⟩
theorem putTr {l : List (List K0 × Val)} {ws : List (List Key × V)} (k : List K0) {x : Val} {v : V} (h : RepVTs C.cA Z loc l ws) (q : RepV C.cA Z loc x v) : RepVTs C.cA Z loc (kput l k x) (putK ws (k.map kz) v) := by
  unfold kput putK
  rw [anyT k h]
  split
  · exact mapT k h q
  · exact appT h ⟨v, [], rfl, q, rfl⟩
theorem lenK : ∀ {l : List (K0 × Val)} {ws : List (Key × V)}, RepVKs C.cA Z loc l ws → l.length = ws.length
  | [], ws, h => by rw [show ws = _ from h]; rfl
  | (k, y) :: l, ws, ⟨w, t, e, q1, r⟩ => by rw [e, List.length_cons, List.length_cons, lenK r]
theorem lenT : ∀ {l : List (List K0 × Val)} {ws : List (List Key × V)}, RepVTs C.cA Z loc l ws → l.length = ws.length
  | [], ws, h => by rw [show ws = _ from h]; rfl
  | (k, y) :: l, ws, ⟨w, t, e, q1, r⟩ => by rw [e, List.length_cons, List.length_cons, lenT r]
def rSetA : TSet := fun o i v H Q => rSetL o i v H Q ∨ ∃ a H', o = .ref a ∧ DPut H a i v H' ∧ Q H'
theorem setI_ok (r : SR C Z loc s sv H) {o i : RV} {x : Val} {u k v : V} (ho : RVR C Z loc s sv H o u) (hi : RVR C Z loc s sv H i k) (hx : RepV C.cA Z loc x v) (e : setI o i x s = some s') {Q : Hp → Prop} (q : ∀ H', SR C Z loc s' sv H' → Q H') : rSetA u k v H Q := by
  unfold setI at e
  split at e
  · rename_i l n e1 e2
    split at e
    · rename_i j e3
      cases e
      obtain ⟨a, h1, _, xs, h2, h3⟩ := r.ob ho e1
      refine .inl ⟨a, xs, n, j, h1, r.dv hi e2, h2, by rw [← repVs_len h3]; exact e3, q _ ?_⟩
      exact r.write ho e1 h1 (by simp) (fun _ _ z => by rw [h2] at z; cases z) ⟨_, upd_same, repVs_set j h3 hx⟩
    · cases e
  · rename_i l d e1 e2
    split at e
    · rename_i k' e3
      split at e
      · rename_i hl
        cases e
        obtain ⟨a, h1, _, xs, h2, h3⟩ := r.ob ho e1
        have h2 : H a = some (.dK xs) := h2
        refine .inr ⟨a, _, h1, .inl ⟨xs, kz k', h2, kV_kz e3 (r.dv hi e2), by rw [← lenK h3]; exact hl, rfl⟩, q _ ?_⟩
        exact r.write ho e1 h1 (by simp) (fun _ _ z => by rw [h2] at z; cases z) ⟨_, upd_same, putKr k' h3 hx⟩
      · cases e
    · cases e
  · rename_i l d e1 e2
    split at e
    · rename_i k' e3
      split at e
      · rename_i hl
        cases e
        obtain ⟨a, h1, _, xs, h2, h3⟩ := r.ob ho e1
        have h2 : H a = some (.dT xs) := h2
        obtain ⟨b, vs, h4, h5, h6⟩ := r.dv hi e2
        have hb : H b = some (.tup ((k'.map kz).map kV)) := by
          rw [← kVs_kz e3 h6]
          exact (r.zh b _ h5).at rfl
        refine .inr ⟨a, _, h1, .inr ⟨xs, k'.map kz, b, h2, h4, hb, by rw [← lenT h3]; exact hl, rfl⟩, q _ ?_⟩
        exact r.write ho e1 h1 (by simp) (fun _ _ z => by rw [h2] at z; cases z) ⟨_, upd_same, putTr k' h3 hx⟩
      · cases e
    · cases e
  · cases e
theorem sub_asg {o i : Expr} {p : Pos} {env : Env} (h : notSlice i = true) : ∀ v, assign (.Subscript o i p) env v = (do
      let ov ← holding [v] (eval o env)
      let iv ← holding [v, ov] (eval i env)
      standAt p
      holding [v, ov, iv] (setItem ov iv v)
      release [v, ov, iv] []) := by
  intro v
  cases i <;> first | rfl | cases h
theorem sole_ok {t e : Expr} {n : Nat} {env : Env} (h : notComp e = true) : swapsWithSole [t] e n env = pure false := by
  cases e <;> first | rfl | cases h
theorem v_set {o i v : Expr} {p : Pos} (hu : X.A.units + 64 < cLine) (ho : PE X o (TEx C fo)) (hi : PE X i (TEx C fi)) (hv : PE X v (TEx C fv)) (hs : notSlice i = true) (hc : notComp v = true) :
    PS X (.Assign [.Subscript o i p] v pos) (TSt C (sSet fo fi fv)) := by
  refine PS_mono (ps_asg hv (pg_sub ho hi (PSet_or set_list (h_dset hu)) (sub_asg hs)) (sole_ok hc) (by cases v <;> rfl)) fun D sv H ⟨Z, loc, s, r, q⟩ => ?_
  refine (TEx.evS r q).imp fun x H1 ⟨Z1, l1, s1, y, g1, r1, st1, q1, h1⟩ => ?_
  show TEx C fo sv H1 _
  refine (TEx.evS r1 h1).imp fun u H2 ⟨Z2, l2, s2, y2, g2, r2, st2, q2, h2⟩ => ?_
  refine (TEx.evS r2 h2).imp fun k H3 ⟨Z3, l3, s3, y3, g3, r3, st3, q3, h3⟩ => ?_
  have q1' := q1.mono (s' := s3) (H' := H3) (g2.trans g3) st1
  have q2' := q2.mono (s' := s3) (H' := H3) g3 st2
  cases e1 : cap y s3 with
  | stuck => rw [e1] at h3; exact h3.elim
  | exc x s4 => rw [e1] at h3; exact h3.elim
  | ok z s4 =>
    rw [e1] at h3
    dsimp only at h3
    obtain ⟨Z4, g4, r4, q4⟩ := r3.cap q1' e1
    unfold optF at h3
    split at h3
    · rename_i s5 e5
      exact setI_ok r4 (q2'.mono (s' := s4) (H' := H3) g4 st2) (q3.mono (s' := s4) (H' := H3) g4 st3) q4 e5 fun H' r' => SPost.nx (SPost.ext h3 g4) r'
    · exact h3.elim
theorem v_aug {i : Nat} {x : Str} {p : Pos} (op : Bop) (hN : X.N.Nodup) (hi : X.N[i]? = some x) (hx : Loc X.env.scope x) (hf : X.fn x = true ∨ X.env.scope.names.lookup x = some .local) (h : PE X e (TEx C f)) :
    PS X (.AugAssign (.Name x p) op.py e pos) (TSt C (sAug i op f)) := by
  cases ha : augf op with
  | none =>
    refine PS_mono ps_never fun D sv H ⟨Z, loc, s, r, q⟩ => ?_
    unfold sAug at q
    rw [ha] at q
    exact q.elim
  | some g =>
    have hp : PIp X op.py (ipI g) := by
      cases op <;> simp [augf] at ha
      · subst ha; exact ip_add
      · subst ha; exact ip_sub
    refine PS_mono' (ps_aug hN hi hx h hp hf) fun D sv H hl ⟨Z, loc, s, r, q⟩ => ?_
    have hi' : i < sv.length := by rw [hl]; exact (List.getElem?_eq_some_iff.mp hi).1
    unfold sAug at q
    rw [ha] at q
    split at q
    · rename_i g' a hs hg
      cases hs
      unfold sl at hg
      split at hg
      · rename_i d e1
        cases hg
        obtain ⟨v, h1, h2⟩ := r.vl i _ e1
        refine ⟨v, h1, (TEx.evS r q).imp fun w H1 ⟨Z1, l1, s1, y, g1, r1, st1, q1, h3⟩ => ?_⟩
        split at h3
        · rename_i b e2
          exact ⟨a, b, h2, r1.dv q1 e2, h3.nx (r1.store hi' rfl)⟩
        · exact h3.elim
      · cases hg
    · exact q.elim
theorem v_par {i j : Nat} {x y : Str} {px py pt : Pos} {kt k2 : Nat} {pt2 : Pos} (hc : X.calm = true) (hN : X.N.Nodup) (hi : X.N[i]? = some x) (hj : X.N[j]? = some y) (hij : i ≠ j)
    (hx : X.env.scope.names.lookup x = some .local) (hy : X.env.scope.names.lookup y = some .local) (ha : PE X a (TEx C fa)) (hb : PE X b (TEx C fb)) (na : notStar a = true) (nb : notStar b = true)
    (hw : swappedStores [.Tuple [.Name x px, .Name y py] kt pt] (.Tuple [a, b] k2 pt2) X.env = pure (some [x, y])) :
    PS X (.Assign [.Tuple [.Name x px, .Name y py] kt pt] (.Tuple [a, b] k2 pt2) pos) (TSt C (sPar i j fa fb)) := by
  refine PS_mono' (ps_par hc hN hi hj hij hx hy (pa_cons ha (pa_cons hb pa_nil (star_cons nb)) (star_cons na)) hw rfl) fun D sv H hl ⟨Z, loc, s, r, q⟩ => ?_
  have hi' : i < sv.length := by rw [hl]; exact (List.getElem?_eq_some_iff.mp hi).1
  have hj' : j < sv.length := by rw [hl]; exact (List.getElem?_eq_some_iff.mp hj).1
  refine (TEx.evS r q).imp fun u H1 ⟨Z1, l1, s1, z, g1, r1, st1, q1, h1⟩ => ?_
  refine (TEx.evS r1 h1).imp fun v H2 ⟨Z2, l2, s2, w, g2, r2, st2, q2, h2⟩ => ?_
  refine ⟨u, v, rfl, ?_⟩
  have q1' := q1.mono (s' := s2) (H' := H2) g2 st1
  cases e1 : cap z s2 with
  | stuck => rw [e1] at h2; exact h2.elim
  | exc x s4 => rw [e1] at h2; exact h2.elim
  | ok x1 s3 =>
    rw [e1] at h2
    dsimp only at h2
    obtain ⟨Z3, g3, r3, q3⟩ := r2.cap q1' e1
    cases e2 : cap w s3 with
    | stuck => rw [e2] at h2; exact h2.elim
    | exc x s4 => rw [e2] at h2; exact h2.elim
    | ok x2 s4 =>
      rw [e2] at h2
      dsimp only at h2
      obtain ⟨Z4, g4, r4, q4⟩ := r3.cap (q2.mono (s' := s3) (H' := H2) g3 st2) e2
      have r5 := r4.store hi' (q3.mono g4)
      have r6 := r5.store (i := j) (by simpa using hj') q4
      exact SPost.nx (SPost.ext h2 (g3.trans g4)) r6
theorem v_wh {n : Nat} {b : List Stmt} {sb : State → Res Fl} (hp : PassesOwn (model X.prog X.w) X.A X.env X.xe) (ht : PT X c (TBx C ft)) (hb : PSs X b (TSt C sb)) : PS X (.While c b [] pos) (TSt C (sWh n ft sb)) := by
  refine PS_mono (ps_while hp ht hb) fun D sv H ⟨Z0, loc0, s0, r0, q0⟩ => ?_
  refine ⟨fun m sv H => ∃ Z loc s, SR C Z loc s sv H ∧ SPost C Z loc (sWh m ft sb s) D, ⟨n, Z0, loc0, s0, r0, q0⟩, ?_⟩
  rintro m sv H ⟨Z, loc, s, r, q⟩
  cases m with
  | zero => exact q.elim
  | succ m =>
    unfold sWh at q
    refine (TBx.bindS r q).imp fun k H1 ⟨Z1, l1, s1, g1, r1, h1⟩ => ?_
    cases k with
    | false =>
      rw [if_neg Bool.false_ne_true] at h1 ⊢
      exact h1.nx r1
    | true =>
      rw [if_pos rfl] at h1 ⊢
      refine ⟨fun sv' H' => ∃ Z loc s, SR C Z loc s sv' H' ∧ SPost C Z loc (sWh m ft sb s) D, fun sv' H' h => ⟨m, Nat.lt_succ_self m, h⟩, ⟨Z1, l1, s1, r1, ?_⟩⟩
      cases e : sb s1 with
      | stuck => rw [e] at h1; exact h1
      | exc x s2 => rw [e] at h1; exact h1
      | ok k s2 =>
        rw [e] at h1
        cases k with
        | nx => exact fun Z2 l2 sv2 H2 g2 r2 => ⟨Z2, l2, s2, r2, SPost.ext h1 g2⟩
        | cnt => exact fun Z2 l2 sv2 H2 g2 r2 => ⟨Z2, l2, s2, r2, SPost.ext h1 g2⟩
        | brk => exact fun Z2 l2 sv2 H2 g2 r2 => SPost.nx (SPost.ext h1 g2) r2
        | ret rv => exact h1
/-- the locks that a loop lays -/
structure CLe (C C' : Cst) : Prop where
  ca : C'.cA = C.cA
  fr : C'.Fr = C.Fr
  w : C'.W = C.W
  h0 : ∀ (a : Addr) (o : Obj) (u : HO), C.H0 a = some (.frz o u) → C'.H0 a = some (.frz o u)
theorem CLe.refl (C : Cst) : CLe C C := ⟨rfl, rfl, rfl, fun _ _ _ h => h⟩
theorem SR.le {C' : Cst} (c : CLe C C') (r : SR C' Z loc s sv H) : SR C Z loc s sv H := by
  obtain ⟨a, f, h, w⟩ := C
  obtain ⟨a', f', h', w'⟩ := C'
  obtain ⟨c1, c2, c3, c4⟩ := c
  dsimp only at c1 c2 c3 c4
  subst c1 c2 c3
  exact ⟨r.fr, r.zh, r.zf, fun b o u e => r.lk b o u (c4 b o u e), r.ln, r.nd, r.lh, r.cl, r.vl, r.ow, r.oi, r.ls⟩
/-- only new objects -/
def Grew (H Z H' Z' : Hp) : Prop := Same H H' ∧ ∀ a, H a ≠ none → Z' a = Z a
theorem Grew.refl (H Z : Hp) : Grew H Z H Z := ⟨Same.refl _, fun _ _ => rfl⟩
structure WalkS (C : Cst) (Z : Hp) (loc : List Addr) (l : List Val) (J : It) (G : Hp → Prop) (Y : Nat → Hp → V → Hp → Prop) : Prop where
  w : Walk J l.length G Y
  g : ∀ Z' loc' s sv H, Ext Z loc Z' loc' → SR C Z' loc' s sv H → G H
  y : ∀ Z' loc' s sv H (i : Nat) x v H', Ext Z loc Z' loc' → SR C Z' loc' s sv H → l[i]? = some x → Y i H v H' → ∃ Z'', Ext Z' loc' Z'' loc' ∧ Grew H Z' H' Z'' ∧ SR C Z'' loc' s sv H' ∧ RepV C.cA Z'' loc' x v
/-- walked items -/
def TSrc (C : Cst) (f : State → Res (List Val)) : TI := fun sv H R => ∃ Z loc s, SR C Z loc s sv H ∧ match f s with
  | .ok l s' => ∀ Z' loc' H' C' J G Y, CLe C C' → Ext Z loc Z' loc' → SR C' Z' loc' s' sv H' → WalkS C' Z' loc' l J G Y → R J H'
  | .exc x s' => ∀ Z' loc' H' c d, Ext Z loc Z' loc' → SR C Z' loc' s' sv H' → XRep C Z' H' x c d → C.W c d sv H'
  | .stuck => False
def sFor (t : Tg) (src : State → Res (List Val)) (b : State → Res Fl) (s : State) : Res Fl := (src s).bind fun l s => sForI t b l s
theorem v_for {t : Tg} {tg it : Expr} {b : List Stmt} {sb : State → Res Fl} {src : State → Res (List Val)} (hp : PassesOwn (model X.prog X.w) X.A X.env X.xe) (hc : X.calm = true) (hi : PI X tg it (TSrc C src))
    (hg : ∀ C', CLe C C' → PG X tg (TTg C' t)) (hb : ∀ C', CLe C C' → PSs X b (TSt C' sb)) (hs : notSet it = true) : PS X (.For tg it b [] pos) (TSt C (sFor t src sb)) := by
  refine ⟨fun pins t0 sv H D I ⟨Z, loc, s, r, q⟩ => ?_⟩
  -- the ends by any of the body's constants
  refine (ps_for (g := fun v sv H Q => ∃ C', CLe C C' ∧ TTg C' t v sv H Q) (tb := fun D sv H => ∃ C', CLe C C' ∧ TSt C' sb D sv H) hp hc hi
    ⟨fun pins s sv H v u Q I r ⟨C', c, q⟩ => (hg C' c).run pins s sv H v u Q I r q⟩ ⟨fun pins s sv H D I ⟨C', c, q⟩ => (hb C' c).run pins s sv H D I q⟩ (fold_ok hs)).run pins t0 sv H D I ?_
  refine ⟨Z, loc, s, r, ?_⟩
  unfold sFor at q
  cases e : src s with
  | stuck => rw [e] at q; exact q
  | exc x s1 => rw [e] at q; exact fun Z' loc' H' c d => q Z' loc' sv H' c d
  | ok l s1 =>
    rw [e] at q
    intro Z1 l1 H1 C' J G Y cle g1 r1 wk
    have q : SPost C Z loc (sForI t sb l s1) D := q
    refine for_it (g := fun v sv H Q => ∃ C', CLe C C' ∧ TTg C' t v sv H Q) (tb := fun D sv H => ∃ C', CLe C C' ∧ TSt C' sb D sv H) (D := D) wk.w (fun i sv H => ∃ Z2 l2 s2, Ext Z1 l1 Z2 l2 ∧ SR C' Z2 l2 s2 sv H ∧ SPost C Z2 l2 (sForI t sb (l.drop i) s2) D)
      ⟨Z1, l1, s1, Ext.refl _ _, r1, q.ext g1⟩ (fun i sv H _ ⟨Z2, l2, s2, g2, r2, _⟩ => wk.g Z2 l2 s2 sv H g2 r2) ?_ ?_
    · rintro i v sv2 H2 H3 hi ⟨Z2, l2, s2, g2, r2, q2⟩ hy
      rw [List.drop_eq_getElem_cons hi] at q2
      obtain ⟨Z3, g3, _, r3, q3⟩ := wk.y Z2 l2 s2 sv2 H2 i l[i] v H3 g2 r2 (by simp [hi]) hy
      refine ⟨C', cle, Z3, l2, s2, l[i], r3, q3, ?_⟩
      unfold sForI at q2
      cases e1 : asgT t l[i] s2 with
      | none => rw [e1] at q2; exact q2
      | some s3 =>
        rw [e1] at q2
        intro sv4 _ r4
        refine ⟨C', cle, Z3, l2, s3, r4, ?_⟩
        dsimp only at q2
        have q2' := SPost.ext q2 g3
        cases e2 : sb s3 with
        | stuck => rw [e2] at q2'; exact q2'
        | exc x s5 =>
          rw [e2] at q2'
          have q2' : SPost C Z3 l2 (.exc x s5) D := q2'
          intro Z5 l5 sv5 H5 c d g5 r5 x5
          have := q2' Z5 l5 sv5 H5 c d g5 (SR.le cle r5)
          unfold XRep at this x5
          rw [cle.ca] at x5
          rw [cle.w]
          exact this x5
        | ok k s5 =>
          rw [e2] at q2'
          cases k with
          | nx => exact fun Z5 l5 sv5 H5 g5 r5 => ⟨Z5, l5, s5, g2.trans (g3.trans g5), r5, SPost.ext q2' g5⟩
          | cnt => exact fun Z5 l5 sv5 H5 g5 r5 => ⟨Z5, l5, s5, g2.trans (g3.trans g5), r5, SPost.ext q2' g5⟩
          | brk => exact fun Z5 l5 sv5 H5 g5 r5 => SPost.nx (SPost.ext q2' g5) (SR.le cle r5)
          | ret rv =>
            intro Z5 l5 sv5 H5 v5 g5 r5 q5
            refine q2' Z5 l5 sv5 H5 v5 g5 (SR.le cle r5) ?_
            cases rv with
            | val x => have q5 : RepV C'.cA Z5 l5 x v5 := q5; rw [cle.ca] at q5; exact q5
            | own j => exact q5
            | new o =>
              obtain ⟨a, h1, h2, h3, h4⟩ := q5
              rw [cle.ca] at h3
              exact ⟨a, h1, h2, h3, h4.z, by rw [← cle.fr]; exact h4.f, h4.l, h4.o⟩
    · rintro sv2 H2 ⟨Z2, l2, s2, g2, r2, q2⟩
      rw [List.drop_length] at q2
      exact SPost.nx q2 (SR.le cle r2)
end
end Vw
namespace Vw
open PySem L2 PyProof.Rows

def capD (r : RV) (s : State) : Res D :=
  match cap r s with
  | .ok (.d x) s => .ok x s
  | _ => .stuck
def k0d : K0 → D
  | .i n => .int n
  | .s t => .str t
def itemsOf : D → State → Res (List Val)
  | .lst l, s => .ok (l.map .d) s
  | .tup l, s => .ok (l.map .d) s
  | .str t, s => .ok (t.map fun c => .d (.str [c])) s
  | .dic l, s => .ok (l.map fun p => .d (k0d p.1)) s
  | _, s => .stuck
def valuesOf : D → State → Res (List Val)
  | .dic l, s => .ok (l.map fun p => .d p.2) s
  | _, s => .stuck
def pairsOf : D → State → Res (List Val)
  | .dic l, s => .ok (l.map fun p => .d (.tup [k0d p.1, p.2])) s
  | _, s => .stuck
def keysOf : D → State → Res (List Val)
  | .dic l, s => .ok (l.map fun p => .d (k0d p.1)) s
  | _, s => .stuck
def enumOf : D → State → Res (List Val)
  | .lst l, s => .ok (l.mapIdx fun i x => .d (.tup [.int i, x])) s
  | .str t, s => .ok (t.mapIdx fun i c => .d (.tup [.int i, .str [c]])) s
  | _, s => .stuck
def revOf : D → State → Res (List Val)
  | .lst l, s => .ok (l.reverse.map .d) s
  | _, s => .stuck
def sD (f : State → Res RV) (k : D → State → Res (List Val)) (s : State) : Res (List Val) := (ev f s).bind fun r s => (capD r s).bind k
def rngOf (lo hi : Int) (s : State) : Res (List Val) :=
  if -(2 ^ 62) ≤ lo ∧ lo < 2 ^ 62 ∧ -(2 ^ 62) ≤ hi ∧ hi < 2 ^ 62 then .ok ((List.range (hi - lo).toNat).map fun i => .d (.int (lo + (i : Nat)))) s else .stuck
def sRng1 (fa : State → Res RV) (s : State) : Res (List Val) := (ev fa s).bind fun x s => match dv s x with
  | some (.int j) => rngOf 0 j s
  | _ => .stuck
def sRng2 (fa fb : State → Res RV) (s : State) : Res (List Val) := (ev fa s).bind fun x s => (ev fb s).bind fun y s => match dv s x, dv s y with
  | some (.int i), some (.int j) => rngOf i j s
  | _, _ => .stuck
def zipOf (x y : D) (s : State) : Res (List Val) :=
  match x, y with
  | .lst l, .lst m => .ok ((l.zip m).map fun p => .d (.tup [p.1, p.2])) s
  | _, _ => .stuck
def sZip (fa fb : State → Res RV) (s : State) : Res (List Val) := (ev fa s).bind fun x s => (ev fb s).bind fun y s => (capD x s).bind fun x s => (capD y s).bind fun y s => zipOf x y s

section
variable {C : Cst} {Z Z' : Hp} {loc loc' : List Addr} {s s' : State} {sv sv' : L2.St} {H H' : Hp}
variable {X : Cx} {e a b c tg : Expr} {es : List Expr} {pos : Pos} {f fa fb fc fo fi fv : State → Res RV}
theorem TEx.evOk {rv : RV} (r : SR C Z loc s sv H) (e : ev f s = .ok rv s') : TEx C f sv H (fun v H' => ∃ Z' loc', Ext Z loc Z' loc' ∧ SR C Z' loc' s' sv H' ∧ Stl rv ∧ RVR C Z' loc' s' sv H' rv v) := by
  refine ⟨Z, loc, s, r, ?_⟩
  unfold ev at e
  cases e1 : f s with
  | stuck => rw [e1] at e; cases e
  | exc x s1 => rw [e1] at e; cases e
  | ok r0 s1 =>
    rw [e1] at e
    intro Z1 l1 H1 v g r1 q
    obtain ⟨rfl, st, Z2, g2, r2, q2⟩ := r1.settle q e
    exact ⟨Z2, l1, g.trans g2, r2, st, q2⟩
theorem TEx.evEx {x : Exn} {Q : VK} (r : SR C Z loc s sv H) (e : ev f s = .exc x s') (h : ∀ Z' loc' H' c d, Ext Z loc Z' loc' → SR C Z' loc' s' sv H' → XRep C Z' H' x c d → C.W c d sv H') : TEx C f sv H Q := by
  refine ⟨Z, loc, s, r, ?_⟩
  unfold ev at e
  cases e1 : f s with
  | stuck => rw [e1] at e; cases e
  | exc x s1 => rw [e1] at e; cases e; exact h
  | ok r0 s1 => rw [e1] at e; exact absurd e settle_no
theorem SR.capD (r : SR C Z loc s sv H) {rv : RV} {v : V} {x : D} (h : RVR C Z loc s sv H rv v) (e : capD rv s = .ok x s') : ∃ Z', Ext Z loc Z' loc ∧ SR C Z' loc s' sv H ∧ RepD C.cA Z' x v := by
  unfold Vw.capD at e
  split at e
  · rename_i y s1 e1
    cases e
    exact r.cap h e1
  · cases e
theorem capD_no {rv : RV} {x : Exn} {s s' : State} : capD rv s ≠ .exc x s' := by
  unfold capD
  split <;> simp
theorem PI_or {w w' : TI} (h : PI X tg e w) (h' : PI X tg e w') : PI X tg e (fun sv H R => w sv H R ∨ w' sv H R) :=
  ⟨fun pins s sv H R I q => q.elim (h.run pins s sv H R I) (h'.run pins s sv H R I)⟩
theorem PI_mono {w w' : TI} (h : PI X tg e w) (m : ∀ sv H R, w' sv H R → w sv H R) : PI X tg e w' := ⟨fun pins s sv H R I q => h.run pins s sv H R I (m sv H R q)⟩
/-- an expression whose dict is locked for good -/
def tLk (t : TE) : TE := fun sv H Q => t sv H fun x H1 => (∃ d u, x = .ref d ∧ H1 d = some u ∧ isDic u = true ∧ ∀ od, Q x (upd H1 d (.frz od u))) ∨ Q x H1
theorem pe_lk {t : TE} (h : PE X e t) : PE X e (tLk t) := by
  refine ⟨fun pins s sv H Q I q => thn (h.run pins s sv H _ I q) fun v s1 ⟨x, H1, I1, rx, q1⟩ => ?_⟩
  rcases q1 with ⟨d, u, e1, h1, h2, q1⟩ | q1
  · obtain ⟨od, I2⟩ := I1.lock h1 (by cases u <;> first | trivial | cases h2)
    exact ⟨x, _, I2, rx, q1 od⟩
  · exact ⟨x, H1, I1, rx, q1⟩
/-- a dict of data is locked -/
theorem SR.lockZ (r : SR C Z loc s sv H) {d : Addr} {u : HO} (hz : Z d = some u) (hu : isDic u = true) (hd : H d = some u) (od : Obj) :
    CLe C { C with H0 := upd C.H0 d (.frz od u) } ∧ SR { C with H0 := upd C.H0 d (.frz od u) } Z loc s sv (upd H d (.frz od u)) := by
  have nf : ∀ o w, C.H0 d ≠ some (.frz o w) := fun o w e => by
    have := r.lk d o w e
    rw [hd] at this
    cases this
    cases hu
  have fd : C.Fr d = none := r.zf d u hz
  have cellAt : ∀ {b : Addr} {ob : Ob}, b ≠ d → Cell C.cA Z loc H b ob → Cell C.cA Z loc (upd H d (.frz od u)) b ob := fun {b ob} hb x => x.at (upd_ne hb)
  refine ⟨⟨rfl, rfl, rfl, fun b o w e => ?_⟩, ?_⟩
  · have hb : b ≠ d := fun z => nf o w (z ▸ e)
    show upd C.H0 d _ b = _
    rw [upd_ne hb]; exact e
  · refine ⟨fun b x hx => ?_, fun b x hx => ?_, r.zf, fun b o w e => ?_, r.ln, r.nd, fun b hb => ?_, fun n b ob h1 h2 h3 => ?_, r.vl, fun i ob h => ?_, r.oi, r.ls⟩
    · have hx : C.Fr b = some x := hx
      have hb : b ≠ d := fun z => by rw [z, fd] at hx; cases hx
      rw [upd_ne hb]; exact r.fr b x hx
    · by_cases hb : b = d
      · subst hb
        rw [hz] at hx
        cases hx
        exact .inr ⟨hu, od, upd_same⟩
      · unfold Rz
        rw [upd_ne hb]; exact r.zh b x hx
    · have e : upd C.H0 d (.frz od u) b = some (.frz o w) := e
      by_cases hb : b = d
      · subst hb
        rw [upd_same] at e
        cases e
        exact upd_same
      · rw [upd_ne hb] at e ⊢
        exact r.lk b o w e
    · refine ⟨?_, (r.lh b hb).2⟩
      by_cases hbd : b = d
      · rw [hbd, upd_same]; simp
      · rw [upd_ne hbd]; exact (r.lh b hb).1
    · obtain ⟨q1, q2⟩ := r.cl n b ob h1 h2 h3
      have hb : b ≠ d := fun z => by rw [z, hz] at q2; cases q2
      exact ⟨cellAt hb q1, q2⟩
    · obtain ⟨b, h1, h2, h3, h4, h5⟩ := r.ow i ob h
      have hb : b ≠ d := fun z => by rw [z, hz] at h4; cases h4
      exact ⟨b, h1, h2, cellAt hb h3, h4, h5⟩
theorem walkL {K : PySem.W.Frag} {ds : List D} {a : Addr} {vs : List V} (hz : Z a = some (.lst vs) ∨ ∃ o, Z a = some (.frz o (.lst vs))) (q : RepDs C.cA Z ds vs) :
    WalkS C Z loc (ds.map .d) (Itl K a) (fun H => SqL K H a vs) (YAt vs) := by
  have hl : (ds.map Val.d).length = vs.length := repVs_len (loc := loc) (rep_map.mpr q)
  refine ⟨by rw [hl]; exact walk_list, fun Z' loc' s sv H g r => ?_, fun Z' loc' s sv H i x v H' g r hx y => ?_⟩
  · rcases hz with z | ⟨o, z⟩
    · exact .inl (.inl ((r.zh a _ (g.1 _ _ z)).at rfl))
    · exact .inl (.inr ⟨o, (r.zh a _ (g.1 _ _ z)).at rfl⟩)
  · obtain ⟨rfl, y⟩ := y
    obtain ⟨v', h1, h2⟩ := repVs_get (rep_map.mpr q) hx
    rw [y] at h1
    cases h1
    exact ⟨Z', Ext.refl _ _, Grew.refl _ _, r, h2.mono g⟩
theorem walkT {K : PySem.W.Frag} {ds : List D} {a : Addr} {vs : List V} (hz : Z a = some (.tup vs)) (q : RepDs C.cA Z ds vs) :
    WalkS C Z loc (ds.map .d) (Itt K a) (fun H => SqT K H a vs) (YAt vs) := by
  have hl : (ds.map Val.d).length = vs.length := repVs_len (loc := loc) (rep_map.mpr q)
  refine ⟨by rw [hl]; exact walk_tup, fun Z' loc' s sv H g r => ?_, fun Z' loc' s sv H i x v H' g r hx y => ?_⟩
  · exact .inl (.inl ((r.zh a _ (g.1 _ _ hz)).at rfl))
  · obtain ⟨rfl, y⟩ := y
    obtain ⟨v', h1, h2⟩ := repVs_get (rep_map.mpr q) hx
    rw [y] at h1
    cases h1
    exact ⟨Z', Ext.refl _ _, Grew.refl _ _, r, h2.mono g⟩
theorem walkS {t : List Nat} : ∃ G Y, WalkS C Z loc (t.map fun c => .d (.str [c])) (Its ⟨t.toArray⟩) G Y := by
  refine ⟨_, _, by simpa using walk_str (z := ⟨t.toArray⟩), fun _ _ _ _ _ _ _ => trivial, fun Z' loc' s sv H i x v H' g r hx y => ?_⟩
  obtain ⟨rfl, c, y1, y2⟩ := y
  rw [List.getElem?_map] at hx
  have y1 : t[i]? = some c := by simpa using y1
  rw [y1] at hx
  cases hx
  exact ⟨Z', Ext.refl _ _, Grew.refl _ _, r, y2⟩
theorem walkR {lo : Int} {n : Nat} : ∃ G Y, WalkS C Z loc ((List.range n).map fun i => .d (.int (lo + (i : Nat)))) (Itr lo n) G Y := by
  refine ⟨_, _, by simpa using walk_range (lo := lo) (n := n), fun _ _ _ _ _ _ _ => trivial, fun Z' loc' s sv H i x v H' g r hx y => ?_⟩
  obtain ⟨rfl, y⟩ := y
  rw [List.getElem?_map] at hx
  obtain ⟨j, h1, h2⟩ := Option.map_eq_some_iff.mp hx
  have h3 := List.getElem?_eq_some_iff.mp h1
  obtain ⟨h4, h5⟩ := h3
  rw [List.getElem_range] at h5
  subst h5 h2
  exact ⟨Z', Ext.refl _ _, Grew.refl _ _, r, y⟩
theorem walkV {K : PySem.W.Frag} {ds : List D} {a : Addr} {vs : List V} (hz : Z a = some (.lst vs) ∨ ∃ o, Z a = some (.frz o (.lst vs))) (q : RepDs C.cA Z ds vs) :
    ∃ G Y, WalkS C Z loc (ds.reverse.map .d) (Itv K a vs.length) G Y := by
  have hl : (ds.map Val.d).length = vs.length := repVs_len (loc := loc) (rep_map.mpr q)
  refine ⟨_, _, by rw [List.length_map, List.length_reverse, ← List.length_map (f := Val.d), hl]; exact walk_rev (xs := vs) (K := K), fun Z' loc' s sv H g r => ?_, fun Z' loc' s sv H i x v H' g r hx y => ?_⟩
  · rcases hz with z | ⟨o, z⟩
    · exact .inl (.inl ((r.zh a _ (g.1 _ _ z)).at rfl))
    · exact .inl (.inr ⟨o, (r.zh a _ (g.1 _ _ z)).at rfl⟩)
  · obtain ⟨rfl, y⟩ := y
    rw [List.map_reverse] at hx
    have hi : i < (ds.map Val.d).length := by simpa using (List.getElem?_eq_some_iff.mp hx).1
    rw [List.getElem?_reverse hi] at hx
    obtain ⟨v', h1, h2⟩ := repVs_get (rep_map.mpr q) hx
    rw [hl, y] at h1
    cases h1
    exact ⟨Z', Ext.refl _ _, Grew.refl _ _, r, h2.mono g⟩
/-- a new pair is absorbed -/
theorem pairY {xs ys : Nat → Option V} {Z : Hp} {loc : List Addr} (r : SR C Z loc s sv H) {i : Nat} {v : V} {d1 d2 : D} (y : YPair xs ys i H v H') (h1 : ∀ u, xs i = some u → RepD C.cA Z d1 u) (h2 : ∀ u, ys i = some u → RepD C.cA Z d2 u) :
    ∃ Z'', Ext Z loc Z'' loc ∧ Grew H Z H' Z'' ∧ SR C Z'' loc s sv H' ∧ RepV C.cA Z'' loc (.d (.tup [d1, d2])) v := by
  obtain ⟨T, x, y, rfl, hT, rfl, e1, e2⟩ := y
  have f := r.free hT
  have g := same_upd (o := .tup [x, y]) f.z
  exact ⟨_, Ext.z g, ⟨same_upd hT, fun b hb => upd_ne fun z => hb (z ▸ hT)⟩, (r.grow (same_upd hT)).absorb upd_same f, T, [x, y], rfl, upd_same, x, [y], rfl, RepD.mono g d1 (h1 x e1), y, [], rfl, RepD.mono g d2 (h2 y e2), rfl⟩
theorem repDs_get {ds : List D} {vs : List V} {i : Nat} {u : V} (q : RepDs C.cA Z ds vs) (h : vs[i]? = some u) : ∃ d, ds[i]? = some d ∧ RepD C.cA Z d u := by
  have hl : (ds.map Val.d).length = vs.length := repVs_len (loc := []) (rep_map.mpr q)
  have hi : i < ds.length := by
    have := (List.getElem?_eq_some_iff.mp h).1
    simpa [← hl] using this
  obtain ⟨v', h1, h2⟩ := repVs_get (loc := []) (rep_map.mpr q) (i := i) (x := .d ds[i]) (by simp [hi])
  rw [h] at h1
  cases h1
  exact ⟨ds[i], by simp [hi], h2⟩
theorem walkE {K : PySem.W.Frag} {ds : List D} {a : Addr} {vs : List V} (hz : Z a = some (.lst vs) ∨ ∃ o, Z a = some (.frz o (.lst vs))) (q : RepDs C.cA Z ds vs) :
    ∃ G Y, WalkS C Z loc (ds.mapIdx fun i x => .d (.tup [.int i, x])) (Ite K a) G Y := by
  have hl : (ds.map Val.d).length = vs.length := repVs_len (loc := loc) (rep_map.mpr q)
  refine ⟨_, _, by rw [List.length_mapIdx, ← List.length_map (f := Val.d), hl]; exact walk_enum (xs := vs) (K := K), fun Z' loc' s sv H g r => ?_, fun Z' loc' s sv H i x v H' g r hx y => ?_⟩
  · rcases hz with z | ⟨o, z⟩
    · exact .inl (.inl ((r.zh a _ (g.1 _ _ z)).at rfl))
    · exact .inl (.inr ⟨o, (r.zh a _ (g.1 _ _ z)).at rfl⟩)
  · rw [List.getElem?_mapIdx] at hx
    obtain ⟨d, h1, rfl⟩ := Option.map_eq_some_iff.mp hx
    refine pairY r y (fun u e => by cases e; rfl) fun u e => ?_
    obtain ⟨d', h2, h3⟩ := repDs_get q e
    rw [h1] at h2
    cases h2
    exact RepD.mono g.1 d h3
theorem walkZ {K : PySem.W.Frag} {ds es : List D} {a b : Addr} {vs ws : List V} (hz : Z a = some (.lst vs) ∨ ∃ o, Z a = some (.frz o (.lst vs))) (q : RepDs C.cA Z ds vs) (hz' : Z b = some (.lst ws) ∨ ∃ o, Z b = some (.frz o (.lst ws))) (q' : RepDs C.cA Z es ws) :
    ∃ G Y, WalkS C Z loc ((ds.zip es).map fun p => .d (.tup [p.1, p.2])) (Itz K a b) G Y := by
  have hl : (ds.map Val.d).length = vs.length := repVs_len (loc := loc) (rep_map.mpr q)
  have hl' : (es.map Val.d).length = ws.length := repVs_len (loc := loc) (rep_map.mpr q')
  refine ⟨_, _, walk_zip (xs := vs) (ys := ws) (K := K) (by simp at hl hl' ⊢; omega), fun Z' loc' s sv H g r => ?_, fun Z' loc' s sv H i x v H' g r hx y => ?_⟩
  · refine ⟨?_, ?_⟩
    · rcases hz with z | ⟨o, z⟩
      · exact .inl (.inl ((r.zh a _ (g.1 _ _ z)).at rfl))
      · exact .inl (.inr ⟨o, (r.zh a _ (g.1 _ _ z)).at rfl⟩)
    · rcases hz' with z | ⟨o, z⟩
      · exact .inl (.inl ((r.zh b _ (g.1 _ _ z)).at rfl))
      · exact .inl (.inr ⟨o, (r.zh b _ (g.1 _ _ z)).at rfl⟩)
  · rw [List.getElem?_map] at hx
    obtain ⟨p, h1, rfl⟩ := Option.map_eq_some_iff.mp hx
    obtain ⟨p1, p2⟩ := p
    rw [List.getElem?_zip_eq_some] at h1
    refine pairY r y (fun u e => ?_) fun u e => ?_
    · obtain ⟨d', h2, h3⟩ := repDs_get q e
      rw [h1.1] at h2
      cases h2
      exact RepD.mono g.1 _ h3
    · obtain ⟨d', h2, h3⟩ := repDs_get q' e
      rw [h1.2] at h2
      cases h2
      exact RepD.mono g.1 _ h3
theorem repKs_get : ∀ {l : List (K0 × D)} {ws : List (Key × V)} {i : Nat} {p : K0 × D}, RepKs C.cA Z l ws → l[i]? = some p → ∃ v, ws[i]? = some (kz p.1, v) ∧ RepD C.cA Z p.2 v
  | [], ws, i, p, h, e => by simp at e
  | (k, x) :: l, ws, 0, p, ⟨v, t, e1, q, r⟩, e => by
    rw [e1]
    simp at e
    subst e
    exact ⟨v, rfl, q⟩
  | (k, x) :: l, ws, i + 1, p, ⟨v, t, e1, q, r⟩, e => by
    rw [e1]
    exact repKs_get (i := i) r (by simpa using e)
theorem repKs_len : ∀ {l : List (K0 × D)} {ws : List (Key × V)}, RepKs C.cA Z l ws → l.length = ws.length
  | [], ws, h => by rw [show ws = _ from h]; rfl
  | (k, y) :: l, ws, ⟨w, t, e, q1, r⟩ => by rw [e, List.length_cons, List.length_cons, repKs_len r]
theorem k0d_rep (k : K0) : RepD C.cA Z (k0d k) (kV (kz k)) := by cases k <;> rfl
theorem lockG {d : Addr} {u : HO} {od : Obj} {Z' : Hp} {loc' : List Addr} (h0 : C.H0 d = some (.frz od u)) (r : SR C Z' loc' s sv H) : H d = some (.frz od u) := r.lk d od u h0
theorem walkK {l : List (K0 × D)} {d : Addr} {od : Obj} {ws : List (Key × V)} (h0 : C.H0 d = some (.frz od (.dK ws))) (q : RepKs C.cA Z l ws) : ∃ G Y, WalkS C Z loc (l.map fun p => .d (k0d p.1)) (Itk d od ws) G Y := by
  refine ⟨_, _, by rw [List.length_map, repKs_len q]; exact walk_keys (d := d) (o := od) (kvs := ws), fun Z' loc' s sv H g r => lockG h0 r, fun Z' loc' s sv H i x v H' g r hx y => ?_⟩
  obtain ⟨rfl, k, w, h1, rfl⟩ := y
  rw [List.getElem?_map] at hx
  obtain ⟨p, h2, rfl⟩ := Option.map_eq_some_iff.mp hx
  obtain ⟨v', h3, h4⟩ := repKs_get q h2
  rw [h1] at h3
  cases h3
  exact ⟨Z', Ext.refl _ _, Grew.refl _ _, r, k0d_rep p.1⟩
theorem walkVals {l : List (K0 × D)} {d : Addr} {od : Obj} {ws : List (Key × V)} (h0 : C.H0 d = some (.frz od (.dK ws))) (q : RepKs C.cA Z l ws) : ∃ G Y, WalkS C Z loc (l.map fun p => .d p.2) (Itd d od ws) G Y := by
  refine ⟨_, _, by rw [List.length_map, repKs_len q]; exact walk_values (d := d) (o := od) (kvs := ws), fun Z' loc' s sv H g r => lockG h0 r, fun Z' loc' s sv H i x v H' g r hx y => ?_⟩
  obtain ⟨rfl, k, h1⟩ := y
  rw [List.getElem?_map] at hx
  obtain ⟨p, h2, rfl⟩ := Option.map_eq_some_iff.mp hx
  obtain ⟨v', h3, h4⟩ := repKs_get q h2
  rw [h1] at h3
  cases h3
  exact ⟨Z', Ext.refl _ _, Grew.refl _ _, r, RepD.mono g.1 p.2 h4⟩
theorem walkItems {l : List (K0 × D)} {d : Addr} {od : Obj} {ws : List (Key × V)} (h0 : C.H0 d = some (.frz od (.dK ws))) (q : RepKs C.cA Z l ws) : ∃ G Y, WalkS C Z loc (l.map fun p => .d (.tup [k0d p.1, p.2])) (Iti d od ws) G Y := by
  refine ⟨_, _, by rw [List.length_map, repKs_len q]; exact walk_items (d := d) (o := od) (kvs := ws), fun Z' loc' s sv H g r => lockG h0 r, fun Z' loc' s sv H i x v H' g r hx y => ?_⟩
  rw [List.getElem?_map] at hx
  obtain ⟨p, h2, rfl⟩ := Option.map_eq_some_iff.mp hx
  obtain ⟨v', h3, h4⟩ := repKs_get q h2
  refine pairY r y (fun u e => ?_) fun u e => ?_
  · rw [h3] at e
    cases e
    exact k0d_rep p.1
  · rw [h3] at e
    cases e
    exact RepD.mono g.1 _ h4
end
end Vw
namespace Vw
open PySem L2 PyProof.Rows

def Ites (x : Str) : It := ⟨fun i _ => i < x.cps.size, fun i H v H' => ∃ T c, v = .ref T ∧ H T = none ∧ H' = upd H T (.tup [.int (i : Nat), .str ⟨#[c]⟩]) ∧ x.cps[i]? = some c, fun i _ => x.cps.size ≤ i⟩
theorem turn_enumS {P : Program} {w : World} {K : PySem.W.Frag} {elts : List Expr} {kk : Nat} {tpos : Pos} (x : Str) (t : Tok) (e it : Addr) :
    Turn P w K (.Tuple elts kk tpos) (Ites x) [e, it] e (fun i h => ((∃ old, IsEnum h e it ((i : Nat) : Int) old) ∧ h.IsStrIter it (strIterType x) x t i) ∧ e ≠ it ∧ i ≤ x.cps.size) where
  mem := by simp
  obj := fun i h st b hb => by
    obtain ⟨⟨⟨old, he⟩, ⟨o, ho, hc, hd⟩⟩, _⟩ := st
    have e' : b = e ∨ b = it := by simpa using hb
    rcases e' with z | z
    · rw [z]; exact ⟨_, he, fun v q => nomatch q⟩
    · rw [z]; exact ⟨o, ho, fun v q => by rw [hd] at q; cases q⟩
  keep := fun i h h' st k => by
    obtain ⟨⟨⟨old, he⟩, ⟨o, ho, hc, hd⟩⟩, hne⟩ := st
    exact ⟨⟨⟨old, k e (by simp) _ he⟩, ⟨o, k it (by simp) _ ho, hc, hd⟩⟩, hne⟩
  item := by
    intro X hP hw hK hc i pins s sv H E I hf st hg
    subst hP hw hK
    obtain ⟨⟨⟨old, he⟩, hit⟩, hne, hle⟩ := st
    have hi : i < x.cps.size := hg
    have hh : X.A.in1.handled = none := by have := I.ok.hd hc; exact this
    have D : Draws X.prog X.w X.A.in1 it [it] x.cps.size (fun i v => ∃ c u, x.cps[i]? = some c ∧ v = .str ⟨#[c]⟩ u) (fun i h => h.IsStrIter it (strIterType x) x t i) := by
      unfold strIterType
      split
      · exact Draws.strAscii hh it x t
      · exact Draws.strWide hh it x t
    have hel : e < s.heap.objs.size := Heap.lt_size he
    have hil : it < s.heap.objs.size := by obtain ⟨_, q, _⟩ := hit; exact Heap.lt_size q
    refine wpAny_pyNext_enum_itemD D he hit hi hne (by simpa using hne) fun y h' tk hy ho hit' hT hsz hk => ?_
    obtain ⟨c, u, hcx, rfl⟩ := hy
    refine ⟨_, rfl, wpAny_letOwnedTupleGo_enum (s := { s with heap := h', toks := tk + 1 }) ho fun h'' he' sb => ?_⟩
    have hT2 : h''.get? s.heap.objs.size = some { cls := .type "tuple", data := .seq #[.int i tk, .str ⟨#[c]⟩ u] } := (sb.2 _ (Nat.ne_of_gt hel)).trans hT
    have new : ObjOk X.prog X.w (upd H s.heap.objs.size (.tup [.int (i : Nat), .str ⟨#[c]⟩])) h'' s.heap.objs.size (.tup [.int (i : Nat), .str ⟨#[c]⟩]) :=
      ⟨by show 2 ≤ sizeLine; decide, [.int i tk, .str ⟨#[c]⟩ u], .cons ⟨_, rfl⟩ (.cons ⟨_, rfl⟩ .nil), ⟨_, hT2, rfl, _, rfl⟩⟩
    have I1 : Inv X pins sv (upd H s.heap.objs.size (.tup [.int (i : Nat), .str ⟨#[c]⟩])) { s with heap := h'', toks := tk + 1 } :=
      I.turnedNew (ch := [e, it]) (fun b ob hb q => (sb.2 b (fun z => hb (by simp [z]))).trans (hk b ob (fun z => hb (by simp [z])) (fun z => hb (by simp [z])) q)) hf (Nat.le_refl _) new
    refine ⟨.ref s.heap.objs.size, _, I1, rfl, ⟨_, c, rfl, I.hok.fresh (Nat.le_refl _), rfl, hcx⟩, ⟨⟨⟨.str ⟨#[c]⟩ u, ?_⟩, ?_⟩, hne, hi⟩, fun b hb => ?_⟩
    · have e1 : ((i + 1 : Nat) : Int) = (i : Int) + 1 := by omega
      rw [e1]; exact he'
    · obtain ⟨o, q1, q2⟩ := hit'
      exact ⟨o, (sb.2 it (Ne.symm hne)).trans q1, q2⟩
    · have hb' : b < s.heap.objs.size := by
        have e' : b = e ∨ b = it := by simpa using hb
        rcases e' with z | z
        · rw [z]; exact hel
        · rw [z]; exact hil
      rw [upd_ne (Nat.ne_of_lt hb')]
      exact (hf b hb).1
  done := by
    intro X hP hw hK hc i pins s sv H E I hf st hg
    subst hP hw hK
    obtain ⟨⟨⟨old, he⟩, hit⟩, hne, hle⟩ := st
    have hh : X.A.in1.handled = none := by have := I.ok.hd hc; exact this
    have D : Draws X.prog X.w X.A.in1 it [it] x.cps.size (fun i v => ∃ c u, x.cps[i]? = some c ∧ v = .str ⟨#[c]⟩ u) (fun i h => h.IsStrIter it (strIterType x) x t i) := by
      unfold strIterType
      split
      · exact Draws.strAscii hh it x t
      · exact Draws.strWide hh it x t
    have hi : i = x.cps.size := Nat.le_antisymm hle hg
    obtain ⟨f0, f1, f2, f3, f4, f5⟩ := hf it (by simp)
    exact wpAny_pyNext_enum_endD D he (hi ▸ hit) fun h' eb => ⟨rfl, I.turned (t' := s.toks) (fun b o hb q => eb b o hb q) f0 f1 f3 f4 f5⟩
  self := fun A i s Q E st h => let ⟨⟨⟨_, he⟩, _⟩, _⟩ := st; wpAny_pyIter_enum he h
def iEnumS (ta : TA) : TI := fun sv H R => ta sv H fun vs H1 => ∃ x, vs = [.str x] ∧ R (Ites x) H1
theorem pi_enumS {X : Cx} {e : Expr} {ta : TA} {p pos tpos : Pos} {elts : List Expr} {kk : Nat} (hg : Gl X "enumerate") (hm : X.mg "enumerate" = none) (ha : PA X [e] ta) (hs : starEach [e] X.env = [(false, eval e X.env)]) :
    PI X (.Tuple elts kk tpos) (.Call (.Name "enumerate" p) [e] [] pos) (iEnumS ta) := by
  refine ⟨fun pins s sv H R I h => ?_⟩
  refine Call_ (ld_blt I hg hm boot_enumerate (PyProof.Rows.callWith_type1 (thn (ha.run pos pins s sv H _ I h) fun us s1 ⟨vs, H1, I1, r1, q1⟩ => ?_) hs rfl))
  obtain ⟨x, ex, q⟩ := q1
  subst ex
  cases r1 with
  | cons r rr =>
    cases rr
    obtain ⟨t, rfl⟩ := r
    refine call_enumerate_str fun h' he hit hsz hk => wpAny_pyIter_enum he ?_
    have I2 : Inv X pins sv H1 { s1 with heap := h' } := I1.kept (t' := s1.toks) hk
    refine ⟨s1.heap.objs.size + 1, [s1.heap.objs.size + 1, s1.heap.objs.size], _, _, H1, rfl, I2, turn_enumS x t (s1.heap.objs.size + 1) s1.heap.objs.size, ⟨⟨⟨.none, he⟩, hit⟩, Nat.succ_ne_self _, Nat.zero_le _⟩, fun b hb => ?_, q⟩
    have e' : b = s1.heap.objs.size + 1 ∨ b = s1.heap.objs.size := by simpa using hb
    have hle : s1.heap.objs.size ≤ b := by
      rcases e' with z | z
      · rw [z]; exact Nat.le_add_right _ _
      · rw [z]; exact Nat.le_refl _
    exact I1.fpOk hle (I1.hok.fresh hle)

section
variable {C : Cst} {Z Z' : Hp} {loc loc' : List Addr} {s s' : State} {sv sv' : L2.St} {H H' : Hp}
variable {X : Cx} {e a b c tg : Expr} {es : List Expr} {pos : Pos} {f fa fb fc fo fi fv : State → Res RV}
theorem walk_enumS {x : Str} : Walk (Ites x) x.cps.size (fun _ => True) (YPair (fun i => some (.int (i : Nat))) (fun i => x.cps[i]?.map fun c => .str ⟨#[c]⟩)) := by
  refine ⟨fun i _ hi q => hi, fun _ q => Nat.le_refl _, fun i H v H' _ q y => ?_⟩
  obtain ⟨T, c, h1, h2, h3, h4⟩ := y
  exact ⟨T, .int (i : Nat), .str ⟨#[c]⟩, h1, h2, h3, rfl, by simp [h4]⟩
theorem walkES {t : List Nat} : ∃ G Y, WalkS C Z loc (t.mapIdx fun i c => .d (.tup [.int i, .str [c]])) (Ites ⟨t.toArray⟩) G Y := by
  refine ⟨_, _, by simpa using walk_enumS (x := ⟨t.toArray⟩), fun _ _ _ _ _ _ _ => trivial, fun Z' loc' s sv H i x v H' g r hx y => ?_⟩
  rw [List.getElem?_mapIdx] at hx
  obtain ⟨d, h1, rfl⟩ := Option.map_eq_some_iff.mp hx
  refine pairY r y (fun u e => by cases e; rfl) fun u e => ?_
  simp [h1] at e
  subst e
  rfl
theorem SR.lockY (r : SR C Z loc s sv H) {d : Addr} {u : HO} {od : Obj} (hd : H d = some (.frz od u)) :
    CLe C { C with H0 := upd C.H0 d (.frz od u) } ∧ SR { C with H0 := upd C.H0 d (.frz od u) } Z loc s sv H := by
  refine ⟨⟨rfl, rfl, rfl, fun b o w e => ?_⟩, ⟨r.fr, r.zh, r.zf, fun b o w e => ?_, r.ln, r.nd, r.lh, r.cl, r.vl, r.ow, r.oi, r.ls⟩⟩
  · show upd C.H0 d _ b = _
    by_cases hb : b = d
    · subst hb
      rw [r.lk b o w e] at hd
      cases hd
      exact upd_same
    · rw [upd_ne hb]; exact e
  · have e : upd C.H0 d (.frz od u) b = some (.frz o w) := e
    by_cases hb : b = d
    · subst hb
      rw [upd_same] at e
      cases e
      exact hd
    · rw [upd_ne hb] at e
      exact r.lk b o w e
theorem args1 {Q : List V → Hp → Prop} (h : TEx C f sv H fun v H1 => Q [v] H1) : tCons (TEx C f) tNil sv H Q := h

/-- the captured datum, then what follows -/
theorem srcAt {k : D → State → Res (List Val)} {R : It → Hp → Prop} (h : TSrc C (sD f k) sv H R) (hk : ∀ d s x s', k d s ≠ .exc x s') :
    (∀ Q, TEx C f sv H Q) ∨ ∃ d l s1 s2, k d s1 = .ok l s2 ∧ ∀ Q : VK, (∀ v H1 Z1 l1, SR C Z1 l1 s1 sv H1 → RepD C.cA Z1 d v →
      (∀ C' J G Y H', CLe C C' → SR C' Z1 l1 s2 sv H' → WalkS C' Z1 l1 l J G Y → R J H') → Q v H1) → TEx C f sv H Q := by
  obtain ⟨Z, loc, s, r, q⟩ := h
  unfold sD at q
  cases e : ev f s with
  | stuck => rw [e] at q; exact q.elim
  | exc x s1 => rw [e] at q; exact .inl fun Q => TEx.evEx r e q
  | ok rv s1 =>
    rw [e] at q
    simp only [Res.bind] at q
    cases e1 : capD rv s1 with
    | stuck => rw [e1] at q; exact q.elim
    | exc x s2 => exact absurd e1 capD_no
    | ok d s2 =>
      rw [e1] at q
      simp only [Res.bind] at q
      cases e2 : k d s2 with
      | stuck => rw [e2] at q; exact q.elim
      | exc x s3 => exact absurd e2 (hk _ _ _ _)
      | ok l s3 =>
        rw [e2] at q
        refine .inr ⟨d, l, s2, s3, e2, fun Q h => (TEx.evOk r e).imp fun v H1 ⟨Z', l', g, r1, st, rv⟩ => ?_⟩
        obtain ⟨Z2, g2, r2, q2⟩ := r1.capD rv e1
        exact h v H1 Z2 l' r2 q2 fun C' J G Y H' cl r' wk => q Z2 l' H' C' J G Y cl (g.trans g2) r' wk
theorem frzOr {Z : Hp} {a : Addr} {o : HO} (h : Z a = some o) : Z a = some o ∨ ∃ x, Z a = some (.frz x o) := .inl h
theorem itemsOf_no {d : D} {x : Exn} : itemsOf d s ≠ .exc x s' := by unfold itemsOf; split <;> simp
theorem valuesOf_no {d : D} {x : Exn} : valuesOf d s ≠ .exc x s' := by unfold valuesOf; split <;> simp
theorem pairsOf_no {d : D} {x : Exn} : pairsOf d s ≠ .exc x s' := by unfold pairsOf; split <;> simp
theorem keysOf_no {d : D} {x : Exn} : keysOf d s ≠ .exc x s' := by unfold keysOf; split <;> simp
theorem enumOf_no {d : D} {x : Exn} : enumOf d s ≠ .exc x s' := by unfold enumOf; split <;> simp
theorem revOf_no {d : D} {x : Exn} : revOf d s ≠ .exc x s' := by unfold revOf; split <;> simp
/-- a dict datum, locked -/
theorem lkAt {l : List (K0 × D)} {v : V} (r : SR C Z loc s sv H) (q : RepD C.cA Z (.dic l) v) (Q : VK)
    (h : ∀ d od ws C' H', v = .ref d → CLe C C' → SR C' Z loc s sv H' → C'.H0 d = some (.frz od (.dK ws)) → H' d = some (.frz od (.dK ws)) → RepKs C.cA Z l ws → Q v H') :
    (∃ d u, v = .ref d ∧ H d = some u ∧ isDic u = true ∧ ∀ od, Q v (upd H d (.frz od u))) ∨ Q v H := by
  obtain ⟨d, ws, rfl, hz, q⟩ := q
  rcases r.zh d _ hz with h1 | ⟨_, od, h1⟩
  · exact .inl ⟨d, .dK ws, rfl, h1, rfl, fun od => h d od ws _ _ rfl (r.lockZ hz rfl h1 od).1 (r.lockZ hz rfl h1 od).2 upd_same upd_same q⟩
  · exact .inr (h d od ws _ _ rfl (r.lockY h1).1 (r.lockY h1).2 upd_same h1 q)
theorem v_it (he : PE X e (TEx C f)) : PI X tg e (TSrc C (sD f itemsOf)) := by
  refine PI_mono (PI_or (pi_list he) (PI_or (pi_tup he) (PI_or (pi_str he) (pi_keys (pe_lk he))))) fun sv H R h => ?_
  rcases srcAt h fun _ _ _ _ => itemsOf_no with h | ⟨d, l, s1, s2, e1, h⟩
  · exact .inl (h _)
  · cases d <;> simp only [itemsOf] at e1 <;> cases e1
    · refine .inr (.inr (.inl (h _ fun v H1 Z1 l1 r q k => ?_)))
      cases q
      obtain ⟨G, Y, wk⟩ := walkS (C := C) (Z := Z1) (loc := l1)
      exact ⟨_, rfl, k C _ _ _ _ (CLe.refl C) r wk⟩
    · refine .inr (.inl (h _ fun v H1 Z1 l1 r q k => ?_))
      obtain ⟨a, vs, rfl, hz, q⟩ := q
      have wk := walkT (C := C) (loc := l1) (K := X.K) hz q
      exact ⟨a, rfl, ⟨vs, wk.g Z1 l1 _ sv H1 (Ext.refl _ _) r⟩, k C _ _ _ _ (CLe.refl C) r wk⟩
    · refine .inl (h _ fun v H1 Z1 l1 r q k => ?_)
      obtain ⟨a, vs, rfl, hz, q⟩ := q
      have wk := walkL (C := C) (loc := l1) (K := X.K) hz q
      exact ⟨a, rfl, ⟨vs, wk.g Z1 l1 _ sv H1 (Ext.refl _ _) r⟩, k C _ _ _ _ (CLe.refl C) r wk⟩
    · refine .inr (.inr (.inr (h _ fun v H1 Z1 l1 r q k => lkAt r q (fun x H1 => ∃ d o, x = .ref d ∧ ((∃ kvs, H1 d = some (.frz o (.dK kvs)) ∧ R (Itk d o kvs) H1) ∨ ∃ kvs, H1 d = some (.frz o (.dT kvs)) ∧ R (Itkt d o kvs) H1)) fun d od ws C' H' ev c r' h0 hd q' => ?_)))
      obtain ⟨G, Y, wk⟩ := walkK (C := C') (Z := Z1) (loc := l1) h0 (c.ca ▸ q')
      exact ⟨d, od, ev, .inl ⟨ws, hd, k C' _ _ _ _ c r' wk⟩⟩
section
variable {apos cpos : Pos}
theorem v_keys (he : PE X e (TEx C f)) (hb : attributeBase e "keys" X.env (eval e X.env) = eval e X.env) (hl : (apos.endLine == cpos.line) = true) : PI X tg (.Call (.Attribute e "keys" apos) [] [] cpos) (TSrc C (sD f keysOf)) := by
  refine PI_mono (pi_keysM (pe_lk he) hb hl) fun sv H R h => ?_
  rcases srcAt h fun _ _ _ _ => keysOf_no with h | ⟨d, l, s1, s2, e1, h⟩
  · exact h _
  · cases d <;> simp only [keysOf] at e1 <;> cases e1
    refine h _ fun v H1 Z1 l1 r q k => lkAt r q (fun x H1 => ∃ d o kvs, x = .ref d ∧ H1 d = some (.frz o (.dK kvs)) ∧ R (Itk d o kvs) H1) fun d od ws C' H' ev c r' h0 hd q' => ?_
    obtain ⟨G, Y, wk⟩ := walkK (C := C') (Z := Z1) (loc := l1) h0 (c.ca ▸ q')
    exact ⟨d, od, ws, ev, hd, k C' _ _ _ _ c r' wk⟩
theorem v_vals (he : PE X e (TEx C f)) (hb : attributeBase e "values" X.env (eval e X.env) = eval e X.env) (hl : (apos.endLine == cpos.line) = true) : PI X tg (.Call (.Attribute e "values" apos) [] [] cpos) (TSrc C (sD f valuesOf)) := by
  refine PI_mono (pi_values (pe_lk he) hb hl) fun sv H R h => ?_
  rcases srcAt h fun _ _ _ _ => valuesOf_no with h | ⟨d, l, s1, s2, e1, h⟩
  · exact h _
  · cases d <;> simp only [valuesOf] at e1 <;> cases e1
    refine h _ fun v H1 Z1 l1 r q k => lkAt r q (fun x H1 => ∃ d o kvs, x = .ref d ∧ H1 d = some (.frz o (.dK kvs)) ∧ R (Itd d o kvs) H1) fun d od ws C' H' ev c r' h0 hd q' => ?_
    obtain ⟨G, Y, wk⟩ := walkVals (C := C') (Z := Z1) (loc := l1) h0 (c.ca ▸ q')
    exact ⟨d, od, ws, ev, hd, k C' _ _ _ _ c r' wk⟩
theorem v_items {elts : List Expr} {kk : Nat} {tpos : Pos} (he : PE X e (TEx C f)) (hb : attributeBase e "items" X.env (eval e X.env) = eval e X.env) (hl : (apos.endLine == cpos.line) = true) : PI X (.Tuple elts kk tpos) (.Call (.Attribute e "items" apos) [] [] cpos) (TSrc C (sD f pairsOf)) := by
  refine PI_mono (pi_items (pe_lk he) hb hl) fun sv H R h => ?_
  rcases srcAt h fun _ _ _ _ => pairsOf_no with h | ⟨d, l, s1, s2, e1, h⟩
  · exact h _
  · cases d <;> simp only [pairsOf] at e1 <;> cases e1
    refine h _ fun v H1 Z1 l1 r q k => lkAt r q (fun x H1 => ∃ d o kvs, x = .ref d ∧ H1 d = some (.frz o (.dK kvs)) ∧ R (Iti d o kvs) H1) fun d od ws C' H' ev c r' h0 hd q' => ?_
    obtain ⟨G, Y, wk⟩ := walkItems (C := C') (Z := Z1) (loc := l1) h0 (c.ca ▸ q')
    exact ⟨d, od, ws, ev, hd, k C' _ _ _ _ c r' wk⟩
end
theorem v_enum {p tpos : Pos} {elts : List Expr} {kk : Nat} (he : PE X e (TEx C f)) (hg : Gl X "enumerate") (hm : X.mg "enumerate" = none) (hs : notStar e = true) :
    PI X (.Tuple elts kk tpos) (.Call (.Name "enumerate" p) [e] [] pos) (TSrc C (sD f enumOf)) := by
  have ha : PA X [e] (tCons (TEx C f) tNil) := pa_cons he pa_nil (star_cons hs)
  refine PI_mono (PI_or (pi_enum hg hm ha (star_cons hs)) (pi_enumS hg hm ha (star_cons hs))) fun sv H R h => ?_
  rcases srcAt h fun _ _ _ _ => enumOf_no with h | ⟨d, l, s1, s2, e1, h⟩
  · exact .inl (h _)
  · cases d <;> simp only [enumOf] at e1 <;> cases e1
    · refine .inr (h _ fun v H1 Z1 l1 r q k => ?_)
      cases q
      obtain ⟨G, Y, wk⟩ := walkES (C := C) (Z := Z1) (loc := l1)
      exact ⟨_, rfl, k C _ _ _ _ (CLe.refl C) r wk⟩
    · refine .inl (h _ fun v H1 Z1 l1 r q k => ?_)
      obtain ⟨a, vs, rfl, hz, q⟩ := q
      obtain ⟨G, Y, wk⟩ := walkE (C := C) (loc := l1) (K := X.K) hz q
      exact ⟨a, vs, rfl, (walkL (C := C) (loc := l1) (K := X.K) hz q).g Z1 l1 _ sv H1 (Ext.refl _ _) r, k C _ _ _ _ (CLe.refl C) r wk⟩
theorem v_rev {p : Pos} (he : PE X e (TEx C f)) (hg : Gl X "reversed") (hm : X.mg "reversed" = none) (hs : notStar e = true) :
    PI X tg (.Call (.Name "reversed" p) [e] [] pos) (TSrc C (sD f revOf)) := by
  refine PI_mono (pi_reversed hg hm (pa_cons he pa_nil (star_cons hs)) (star_cons hs)) fun sv H R h => ?_
  rcases srcAt h fun _ _ _ _ => revOf_no with h | ⟨d, l, s1, s2, e1, h⟩
  · exact h _
  · cases d <;> simp only [revOf] at e1 <;> cases e1
    refine h _ fun v H1 Z1 l1 r q k => ?_
    obtain ⟨a, vs, rfl, hz, q⟩ := q
    obtain ⟨G, Y, wk⟩ := walkV (C := C) (loc := l1) (K := X.K) hz q
    exact ⟨a, vs, rfl, (walkL (C := C) (loc := l1) (K := X.K) hz q).g Z1 l1 _ sv H1 (Ext.refl _ _) r, k C _ _ _ _ (CLe.refl C) r wk⟩
def SrcP (C : Cst) (Z : Hp) (loc : List Addr) (sv : L2.St) (r : Res (List Val)) (R : It → Hp → Prop) : Prop :=
  match r with
  | .ok l s' => ∀ Z' loc' H' C' J G Y, CLe C C' → Ext Z loc Z' loc' → SR C' Z' loc' s' sv H' → WalkS C' Z' loc' l J G Y → R J H'
  | .exc x s' => ∀ Z' loc' H' c d, Ext Z loc Z' loc' → SR C Z' loc' s' sv H' → XRep C Z' H' x c d → C.W c d sv H'
  | .stuck => False
theorem SrcP.ext {r : Res (List Val)} {R : It → Hp → Prop} (h : SrcP C Z loc sv r R) (g : Ext Z loc Z' loc') : SrcP C Z' loc' sv r R := by
  cases r with
  | stuck => exact h
  | ok l s => exact fun Z2 l2 H2 C' J G Y c g2 => h Z2 l2 H2 C' J G Y c (g.trans g2)
  | exc x s => exact fun Z2 l2 H2 c d g2 => h Z2 l2 H2 c d (g.trans g2)
def SrcK (fs : State → Res (List RV)) (k : List RV → State → Res (List Val)) (s : State) : Res (List Val) := (fs s).bind k
theorem arAt {fs : State → Res (List RV)} {k : List RV → State → Res (List Val)} {R : It → Hp → Prop} (h : TSrc C (SrcK fs k) sv H R) :
    TAr C fs sv H fun vs H1 => ∃ Z loc s xs, SR C Z loc s sv H1 ∧ RVRs C Z loc s sv H1 xs vs ∧ SrcP C Z loc sv (k xs s) R := by
  obtain ⟨Z, loc, s, r, q⟩ := h
  refine ⟨Z, loc, s, r, ?_⟩
  unfold SrcK at q
  cases e : fs s with
  | stuck => rw [e] at q; exact q.elim
  | exc x s1 => rw [e] at q; exact q
  | ok xs s1 =>
    rw [e] at q
    exact fun Z' l' H' vs g r' q' => ⟨Z', l', s1, xs, r', q', SrcP.ext (r := k xs s1) q g⟩
def dvs (s : State) : List RV → Option (List D)
  | [] => some []
  | r :: rs => match Vw.dv s r, dvs s rs with
    | some d, some ds => some (d :: ds)
    | _, _ => none
theorem SR.dvs (r : SR C Z loc s sv H) : ∀ {rs : List RV} {vs : List V} {ds : List D}, RVRs C Z loc s sv H rs vs → dvs s rs = some ds → RepDs C.cA Z ds vs
  | [], vs, ds, h, e => by cases e; exact h
  | x :: l, vs, ds, ⟨v, t, e1, st, q, h⟩, e => by
    unfold Vw.dvs at e
    split at e
    · rename_i d ds' e2 e3
      cases e
      exact ⟨v, t, e1, r.dv q e2, SR.dvs r h e3⟩
    · cases e

def kRng1 (xs : List RV) (s : State) : Res (List Val) :=
  match dvs s xs with
  | some [.int j] => rngOf 0 j s
  | _ => .stuck
def kRng2 (xs : List RV) (s : State) : Res (List Val) :=
  match dvs s xs with
  | some [.int i, .int j] => rngOf i j s
  | _ => .stuck
def rngC (i j c : Int) (s : State) : Res (List Val) :=
  if (0 < c ∧ c < 2 ^ 30) ∧ -(2 ^ 61) ≤ i ∧ i < 2 ^ 61 ∧ -(2 ^ 61) ≤ j ∧ j < 2 ^ 61 then .ok ((List.range ((j - i + c - 1) / c).toNat).map fun k => .d (.int (i + (k : Nat) * c))) s else .stuck
def kRng3 (xs : List RV) (s : State) : Res (List Val) :=
  match dvs s xs with
  | some [.int i, .int j, .int c] => rngC i j c s
  | _ => .stuck
def kZip (xs : List RV) (s : State) : Res (List Val) := (capAll xs s).bind fun l s => match toDs l with
  | some [.lst l, .lst m] => .ok ((l.zip m).map fun p => .d (.tup [p.1, p.2])) s
  | _ => .stuck
theorem walkC {lo c : Int} {n : Nat} : ∃ G Y, WalkS C Z loc ((List.range n).map fun k => .d (.int (lo + (k : Nat) * c))) (Itc lo c n) G Y := by
  refine ⟨_, _, by simpa using walk_rangeC (lo := lo) (c := c) (n := n), fun _ _ _ _ _ _ _ => trivial, fun Z' loc' s sv H i x v H' g r hx y => ?_⟩
  obtain ⟨rfl, y⟩ := y
  rw [List.getElem?_map] at hx
  obtain ⟨j, h1, h2⟩ := Option.map_eq_some_iff.mp hx
  have h3 := List.getElem?_eq_some_iff.mp h1
  obtain ⟨h4, h5⟩ := h3
  rw [List.getElem_range] at h5
  subst h5 h2
  exact ⟨Z', Ext.refl _ _, Grew.refl _ _, r, y⟩
theorem rgC_ok {i j c : Int} (h : (0 < c ∧ c < 2 ^ 30) ∧ -(2 ^ 61) ≤ i ∧ i < 2 ^ 61 ∧ -(2 ^ 61) ≤ j ∧ j < 2 ^ 61) : RgC i j c ((j - i + c - 1) / c).toNat := by
  obtain ⟨⟨c0, c1⟩, b1, b2, b3, b4⟩ := h
  have hc : c > 0 := c0
  have key : Builtin.Range.rangeSize i j c = (((j - i + c - 1) / c).toNat : Int) := by
    unfold Builtin.Range.rangeSize
    rw [if_pos hc]
    split
    · have e : j - i + c - 1 = (j - i - 1) + 1 * c := by omega
      rw [e, Int.add_mul_ediv_right _ _ (by omega)]
      have := Int.ediv_nonneg (a := j - i - 1) (b := c) (by omega) (by omega)
      omega
    · have : (j - i + c - 1) / c ≤ 0 := by
        have := Int.ediv_le_ediv (a := j - i + c - 1) (b := c - 1) (c := c) c0 (by omega)
        have e : (c - 1) / c = 0 := Int.ediv_eq_zero_of_lt (by omega) (by omega)
        omega
      omega
  refine ⟨by omega, by omega, ?_, key⟩
  have le : (((j - i + c - 1) / c).toNat : Int) ≤ (j - i).toNat + 1 := by
    by_cases hl : i < j
    · have : (j - i + c - 1) / c ≤ j - i := by
        apply Int.ediv_le_of_le_mul c0
        have : (j - i - 1) * (c - 1) ≥ 0 := Int.mul_nonneg (by omega) (by omega)
        grind
      omega
    · have : (j - i + c - 1) / c ≤ 0 := by
        have := Int.ediv_le_ediv (a := j - i + c - 1) (b := c - 1) (c := c) c0 (by omega)
        have e : (c - 1) / c = 0 := Int.ediv_eq_zero_of_lt (by omega) (by omega)
        omega
      omega
  unfold Builtin.Range.small
  rw [key]
  simp only [Builtin.Range.rangeFitsLong, Bool.and_eq_true, Bool.or_eq_true, decide_eq_true_eq, beq_iff_eq, hc, if_true]
  have ub : (((j - i + c - 1) / c).toNat : Int) * c ≤ (j - i).toNat + c := by
    have q := Int.mul_ediv_self_le (x := j - i + c - 1) (k := c) (by omega)
    rcases Int.lt_or_le ((j - i + c - 1) / c) 0 with n | n
    · have : ((j - i + c - 1) / c).toNat = 0 := by omega
      rw [this]; omega
    · rw [Int.toNat_of_nonneg n]
      have : (j - i + c - 1) / c * c = c * ((j - i + c - 1) / c) := Int.mul_comm _ _
      omega
  refine ⟨⟨⟨⟨⟨?_, ?_⟩, ⟨?_, ?_⟩⟩, ⟨?_, ?_⟩⟩, ⟨?_, ?_⟩⟩, .inr ⟨?_, ?_⟩⟩ <;> omega
theorem v_rng1 {p : Pos} {fs : State → Res (List RV)} (ha : PA X [a] (TAr C fs)) (hg : Gl X "range") (hm : X.mg "range" = none) (hs : notStar a = true) :
    PI X tg (.Call (.Name "range" p) [a] [] pos) (TSrc C (SrcK fs kRng1)) := by
  refine PI_mono (pi_range1 hg hm ha (star_cons hs)) fun sv H R h => (arAt h).imp fun vs H1 ⟨Z, loc, s, xs, r, q, h⟩ => ?_
  unfold kRng1 at h
  split at h
  · rename_i j e
    obtain ⟨v, t, rfl, hv, ht⟩ := r.dvs q e
    cases ht; cases hv
    unfold rngOf at h
    split at h
    · rename_i b
      obtain ⟨G, Y, wk⟩ := walkR (C := C) (Z := Z) (loc := loc) (lo := 0) (n := j.toNat)
      exact ⟨j, rfl, b.2.2.1, b.2.2.2, h Z loc H1 C _ _ _ (CLe.refl C) (Ext.refl _ _) r (by simpa using wk)⟩
    · exact h.elim
  · exact h.elim
theorem v_rng2 {p : Pos} {fs : State → Res (List RV)} (ha : PA X [a, b] (TAr C fs)) (hg : Gl X "range") (hm : X.mg "range" = none) (hs : notStar a = true) (hs2 : notStar b = true) :
    PI X tg (.Call (.Name "range" p) [a, b] [] pos) (TSrc C (SrcK fs kRng2)) := by
  refine PI_mono (pi_range2 hg hm ha (by rw [star_cons hs, star_cons hs2]; rfl) (by rw [star_cons hs2]; rfl)) fun sv H R h => (arAt h).imp fun vs H1 ⟨Z, loc, s, xs, r, q, h⟩ => ?_
  unfold kRng2 at h
  split at h
  · rename_i i j e
    obtain ⟨v, t, rfl, hv, w, t', rfl, hw, ht⟩ := r.dvs q e
    cases ht; cases hv; cases hw
    unfold rngOf at h
    split at h
    · rename_i b
      obtain ⟨G, Y, wk⟩ := walkR (C := C) (Z := Z) (loc := loc) (lo := i) (n := (j - i).toNat)
      exact ⟨i, j, rfl, b, h Z loc H1 C _ _ _ (CLe.refl C) (Ext.refl _ _) r wk⟩
    · exact h.elim
  · exact h.elim
theorem v_rng3 {p : Pos} {fs : State → Res (List RV)} (ha : PA X [a, b, c] (TAr C fs)) (hg : Gl X "range") (hm : X.mg "range" = none) (hs : [a, b, c].all notStar = true) :
    PI X tg (.Call (.Name "range" p) [a, b, c] [] pos) (TSrc C (SrcK fs kRng3)) := by
  have hs' := hs
  simp only [List.all_cons, Bool.and_eq_true] at hs
  refine PI_mono (pi_range3 hg hm ha (star_cons hs.1) (star_any (by simp [hs.2]))) fun sv H R h => (arAt h).imp fun vs H1 ⟨Z, loc, s, xs, r, q, h⟩ => ?_
  unfold kRng3 at h
  split at h
  · rename_i i j c e
    obtain ⟨v, t, rfl, hv, w, t', rfl, hw, u, t'', rfl, hu, ht⟩ := r.dvs q e
    cases ht; cases hv; cases hw; cases hu
    unfold rngC at h
    split at h
    · rename_i b
      obtain ⟨G, Y, wk⟩ := walkC (C := C) (Z := Z) (loc := loc) (lo := i) (c := c) (n := ((j - i + c - 1) / c).toNat)
      exact ⟨i, j, c, _, rfl, rgC_ok b, h Z loc H1 C _ _ _ (CLe.refl C) (Ext.refl _ _) r wk⟩
    · exact h.elim
  · exact h.elim
theorem v_zip {p tpos : Pos} {elts : List Expr} {kk : Nat} {fs : State → Res (List RV)} (ha : PA X [a, b] (TAr C fs)) (hg : Gl X "zip") (hm : X.mg "zip" = none) (hs : notStar a = true) (hs2 : notStar b = true) :
    PI X (.Tuple elts kk tpos) (.Call (.Name "zip" p) [a, b] [] pos) (TSrc C (SrcK fs kZip)) := by
  refine PI_mono (RZ.pi_zipA hg hm ha (star_cons hs) (star_any (by simp [hs2]))) fun sv H R h => (arAt h).imp fun vs H1 ⟨Z, loc, s, xs, r, q, h⟩ => ?_
  unfold kZip at h
  cases e : capAll xs s with
  | stuck => rw [e] at h; exact h.elim
  | exc x s1 => exact absurd e capAll_no
  | ok l s1 =>
    rw [e] at h
    obtain ⟨Z1, g, r1, q1⟩ := r.capAll q e
    simp only [Res.bind] at h
    split at h
    · rename_i l1 l2 e1
      obtain rfl := toDs_inv e1
      obtain ⟨v, t, rfl, ⟨a1, vs1, rfl, hz1, k1⟩, w, t', rfl, ⟨a2, vs2, rfl, hz2, k2⟩, ht⟩ := rep_map.mp q1
      cases ht
      obtain ⟨G, Y, wk⟩ := walkZ (C := C) (loc := loc) (K := X.K) hz1 k1 hz2 k2
      have c1 := (walkL (C := C) (loc := loc) (K := X.K) hz1 k1).g Z1 loc _ sv H1 (Ext.refl _ _) r1
      have c2 := (walkL (C := C) (loc := loc) (K := X.K) hz2 k2).g Z1 loc _ sv H1 (Ext.refl _ _) r1
      exact ⟨a1, a2, vs1, vs2, rfl, .inl ⟨c1, c2, h Z1 loc H1 C _ _ _ (CLe.refl C) g r1 wk⟩⟩
    · exact h.elim
end
end Vw
namespace Vw
open PySem L2 PyProof.Rows

/-- a slot's object leaves with the frame -/
def outR (s : State) : RV → Option RV
  | .own i => match s.sg[i]? with
    | some (some (.own o)) => some (.new o)
    | some (some (.v x)) => some (.val x)
    | _ => none
  | r => some r
abbrev Fn := List Val → List Ob → Res RV
def fnV (n : Nat) (b : State → Res Fl) : Fn := fun args st =>
  match b ⟨args.map (fun x => some (.v x)) ++ List.replicate (n - args.length) none, st⟩ with
  | .ok .nx s => .ok (.val (.d .non)) ⟨[], s.st⟩
  | .ok (.ret r) s => match outR s r with
    | some r' => .ok r' ⟨[], s.st⟩
    | none => .stuck
  | .ok _ _ => .stuck
  | .exc x s => .exc x ⟨[], s.st⟩
  | .stuck => .stuck
section
variable {C : Cst} {Z Z' : Hp} {loc loc' : List Addr} {s s' : State} {sv sv' : L2.St} {H H' : Hp}
/-- the frame goes -/
theorem SR.leave (r : SR C Z loc s sv H) : SR C Z loc ⟨[], s.st⟩ [] H :=
  ⟨r.fr, r.zh, r.zf, r.lk, r.ln, r.nd, r.lh, r.cl, fun i x h => by simp at h, fun i o h => by simp at h, fun i j o o' a h => by simp at h, rfl⟩
theorem SR.outR (r : SR C Z loc s sv H) {rv rv' : RV} {v : V} (h : RVR C Z loc s sv H rv v) (e : outR s rv = some rv') : RVR C Z loc ⟨[], s.st⟩ [] H rv' v := by
  cases rv with
  | val x => cases e; exact h
  | new o =>
    cases e
    obtain ⟨a, h1, h2, h3, h4⟩ := h
    exact ⟨a, h1, h2, h3, h4.z, h4.f, h4.l, fun i o h => by simp at h⟩
  | own i =>
    dsimp only [Vw.outR] at e
    split at e
    · rename_i o h1
      cases e
      obtain ⟨a, q1, q2, q3, q4, q5, q6⟩ := r.ow i o h1
      have h : sv[i]? = some (some v) := h
      rw [q1] at h
      cases h
      exact ⟨a, rfl, q2, q3, q4, q5, q6, fun i o h => by simp at h⟩
    · rename_i x h1
      cases e
      obtain ⟨w, q1, q2⟩ := r.vl i x h1
      have h : sv[i]? = some (some v) := h
      rw [q1] at h
      cases h
      exact q2
    · cases e
/-- how a def ends -/
def FPost (C : Cst) (Z : Hp) (loc : List Addr) (r : Res RV) (Q : VK) : Prop :=
  match r with
  | .ok rv s' => ∀ Z' loc' H' v, Ext Z loc Z' loc' → SR C Z' loc' ⟨[], s'.st⟩ [] H' → RVR C Z' loc' ⟨[], s'.st⟩ [] H' rv v → Q v H'
  | .exc x s' => ∀ Z' loc' H' c d, Ext Z loc Z' loc' → SR C Z' loc' ⟨[], s'.st⟩ [] H' → XRep C Z' H' x c d → C.W c d [] H'
  | .stuck => False
/-- the constants at an entry -/
def cstE (cA : String → Addr) (Fr H0 : Hp) (E : XK) : Cst := ⟨cA, Fr, H0, fun c d _ H => E c d H⟩
def spV (cA : String → Addr) (n : Nat) (g : Fn) : Sp := fun vs H Q E => ∃ Fr H0 Z loc args st, SR (cstE cA Fr H0 E) Z loc ⟨[], st⟩ [] H ∧ RepVs cA Z loc args vs ∧ args.length = n ∧ FPost (cstE cA Fr H0 E) Z loc (g args st) Q
theorem lenV {cA : String → Addr} {l : List Val} {vs : List V} (h : RepVs cA Z loc l vs) : l.length = vs.length := repVs_len (C := cstE cA (fun _ => none) (fun _ => none) fun _ _ _ => True) h
theorem spV_len {cA : String → Addr} {n : Nat} {g : Fn} (vs : List V) (H : Hp) (Q : VK) (E : XK) (h : spV cA n g vs H Q E) : vs.length = n := by
  obtain ⟨Fr, H0, Z, loc, args, st, r, q, e, _⟩ := h
  rw [← e, lenV q]
theorem SR.enter {cA : String → Addr} {Fr H0 : Hp} {E : XK} {st : List Ob} {args : List Val} {vs : List V} (r : SR (cstE cA Fr H0 E) Z loc ⟨[], st⟩ [] H) (q : RepVs cA Z loc args vs) (m : Nat) :
    SR (cstE cA Fr H0 E) Z loc ⟨args.map (fun x => some (.v x)) ++ List.replicate m none, st⟩ (vs.map some ++ List.replicate m none) H := by
  have hl := lenV q
  have noOwn : ∀ (i : Nat) (o : Ob), (args.map (fun x => some (Sl.v x)) ++ List.replicate m none)[i]? ≠ some (some (.own o)) := fun i o h => by
    by_cases hi : i < args.length
    · rw [List.getElem?_append_left (by simpa using hi)] at h
      simp [hi] at h
    · rw [List.getElem?_append_right (by simpa using hi)] at h
      have := List.getElem?_eq_some_iff.mp h
      simp at this
  refine ⟨r.fr, r.zh, r.zf, r.lk, r.ln, r.nd, r.lh, r.cl, fun i x h => ?_, fun i o h => absurd h (noOwn i o), fun i j o o' a h => absurd h (noOwn i o), by simp [hl]⟩
  by_cases hi : i < args.length
  · have h : (args.map (fun x => some (Sl.v x)) ++ List.replicate m none)[i]? = some (some (.v x)) := h
    rw [List.getElem?_append_left (by simpa using hi)] at h
    simp [hi] at h
    subst h
    obtain ⟨v, q1, q2⟩ := repVs_get (C := cstE cA Fr H0 E) q (i := i) (x := args[i]) (by simp [hi])
    refine ⟨v, ?_, q2⟩
    rw [List.getElem?_append_left (by simp; omega)]
    simp [q1]
  · have h : (args.map (fun x => some (Sl.v x)) ++ List.replicate m none)[i]? = some (some (.v x)) := h
    rw [List.getElem?_append_right (by simpa using hi)] at h
    have := List.getElem?_eq_some_iff.mp h
    simp at this
end

section
variable {P : Program} {w : World} {K : PySem.W.Frag} {mg : Str → Option Value} {base : Heap} {x qual : Str} {params : Arguments} {body : List Stmt} {scope : Scope} {f : Addr} {fd : FuncData} {N ps : List Str} {cA : String → Addr} {b : State → Res Fl}
theorem body_post {Fr H0 Z : Hp} {loc : List Addr} {args : List Val} {st : List Ob} {vs : List V} {H : Hp} {Q : VK} {E : XK} (r : SR (cstE cA Fr H0 E) Z loc ⟨[], st⟩ [] H) (q : RepVs cA Z loc args vs) (hl : args.length = ps.length)
    (h : FPost (cstE cA Fr H0 E) Z loc (fnV N.length b args st) Q) (hW : ∀ c d H', E c d H' → (cstE cA Fr H0 E).W c d [] H') : TSt (cstE cA Fr H0 E) b { nx := fun _ H' => Q .non H', rt := Q } (L2.start N vs) H := by
  have hv := lenV q
  have es : L2.start N vs = vs.map some ++ List.replicate (N.length - args.length) none := by unfold L2.start; rw [hv]
  rw [es]
  refine ⟨Z, loc, _, SR.enter r q (N.length - args.length), ?_⟩
  unfold fnV at h
  cases e : b ⟨args.map (fun x => some (.v x)) ++ List.replicate (N.length - args.length) none, st⟩ with
  | stuck => rw [e] at h; exact h
  | exc y s1 => rw [e] at h; exact fun Z' l' sv' H' c d g r' x' => h Z' l' H' c d g r'.leave x'
  | ok k s1 =>
    rw [e] at h
    cases k with
    | nx => exact fun Z' l' sv' H' g r' => h Z' l' H' .non g r'.leave rfl
    | brk => exact False.elim h
    | cnt => exact False.elim h
    | ret rv =>
      dsimp only at h
      split at h
      · rename_i rv' e2
        exact fun Z' l' sv' H' v g r' q' => h Z' l' H' v g r'.leave (r'.outR q' e2)
      · exact h.elim
/-- a def keeps its promise (nothing let out) -/
theorem fn_ok {k : Nat} (F : FunD K x qual params body scope [] [] f fd) (S : FnScope N ps scope)
    (hb : ∀ (cdv : Value) (A : Around) (outer : List Env) (s : Shared) (H : Hp) (E : XK) (C : Cst), Room k (A.deeper (envOfC qual scope s.heap.objs.size f cdv)) → C.cA = cA → PSs (cxOf CX0 P w K mg base N qual scope f cdv A outer s H E).nox body (TSt C b)) :
    FnOk P w K mg base CX0 (k + 1) f fd ps (spV cA ps.length (fnV N.length b)) := by
  refine F.ok S spV_len fun cdv A outer s H vs Q E hr h => ?_
  obtain ⟨Fr, H0, Z, loc, args, st, r, q, hl, h⟩ := h
  exact ⟨_, PSs.nox (hb cdv A outer s H E (cstE cA Fr H0 E) hr rfl), body_post (ps := ps) r q hl h fun _ _ _ z => z⟩
end

open Classical in
/-- what a callee must not touch -/
noncomputable def frOf (H Z : Hp) (loc : List Addr) : Hp := fun a => if Z a = none ∧ a ∉ loc then H a else none
theorem frOf_in {H Z : Hp} {loc : List Addr} {a : Addr} (h : Z a = none) (h' : a ∉ loc) : frOf H Z loc a = H a := by unfold frOf; rw [if_pos ⟨h, h'⟩]
theorem frOf_some {H Z : Hp} {loc : List Addr} {a : Addr} {o : HO} (h : frOf H Z loc a = some o) : H a = some o ∧ Z a = none ∧ a ∉ loc := by
  unfold frOf at h
  split at h
  · rename_i q; exact ⟨h, q.1, q.2⟩
  · cases h
section
variable {C : Cst} {Z Z' : Hp} {loc loc' : List Addr} {s s' : State} {sv sv' : L2.St} {H H' : Hp}
variable {X : Cx} {e a b c o : Expr} {es : List Expr} {p pos apos : Pos} {f fa fb fc fo fi fv : State → Res RV}
theorem SR.entry (r : SR C Z loc s sv H) (E : XK) : SR (cstE C.cA (frOf H Z loc) C.H0 E) Z loc ⟨[], s.st⟩ [] H := by
  refine ⟨fun a o h => (frOf_some h).1, r.zh, fun a o h => ?_, r.lk, r.ln, r.nd, fun a h => ⟨(r.lh a h).1, ?_⟩, r.cl, fun i x h => by simp at h, fun i o h => by simp at h, fun i j o o' a h => by simp at h, rfl⟩
  · cases e : frOf H Z loc a with
    | none => exact e
    | some u => rw [(frOf_some e).2.1] at h; cases h
  · cases e : frOf H Z loc a with
    | none => exact e
    | some u => exact absurd h (frOf_some e).2.2
theorem SR.fr_free (r : SR C Z loc s sv H) {a : Addr} {o : HO} (h : C.Fr a = some o) : Z a = none ∧ a ∉ loc := by
  refine ⟨?_, fun z => ?_⟩
  · cases e : Z a with
    | none => rfl
    | some u => rw [r.zf a u e] at h; cases h
  · rw [(r.lh a z).2] at h; cases h
theorem SR.back (r : SR C Z loc s sv H) {E : XK} {st : List Ob} (g : Ext Z loc Z' loc') (r' : SR (cstE C.cA (frOf H Z loc) C.H0 E) Z' loc' ⟨[], st⟩ [] H') : SR C Z' loc' ⟨s.sg, st⟩ sv H' := by
  have z0 : ∀ {a : Addr}, Z a = none → a ∉ loc → H a ≠ none → Z' a = none ∧ a ∉ loc' ∧ H' a = H a := fun {a} h1 h2 h3 => by
    cases e : H a with
    | none => exact absurd e h3
    | some u =>
      have f := (frOf_in (H := H) h1 h2).trans e
      obtain ⟨q1, q2⟩ := r'.fr_free (a := a) f
      exact ⟨q1, q2, r'.fr a u f⟩
  have fz : ∀ {a : Addr} {o : HO}, C.Fr a = some o → Z' a = none ∧ a ∉ loc' ∧ H' a = some o := fun {a o} h => by
    obtain ⟨q1, q2⟩ := r.fr_free h
    have e := r.fr a o h
    obtain ⟨q3, q4, q5⟩ := z0 q1 q2 (by rw [e]; simp)
    exact ⟨q3, q4, q5.trans e⟩
  refine ⟨fun a o h => (fz h).2.2, r'.zh, fun a o h => ?_, r'.lk, r'.ln, r'.nd, fun a h => ⟨(r'.lh a h).1, ?_⟩, r'.cl, fun i x h => ?_, fun i o h => ?_, r.oi, r.ls⟩
  · cases e : C.Fr a with
    | none => rfl
    | some u => rw [(fz e).1] at h; cases h
  · cases e : C.Fr a with
    | none => rfl
    | some u => exact absurd h (fz e).2.1
  · obtain ⟨v, q1, q2⟩ := r.vl i x h
    exact ⟨v, q1, RepV.mono g x q2⟩
  · obtain ⟨a, q1, q2, q3, q4, q5, q6⟩ := r.ow i o h
    obtain ⟨w1, w2, w3⟩ := z0 q4 q6 (cell_ne q2 q3)
    exact ⟨a, q1, q2, (q3.at w3).mono g (Same.refl _), w1, q5, w2⟩
theorem RVR.back (r : SR C Z loc s sv H) {E : XK} {st : List Ob} {rv : RV} {v : V} (r' : SR (cstE C.cA (frOf H Z loc) C.H0 E) Z' loc' ⟨[], st⟩ [] H') (q : RVR (cstE C.cA (frOf H Z loc) C.H0 E) Z' loc' ⟨[], st⟩ [] H' rv v) : RVR C Z' loc' ⟨s.sg, st⟩ sv H' rv v := by
  cases rv with
  | val x => exact q
  | own i => exact absurd (show ([] : L2.St)[i]? = some (some v) from q) (by simp)
  | new o =>
    obtain ⟨a, h1, h2, h3, h4⟩ := q
    refine ⟨a, h1, h2, h3, h4.z, ?_, h4.l, fun i o h e => ?_⟩
    · cases e : C.Fr a with
      | none => rfl
      | some u =>
        obtain ⟨q1, q2⟩ := r.fr_free e
        have := (frOf_in (H := H) q1 q2).trans (r.fr a u e)
        have f := h4.f
        rw [show (cstE C.cA (frOf H Z loc) C.H0 E).Fr a = _ from this] at f
        cases f
    · obtain ⟨b, q1, q2, q3, q4, q5, q6⟩ := r.ow i o h
      rw [e] at q1
      cases q1
      have f := h4.f
      rw [show (cstE C.cA (frOf H Z loc) C.H0 E).Fr a = _ from frOf_in q4 q6] at f
      exact cell_ne q2 q3 f
/-- what a call gives: nothing is let out -/
def callR (g : Fn) (args : List Val) (s : State) : Res RV :=
  match g args s.st with
  | .ok r s2 => .ok r ⟨s.sg, s2.st⟩
  | _ => .stuck
def fCall (n : Nat) (fs : State → Res (List RV)) (g : Fn) (s : State) : Res RV := (fs s).bind fun rs s => (capAll rs s).bind fun args s => if args.length = n then callR g args s else .stuck
theorem TAr.at {fs : State → Res (List RV)} {k : List RV → State → Res RV} {Q : VK} (h : TEx C (fun s => (fs s).bind k) sv H Q) :
    TAr C fs sv H fun vs H1 => ∃ Z loc s xs, SR C Z loc s sv H1 ∧ RVRs C Z loc s sv H1 xs vs ∧ EPost C Z loc sv (k xs s) Q := by
  obtain ⟨Z, loc, s, r, q⟩ := h
  refine ⟨Z, loc, s, r, ?_⟩
  cases e : fs s with
  | stuck => simp only [e, Res.bind] at q; exact q
  | exc x s1 => simp only [e, Res.bind] at q; exact q
  | ok xs s1 =>
    simp only [e, Res.bind] at q
    exact fun Z' l' H' vs g r' q' => ⟨Z', l', s1, xs, r', q', EPost.ext q g⟩
theorem sp_of {g : Fn} {n : Nat} {args : List Val} {vs : List V} {Q : VK} (r : SR C Z loc s sv H) (q : RepVs C.cA Z loc args vs) (hn : args.length = n) (h : EPost C Z loc sv (callR g args s) Q) : spV C.cA n g vs H Q E0 := by
  refine ⟨frOf H Z loc, C.H0, Z, loc, args, s.st, r.entry _, q, hn, ?_⟩
  unfold callR at h
  cases e : g args s.st with
  | stuck => rw [e] at h; exact h
  | exc x s1 => rw [e] at h; exact h.elim
  | ok rv s1 =>
    rw [e] at h
    exact fun Z' l' H' v g r' q' => h Z' l' H' v g (r.back g r') (RVR.back r r' q')
theorem v_call {CX : CXT} {k : Nat} {fA : Addr} {fd : FuncData} {ps : List Str} {x : Str} {g : Fn} {fs : State → Res (List RV)} (F : FnOk X.prog X.w X.K X.mg X.base CX k fA fd ps (spV C.cA ps.length g)) (hr : Room k X.A) (hg : Gl X x) (hm : X.mg x = some (.ref fA)) (hk : PySem.W.keepIn X.K (.ref fA) = true)
    (hb : Binds X.K fd ps []) (hx : Passes CX X E0) (ha : PA X (e :: es) (TAr C fs)) (hdb : (x == ("__debug__" : Str)) = false) (hs : (e :: es).all notStar = true) :
    PE X (.Call (.Name x p) (e :: es) [] pos) (TEx C (fCall ps.length fs g)) := by
  have hs' := hs
  simp only [List.all_cons, Bool.and_eq_true] at hs
  refine PE_mono (pe_call F hr hg hm hk hb .nil hx ha hdb (star_cons hs.1) (star_any hs.2)) fun sv H Q h => (TAr.at h).imp fun vs H1 ⟨Z, loc, s, xs, r, q, h⟩ => ?_
  rw [List.append_nil]
  cases e1 : capAll xs s with
  | stuck => rw [e1] at h; exact h.elim
  | exc x s1 => exact absurd e1 capAll_no
  | ok args s1 =>
    rw [e1] at h
    simp only [Res.bind] at h
    obtain ⟨Z1, g1, r1, q1⟩ := r.capAll q e1
    split at h
    · rename_i hn
      exact sp_of r1 q1 hn (EPost.ext h g1)
    · exact h.elim
theorem v_call0 {CX : CXT} {k : Nat} {fA : Addr} {fd : FuncData} {ps : List Str} {x : Str} {g : Fn} (F : FnOk X.prog X.w X.K X.mg X.base CX k fA fd ps (spV C.cA ps.length g)) (hr : Room k X.A) (hg : Gl X x) (hm : X.mg x = some (.ref fA)) (hk : PySem.W.keepIn X.K (.ref fA) = true)
    (hb : Binds X.K fd ps []) (hx : Passes CX X E0) (hdb : (x == ("__debug__" : Str)) = false) :
    PE X (.Call (.Name x p) [] [] pos) (TEx C (fCall ps.length (evA []) g)) := by
  refine PE_mono (pe_call0 F hr hg hm hk hb .nil hx hdb) fun sv H Q ⟨Z, loc, s, r, h⟩ => ?_
  show spV C.cA ps.length g ([] ++ []) H Q E0
  unfold fCall at h
  simp only [evA, Res.bind, capAll] at h
  split at h
  · rename_i hn
    exact sp_of r (args := []) rfl hn h
  · exact h.elim
end
end Vw
namespace Vw
open PySem L2 PyProof.Rows

def plainOb : Ob → Bool
  | .lst _ => true
  | .ins _ _ => true
  | _ => false
/-- the datum that a value is while nobody changes it -/
def pvP (s : State) (r : RV) : Option D :=
  match dv s r with
  | some d => some d
  | none => match ob s r with
    | some o => if plainOb o then o.toD else none
    | none => none
def pvPs (s : State) : List RV → Option (List D)
  | [] => some []
  | r :: rs => match pvP s r, pvPs s rs with
    | some d, some ds => some (d :: ds)
    | _, _ => none
/-- no object within -/
def scal : D → Bool
  | .non => true
  | .bl _ => true
  | .int _ => true
  | .str _ => true
  | _ => false
def fLook (n : Nat) (fs : State → Res (List RV)) (g : Fn) (s : State) : Res RV := (fs s).bind fun rs s => match pvPs s rs with
  | some ds => if ds.length = n then (match g (ds.map .d) [] with
    | .ok (.val (.d x)) _ => if scal x then .ok (.val (.d x)) s else .stuck
    | _ => .stuck) else .stuck
  | none => .stuck
section
variable {C : Cst} {Z Z' Zc : Hp} {loc loc' : List Addr} {s s' : State} {sv sv' : L2.St} {H H' : Hp}
variable {X : Cx} {e a b c o : Expr} {es : List Expr} {p pos apos : Pos} {f fa fb fc fo fi fv : State → Res RV}
theorem SR.obz (r : SR C Z loc s sv H) {rv : RV} {v : V} {o : Ob} (h : RVR C Z loc s sv H rv v) (e : Vw.ob s rv = some o) : ∃ a, v = .ref a ∧ o ≠ .gone ∧ Cell C.cA Z loc H a o ∧ Z a = none := by
  have q := r.nrm h
  unfold Vw.ob at e
  split at e
  · rename_i i e1
    rw [e1] at q
    split at e
    · rename_i o' e2
      cases e
      obtain ⟨a, h1, h2, h3, h4, _⟩ := r.ow i _ e2
      rw [show sv[i]? = some (some v) from q] at h1
      cases h1
      exact ⟨a, rfl, h2, h3, h4⟩
    · cases e
  · rename_i n e1
    rw [e1] at q
    obtain ⟨a, h1, h2⟩ := q
    split at e
    · cases e
    · rename_i o' ne e2
      cases e
      exact ⟨a, h2, ne, r.cl n a _ h1 e2 ne⟩
    · cases e
  · cases e
/-- what only is looked at, beside what stays -/
structure GoodZ (Z H Zc : Hp) : Prop where
  up : Same Z Zc
  at_ : ∀ (a : Addr) (o : HO), Zc a = some o → Z a = some o ∨ (H a = some o ∧ isDic o = false)
theorem GoodZ.refl : GoodZ Z H Z := ⟨Same.refl _, fun a o h => .inl h⟩
theorem GoodZ.rz (g : GoodZ Z H Zc) (r : SR C Z loc s sv H) {a : Addr} {o : HO} (h : Zc a = some o) : Rz H a o := (g.at_ a o h).elim (r.zh a o) fun q => .inl q.1
theorem plain_cell {cA : String → Addr} {o : Ob} (p : plainOb o = true) {a : Addr} (h : Cell cA Z loc H a o) : ∃ u, H a = some u ∧ isDic u = false := by
  cases o with
  | lst l => obtain ⟨xs, e, _⟩ := h; exact ⟨_, e, rfl⟩
  | ins c l => obtain ⟨dx, xs, e, _⟩ := h; exact ⟨_, e, rfl⟩
  | dic k l => cases p
  | dit k l => cases p
  | gone => cases p
theorem SR.pvP (r : SR C Z loc s sv H) (g : GoodZ Z H Zc) {rv : RV} {v : V} {d : D} (h : RVR C Z loc s sv H rv v) (e : Vw.pvP s rv = some d) : ∃ Zd, Same Zc Zd ∧ GoodZ Z H Zd ∧ RepD C.cA Zd d v := by
  unfold Vw.pvP at e
  split at e
  · rename_i d' e1
    cases e
    exact ⟨Zc, Same.refl _, g, RepD.mono g.up _ (r.dv h e1)⟩
  · split at e
    · rename_i o e1
      split at e
      · rename_i p
        obtain ⟨a, rfl, ne, cell, z⟩ := r.obz h e1
        obtain ⟨u, h1, h2⟩ := cell_toD cell e z
        obtain ⟨u', h3, h4⟩ := plain_cell p cell
        rw [h1] at h3
        cases h3
        cases ez : Zc a with
        | none =>
          refine ⟨upd Zc a u, same_upd ez, ⟨g.up.trans (same_upd ez), fun b w hb => ?_⟩, RepD.mono (fun b w hb => ?_) d h2⟩
          · by_cases hba : b = a
            · subst hba
              rw [upd_same] at hb
              cases hb
              exact .inr ⟨h1, h4⟩
            · rw [upd_ne hba] at hb
              exact g.at_ b w hb
          · by_cases hba : b = a
            · subst hba
              rw [upd_same] at hb ⊢
              exact hb
            · rw [upd_ne hba] at hb ⊢
              exact g.up b w hb
        | some w =>
          have hw : w = u := by
            rcases g.at_ a w ez with q | ⟨q, _⟩
            · rw [z] at q; cases q
            · rw [h1] at q; cases q; rfl
          subst hw
          refine ⟨Zc, Same.refl _, g, RepD.mono (fun b w' hb => ?_) d h2⟩
          by_cases hba : b = a
          · subst hba
            rw [upd_same] at hb
            rw [ez]; exact hb
          · rw [upd_ne hba] at hb
            exact g.up b w' hb
      · cases e
    · cases e
theorem SR.pvPs (r : SR C Z loc s sv H) : ∀ {Zc : Hp} {rs : List RV} {vs : List V} {ds : List D}, GoodZ Z H Zc → RVRs C Z loc s sv H rs vs → Vw.pvPs s rs = some ds → ∃ Zd, Same Zc Zd ∧ GoodZ Z H Zd ∧ RepDs C.cA Zd ds vs
  | Zc, [], vs, ds, g, h, e => by cases e; exact ⟨Zc, Same.refl _, g, h⟩
  | Zc, x :: l, vs, ds, g, ⟨v, t, e1, st, q, h⟩, e => by
    unfold Vw.pvPs at e
    split at e
    · rename_i d ds' e2 e3
      cases e
      obtain ⟨Z1, s1, g1, r1⟩ := r.pvP g q e2
      obtain ⟨Z2, s2, g2, r2⟩ := SR.pvPs r g1 h e3
      exact ⟨Z2, s1.trans s2, g2, v, t, e1, RepD.mono s2 d r1, r2⟩
    · cases e
theorem repDs_map {cA : String → Addr} : ∀ {ds : List D} {vs : List V}, RepDs cA Z ds vs → RepVs cA Z [] (ds.map .d) vs
  | [], vs, h => h
  | d :: ds, vs, ⟨v, t, e, q, h⟩ => ⟨v, t, e, q, repDs_map h⟩
theorem SR.look (r : SR C Z loc s sv H) (g : GoodZ Z H Zc) (E : XK) : SR (cstE C.cA (frOf H Zc []) C.H0 E) Zc [] ⟨[], []⟩ [] H := by
  refine ⟨fun a o h => (frOf_some h).1, fun a o h => g.rz r h, fun a o h => ?_, r.lk, rfl, List.nodup_nil, fun a h => by simp at h, fun n a o h => by simp at h, fun i x h => by simp at h, fun i o h => by simp at h, fun i j o o' a h => by simp at h, rfl⟩
  cases e : frOf H Zc [] a with
  | none => exact e
  | some u => rw [(frOf_some e).2.1] at h; cases h
theorem SR.looked (r : SR C Z loc s sv H) (g : GoodZ Z H Zc) {E : XK} {st : List Ob} {Zd : Hp} {ld : List Addr} (x : Ext Zc [] Zd ld) (r' : SR (cstE C.cA (frOf H Zc []) C.H0 E) Zd ld ⟨[], st⟩ [] H') : SR C Z loc s sv H' := by
  have st : ∀ {a : Addr} {u : HO}, H a = some u → Z a = none → H' a = H a := fun {a u} h hz => by
    cases ez : Zc a with
    | none => rw [h]; exact r'.fr a u ((frOf_in ez (by simp)).trans h)
    | some w =>
      rcases g.at_ a w ez with q | ⟨q1, q2⟩
      · rw [hz] at q; cases q
      · rw [q1]; exact (r'.zh a w (x.1 a w ez)).at q2
  have ne : ∀ {a : Addr}, H a ≠ none → H' a ≠ none := fun {a} h => by
    cases eh : H a with
    | none => exact absurd eh h
    | some u =>
      cases ez : Z a with
      | none => rw [st eh ez]; exact h
      | some w => exact rd_some (r'.zh a w (x.1 a w (g.up a w ez)))
  refine ⟨fun a o h => ?_, fun a o h => r'.zh a o (x.1 a o (g.up a o h)), r.zf, r'.lk, r.ln, r.nd, fun a h => ⟨ne (r.lh a h).1, (r.lh a h).2⟩, fun n a o h1 h2 h3 => ?_, r.vl, fun i o h => ?_, r.oi, r.ls⟩
  · have q := r.fr a o h
    rw [st q (r.fr_free h).1]; exact q
  · obtain ⟨q1, q2⟩ := r.cl n a o h1 h2 h3
    cases eh : H a with
    | none => exact absurd eh (cell_ne h3 q1)
    | some u => exact ⟨q1.at (st eh q2), q2⟩
  · obtain ⟨a, q1, q2, q3, q4, q5⟩ := r.ow i o h
    cases eh : H a with
    | none => exact absurd eh (cell_ne q2 q3)
    | some u => exact ⟨a, q1, q2, q3.at (st eh q4), q4, q5⟩
theorem scal_rep {cA : String → Addr} {d : D} {v : V} (p : scal d = true) (h : RepD cA Z' d v) : RepD cA Z d v := by
  cases d <;> first | exact h | cases p
theorem sp_look {g : Fn} {n : Nat} {rs : List RV} {ds : List D} {vs : List V} {Q : VK} (r : SR C Z loc s sv H) (q : RVRs C Z loc s sv H rs vs) (e : pvPs s rs = some ds) (hn : ds.length = n)
    (h : EPost C Z loc sv (match g (ds.map .d) [] with | .ok (.val (.d x)) _ => if scal x then .ok (.val (.d x)) s else .stuck | _ => .stuck) Q) : spV C.cA n g vs H Q E0 := by
  obtain ⟨Zc, _, gz, q1⟩ := r.pvPs (GoodZ.refl) q e
  refine ⟨frOf H Zc [], C.H0, Zc, [], ds.map .d, [], r.look gz _, repDs_map q1, by simpa using hn, ?_⟩
  split at h
  · rename_i x s1 e1
    rw [e1]
    split at h
    · rename_i p
      exact fun Z' l' H' v g r' q' => h Z loc H' v (Ext.refl _ _) (r.looked gz g r') (scal_rep (Z := Z) p q')
    · exact h.elim
  · exact h.elim
theorem v_look {CX : CXT} {k : Nat} {fA : Addr} {fd : FuncData} {ps : List Str} {x : Str} {g : Fn} {fs : State → Res (List RV)} (F : FnOk X.prog X.w X.K X.mg X.base CX k fA fd ps (spV C.cA ps.length g)) (hr : Room k X.A) (hg : Gl X x) (hm : X.mg x = some (.ref fA)) (hk : PySem.W.keepIn X.K (.ref fA) = true)
    (hb : Binds X.K fd ps []) (hx : Passes CX X E0) (ha : PA X (e :: es) (TAr C fs)) (hdb : (x == ("__debug__" : Str)) = false) (hs : (e :: es).all notStar = true) :
    PE X (.Call (.Name x p) (e :: es) [] pos) (TEx C (fLook ps.length fs g)) := by
  have hs' := hs
  simp only [List.all_cons, Bool.and_eq_true] at hs
  refine PE_mono (pe_call F hr hg hm hk hb .nil hx ha hdb (star_cons hs.1) (star_any hs.2)) fun sv H Q h => (TAr.at h).imp fun vs H1 ⟨Z, loc, s, xs, r, q, h⟩ => ?_
  rw [List.append_nil]
  split at h
  · rename_i ds e1
    split at h
    · rename_i hn
      exact sp_look r q e1 hn h
    · exact h.elim
  · exact h.elim
end
end Vw
namespace Vw
open PySem L2 PyProof.Rows

def wipeG (g : Slots) : List Nat → Slots
  | [] => g
  | v :: vs => (wipeG g vs).set v none
def wipeS (vs : List Nat) (s : State) : State := { s with sg := wipeG s.sg vs }
def lcI (vs : List Nat) (t : Tg) (ft : State → Res Bool) (fe : State → Res RV) : List Val → List Val → State → Res (List Val)
  | [], acc, s => .ok acc s
  | x :: l, acc, s => match asgT t x (wipeS vs s) with
    | none => .stuck
    | some s => match ft s with
      | .ok true s => match fe s with
        | .ok rv s => match cap rv s with
          | .ok y s => if acc.length < sizeLine then lcI vs t ft fe l (acc ++ [y]) (wipeS vs s) else .stuck
          | _ => .stuck
        | _ => .stuck
      | .ok false s => lcI vs t ft fe l acc (wipeS vs s)
      | _ => .stuck
def lcE (acc : List Val) (s : State) : Res RV := .ok (.new (.lst acc)) s
def fLc (vs : List Nat) (t : Tg) (src : State → Res (List Val)) (ft : State → Res Bool) (fe : State → Res RV) (s : State) : Res RV := (src s).bind fun l s => (lcI vs t ft fe l [] (wipeS vs s)).bind lcE
section
variable {C : Cst} {Z Z' Zc : Hp} {loc loc' : List Addr} {s s' : State} {sv sv' : L2.St} {H H' : Hp}
variable {X : Cx} {elt tg iter : Expr} {ifs : List Expr} {scope : Scope} {own : List (Str × Nat)} {p pos : Pos} {f fa fb fc fo fi fv fe : State → Res RV} {ft : State → Res Bool}
theorem SR.wipe (r : SR C Z loc s sv H) : ∀ vs : List Nat, SR C Z loc (wipeS vs s) (L2.wipe sv vs) H
  | [] => r
  | v :: vs => (SR.wipe r vs).unset v none
theorem wipeG_some {g : Slots} {i : Nat} {x : Sl} : ∀ {vs : List Nat}, (wipeG g vs)[i]? = some (some x) → g[i]? = some (some x)
  | [], h => h
  | v :: vs, h => by
    unfold wipeG at h
    rcases set_get h with ⟨_, q⟩ | ⟨_, q⟩
    · cases q
    · exact wipeG_some q
theorem SR.unwipe {vs : List Nat} (r : SR C Z loc s (L2.wipe sv vs) H) : SR C Z loc s sv H := by
  refine ⟨r.fr, r.zh, r.zf, r.lk, r.ln, r.nd, r.lh, r.cl, fun i x h => ?_, fun i o h => ?_, fun i j o o' a h h' h1 h2 => ?_, by rw [r.ls, wipe_length]⟩
  · obtain ⟨v, q1, q2⟩ := r.vl i x h
    exact ⟨v, (wipe_some q1).1, q2⟩
  · obtain ⟨a, q1, q2⟩ := r.ow i o h
    exact ⟨a, (wipe_some q1).1, q2⟩
  · obtain ⟨b, q1, _⟩ := r.ow i o h
    obtain ⟨c, q2, _⟩ := r.ow j o' h'
    have e1 := (wipe_some q1).1
    have e2 := (wipe_some q2).1
    rw [h1] at e1
    rw [h2] at e2
    cases e1; cases e2
    exact r.oi i j o o' _ h h' q1 q2
theorem Free.wipe {D : Addr} (f : Free C Z loc s sv D) (vs : List Nat) : Free C Z loc (wipeS vs s) (L2.wipe sv vs) D :=
  ⟨f.z, f.f, f.l, fun i o h e => f.o i o (wipeG_some h) (wipe_some e).1⟩
theorem wipe_at {i : Nat} : ∀ {vs : List Nat}, i ∈ vs → i < sv.length → (L2.wipe sv vs)[i]? = some none
  | [], h, _ => by simp at h
  | v :: vs, h, hl => by
    unfold L2.wipe
    by_cases hv : v = i
    · subst hv
      exact List.getElem?_set_self (by rw [wipe_length]; exact hl)
    · rw [List.getElem?_set_ne hv]
      exact wipe_at (by simpa [Ne.symm hv] using h) hl
theorem wipe_off {vs l : List Nat} (h : Off l (L2.wipe sv vs) sv') (hl : ∀ i ∈ l, i ∈ vs) : L2.wipe sv' vs = L2.wipe sv vs := by
  have len : sv'.length = sv.length := by rw [h.1, wipe_length]
  refine List.ext_getElem? fun i => ?_
  by_cases hi : i < sv.length
  · by_cases hv : i ∈ vs
    · rw [wipe_at hv hi, wipe_at hv (by rw [len]; exact hi)]
    · rw [wipe_out hv, h.2 i fun z => hv (hl i z)]
  · rw [List.getElem?_eq_none (by rw [wipe_length, len]; omega), List.getElem?_eq_none (by rw [wipe_length]; omega)]
theorem wipe_wipe (vs : List Nat) : L2.wipe (L2.wipe sv vs) vs = L2.wipe sv vs := wipe_off (l := vs) ⟨rfl, fun _ _ => rfl⟩ fun _ h => h
/-- an object held from outside -/
def holdC (C : Cst) (D : Addr) (o : HO) : Cst := ⟨C.cA, upd C.Fr D o, C.H0, fun _ _ _ _ => False⟩
theorem SR.hold (r : SR C Z loc s sv H) {D : Addr} {o : HO} (h : H D = some o) (f : Free C Z loc s sv D) : SR (holdC C D o) Z loc s sv H := by
  have ne : ∀ {a : Addr}, a ≠ D → (holdC C D o).Fr a = C.Fr a := fun {a} h => upd_ne h
  refine ⟨fun a u q => ?_, r.zh, fun a u q => ?_, r.lk, r.ln, r.nd, fun a q => ⟨(r.lh a q).1, ?_⟩, r.cl, r.vl, fun i ob q => ?_, r.oi, r.ls⟩
  · by_cases ha : a = D
    · subst ha
      have q : upd C.Fr a o a = some u := q
      rw [upd_same] at q
      cases q
      exact h
    · rw [ne ha] at q; exact r.fr a u q
  · have ha : a ≠ D := fun z => by rw [z, f.z] at q; cases q
    rw [ne ha]; exact r.zf a u q
  · have ha : a ≠ D := fun z => f.l (z ▸ q)
    rw [ne ha]; exact (r.lh a q).2
  · obtain ⟨a, q1, q2, q3, q4, q5, q6⟩ := r.ow i ob q
    have ha : a ≠ D := fun z => f.o i ob q (z ▸ q1)
    exact ⟨a, q1, q2, q3, q4, (ne ha).trans q5, q6⟩
theorem SR.held {D : Addr} {o : HO} (f : C.Fr D = none) (r : SR (holdC C D o) Z loc s sv H) : SR C Z loc s sv H ∧ H D = some o ∧ Free C Z loc s sv D := by
  have ne : ∀ {a : Addr}, (holdC C D o).Fr a = none → a ≠ D ∧ C.Fr a = none := fun {a} h => by
    have ha : a ≠ D := fun z => by
      subst z
      have h : upd C.Fr a o a = none := h
      rw [upd_same] at h
      cases h
    exact ⟨ha, (upd_ne ha).symm.trans h⟩
  have hD : (holdC C D o).Fr D = some o := upd_same
  refine ⟨⟨fun a u q => ?_, r.zh, fun a u q => (ne (r.zf a u q)).2, r.lk, r.ln, r.nd, fun a q => ⟨(r.lh a q).1, (ne (r.lh a q).2).2⟩, r.cl, r.vl, fun i ob q => ?_, r.oi, r.ls⟩, r.fr D o hD, ⟨?_, f, fun z => ?_, fun i ob q e => ?_⟩⟩
  · have ha : a ≠ D := fun z => by rw [z, f] at q; cases q
    exact r.fr a u ((upd_ne ha).trans q)
  · obtain ⟨a, q1, q2, q3, q4, q5, q6⟩ := r.ow i ob q
    exact ⟨a, q1, q2, q3, q4, (ne q5).2, q6⟩
  · cases e : Z D with
    | none => rfl
    | some u => rw [r.zf D u e] at hD; cases hD
  · rw [(r.lh D z).2] at hD; cases hD
  · obtain ⟨a, q1, q2, q3, q4, q5, q6⟩ := r.ow i ob q
    rw [e] at q1
    cases q1
    exact (ne q5).1 rfl
/-- a free object is written -/
theorem SR.wfree (r : SR C Z loc s sv H) {D : Addr} {o u : HO} (h : H D = some o) (nf : ∀ x w, o ≠ .frz x w) (f : Free C Z loc s sv D) : SR C Z loc s sv (upd H D u) := by
  refine ⟨fun a w q => ?_, fun a w q => ?_, r.zf, fun a w v q => ?_, r.ln, r.nd, fun a q => ⟨?_, (r.lh a q).2⟩, fun n a ob h1 h2 h3 => ?_, r.vl, fun i ob q => ?_, r.oi, r.ls⟩
  · have ha : a ≠ D := fun z => by rw [z, f.f] at q; cases q
    rw [upd_ne ha]; exact r.fr a w q
  · have ha : a ≠ D := fun z => by rw [z, f.z] at q; cases q
    unfold Rz
    rw [upd_ne ha]; exact r.zh a w q
  · have q' := r.lk a w v q
    have ha : a ≠ D := fun z => by
      rw [z, h] at q'
      cases q'
      exact nf _ _ rfl
    rw [upd_ne ha]; exact q'
  · have ha : a ≠ D := fun z => f.l (z ▸ q)
    rw [upd_ne ha]; exact (r.lh a q).1
  · have ha : a ≠ D := fun z => f.l (z ▸ List.mem_of_getElem? h1)
    obtain ⟨q1, q2⟩ := r.cl n a ob h1 h2 h3
    exact ⟨q1.at (upd_ne ha), q2⟩
  · obtain ⟨a, q1, q2, q3, q4, q5, q6⟩ := r.ow i ob q
    have ha : a ≠ D := fun z => f.o i ob q (z ▸ q1)
    exact ⟨a, q1, q2, q3.at (upd_ne ha), q4, q5, q6⟩
theorem Free.grew {D : Addr} {o : HO} (f : Free C Z loc s sv D) (h : H D = some o) (g : Grew H Z H' Z') : Free C Z' loc s sv D := ⟨(g.2 D (by rw [h]; simp)).trans f.z, f.f, f.l, f.o⟩
def fTrue (s : State) : Res Bool := .ok true s
theorem v_tnil : PTs X [] (TBx C fTrue) := ⟨fun pins s sv H Q I ⟨Z, loc, s0, r, q⟩ => pts_nil.run pins s sv H Q I (q Z loc H (Ext.refl _ _) r)⟩
theorem v_tone {c : Expr} (h : PT X c (TBx C ft)) : PTs X [c] (TBx C ft) := pts_one h
abbrev lcG (C : Cst) (t : Tg) : TG := fun v sv H Q => ∃ C', C'.cA = C.cA ∧ TTg C' t v sv H Q
abbrev lcT (C : Cst) (ft : State → Res Bool) : TT := fun sv H Q => ∃ C', C'.cA = C.cA ∧ TBx C' ft sv H Q
abbrev lcX (C : Cst) (fe : State → Res RV) : TE := fun sv H Q => ∃ C', C'.cA = C.cA ∧ TEx C' fe sv H Q
theorem lc_run {t : Tg} {src : State → Res (List Val)} {vs : List Nat} {Q : VK} (hv : ∀ i ∈ tgS t, i ∈ vs) (h : TEx C (fLc vs t src ft fe) sv H Q) : tLc (TSrc C src) (lcG C t) (lcT C ft) (lcX C fe) vs sv H Q := by
  obtain ⟨Z, loc, s, r, q⟩ := h
  refine ⟨Z, loc, s, r, ?_⟩
  unfold fLc at q
  cases e : src s with
  | stuck => rw [e] at q; exact q
  | exc x s1 => rw [e] at q; exact q
  | ok l s1 =>
    rw [e] at q
    simp only [Res.bind_ok] at q
    intro Z1 l1 H1 C' J G Y cle g1 r1 wk D hD
    have hf := ((r1.wipe vs).free hD)
    have cF : C'.Fr D = none := hf.f
    refine lc_it (g := lcG C t) (tt := lcT C ft) (te := lcX C fe) (vs := vs) (σ := sv) wk.w (fun i H => ∃ Z2 l2 s2 acc xs, Ext Z1 l1 Z2 l2 ∧ SR C' Z2 l2 s2 (L2.wipe sv vs) H ∧ H D = some (.lst xs) ∧ Free C' Z2 l2 s2 (L2.wipe sv vs) D ∧ RepVs C'.cA Z2 l2 acc xs ∧ EPost C Z2 l2 sv ((lcI vs t ft fe (l.drop i) acc s2).bind lcE) Q)
      ⟨Z1, l1, wipeS vs s1, [], [], Ext.refl _ _, (r1.wipe vs).grow (same_upd hD), upd_same, hf, rfl, EPost.ext q g1⟩ (fun i H _ ⟨Z2, l2, s2, acc, xs, g2, r2, _⟩ => wk.g Z2 l2 s2 _ H g2 r2) ?_ ?_
    · rintro i v H2 H3 hi ⟨Z2, l2, s2, acc, xs, g2, r2, hx, f2, ra, q2⟩ hy
      rw [List.drop_eq_getElem_cons hi] at q2
      obtain ⟨Z3, g3, gr, r3, q3⟩ := wk.y Z2 l2 s2 _ H2 i l[i] v H3 g2 r2 (by simp [hi]) hy
      have f3 := (f2.grew hx gr).wipe vs
      rw [wipe_wipe] at f3
      have r3' := r3.wipe vs
      rw [wipe_wipe] at r3'
      have hx3 := gr.1 D _ hx
      refine ⟨holdC C' D (.lst xs), cle.ca, Z3, l2, wipeS vs s2, l[i], r3'.hold hx3 f3, q3, ?_⟩
      unfold lcI at q2
      cases e1 : asgT t l[i] (wipeS vs s2) with
      | none => rw [e1] at q2; exact q2
      | some s3 =>
        rw [e1] at q2
        intro sv4 off r4
        have we := wipe_off off hv
        refine ⟨we, holdC C' D (.lst xs), cle.ca, Z3, l2, s3, r4, ?_⟩
        dsimp only at q2
        have q2' := EPost.ext q2 g3
        cases e2 : ft s3 with
        | stuck => rw [e2] at q2'; exact q2'
        | exc x s4 => rw [e2] at q2'; exact False.elim q2'
        | ok b s4 =>
          rw [e2] at q2'
          intro Z5 l5 H5 g5 r5
          cases b with
          | false =>
            obtain ⟨r5', hx5, f5⟩ := r5.held cF
            have r6 := r5'.wipe vs
            have f6 := f5.wipe vs
            rw [we] at r6 f6
            exact ⟨Z5, l5, wipeS vs s4, acc, xs, g2.trans (g3.trans g5), r6, hx5, f6, RepVs.mono (g3.trans g5) _ ra, EPost.ext q2' g5⟩
          | true =>
            refine ⟨holdC C' D (.lst xs), cle.ca, Z5, l5, s4, r5, ?_⟩
            dsimp only at q2'
            cases e3 : fe s4 with
            | stuck => rw [e3] at q2'; exact q2'
            | exc x s5 => rw [e3] at q2'; exact False.elim q2'
            | ok rv s5 =>
              rw [e3] at q2'
              dsimp only at q2'
              intro Z6 l6 H6 v6 g6 r6 q6
              cases e4 : cap rv s5 with
              | stuck => rw [e4] at q2'; exact False.elim q2'
              | exc x s6 => rw [e4] at q2'; exact False.elim q2'
              | ok y s6 =>
                rw [e4] at q2'
                dsimp only at q2'
                obtain ⟨Z7, g7, r7, q7⟩ := r6.cap q6 e4
                obtain ⟨r8, hx8, f8⟩ := r7.held cF
                have gg := g3.trans (g5.trans (g6.trans g7))
                have ra' := RepVs.mono gg _ ra
                split at q2'
                · rename_i hlt
                  refine ⟨xs, hx8, by rw [← repVs_len ra]; exact hlt, ?_⟩
                  have r9 := (r8.wfree (u := .lst (xs ++ [v6])) hx8 (fun _ _ z => nomatch z) f8).wipe vs
                  have f9 := f8.wipe vs
                  rw [we] at r9 f9
                  exact ⟨Z7, l6, wipeS vs s6, acc ++ [y], xs ++ [v6], g2.trans gg, r9, upd_same, f9, repVs_app ra' ⟨v6, [], rfl, q7, rfl⟩, EPost.ext q2' (g5.trans (g6.trans g7))⟩
                · exact False.elim q2'
    · rintro H2 ⟨Z2, l2, s2, acc, xs, g2, r2, hx, f2, ra, q2⟩
      rw [List.drop_length] at q2
      refine q2 Z2 l2 H2 (.ref D) (Ext.refl _ _) (SR.le cle r2).unwipe ⟨D, rfl, by simp, ⟨xs, hx, by rw [← cle.ca]; exact ra⟩, f2.z, by rw [← cle.fr]; exact f2.f, f2.l, fun i o h e => ?_⟩
      obtain ⟨b, q1, _⟩ := r2.ow i o h
      have e1 := (wipe_some q1).1
      rw [e] at e1
      cases e1
      exact f2.o i o h q1
theorem asg_post {i : Nat} {D : Ends} (hi : i < sv.length) (h : TSt C (sAsg i f) D sv H) : TEx C f sv H fun v H1 => D.nx (sv.set i (some v)) H1 := by
  obtain ⟨Z, loc, s, r, q⟩ := h
  refine (TEx.bindS r q).imp fun v H1 ⟨Z1, l1, s1, y, g1, r1, q1, h1⟩ => ?_
  unfold optF at h1
  split at h1
  · rename_i s2 e2
    obtain ⟨Z2, g2, r2⟩ := r1.putS hi q1 e2
    exact (h1.ext g2).nx r2
  · exact h1.elim
/-- what stands within the block -/
structure Blk (X : Cx) (C : Cst) (scope : Scope) (tg elt : Expr) (ifs : List Expr) (t : Tg) (ft : State → Res Bool) (fe : State → Res RV) : Prop where
  go : ∀ (s : Shared) (H : Hp) (D : Addr) (cl : List (Str × Addr)) (fp : List Addr) (C' : Cst), C'.cA = C.cA →
    PG (X.blk s H scope (compEnvC scope cl D X.env) fp) tg (TTg C' t) ∧ PTs (X.blk s H scope (compEnvC scope cl D X.env) fp) ifs (TBx C' ft) ∧ PE (X.blk s H scope (compEnvC scope cl D X.env) fp) elt (TEx C' fe)
theorem v_lc {t : Tg} {src : State → Res (List Val)} (hc : X.calm = true) (hN : X.N.Nodup) (hi : PI X tg iter (TSrc C src)) (ok : BlkOk X.N X.env.scope scope own) (hb : Blk X C scope tg elt ifs t ft fe) (hs : notSet iter = true) (hv : ∀ i ∈ tgS t, i ∈ own.map (·.2)) :
    PE X (.ListComp elt [⟨tg, iter, ifs, 0⟩] scope pos) (TEx C (fLc (own.map (·.2)) t src ft fe)) :=
  PE_mono (pe_lc (g := lcG C t) (tt := lcT C ft) (te := lcX C fe) hc hN hi ok
    (fun s H D cl fp => ⟨fun pins s0 sv H0 v u Q I r ⟨C', c, q⟩ => (hb.go s H D cl fp C' c).1.run pins s0 sv H0 v u Q I r q⟩)
    (fun s H D cl fp => ⟨fun pins s0 sv H0 Q I ⟨C', c, q⟩ => (hb.go s H D cl fp C' c).2.1.run pins s0 sv H0 Q I q⟩)
    (fun s H D cl fp => ⟨fun pins s0 sv H0 Q I ⟨C', c, q⟩ => (hb.go s H D cl fp C' c).2.2.run pins s0 sv H0 Q I q⟩) (fold_ok hs)) fun sv H Q h => lc_run hv h
/-- y = [..] on one line -/
theorem v_setLc {t : Tg} {src : State → Res (List Val)} {i : Nat} {y : Str} {py spos : Pos} (hc : X.calm = true) (hN : X.N.Nodup) (hy : X.N[i]? = some y) (hyl : X.env.scope.names.lookup y = some .local) (hk : X.env.scope.kind = .function)
    (hl : (py.line == pos.line) = true) (ha : (scope.names.any fun (n, k) => n == y && (k == .local || k == .cell)) = false)
    (hi : PI X tg iter (TSrc C src)) (ok : BlkOk X.N X.env.scope scope own) (hb : Blk X C scope tg elt ifs t ft fe) (hs : notSet iter = true) (hv : ∀ i ∈ tgS t, i ∈ own.map (·.2)) :
    PS X (.Assign [.Name y py] (.ListComp elt [⟨tg, iter, ifs, 0⟩] scope pos) spos) (TSt C (sAsg i (fLc (own.map (·.2)) t src ft fe))) := by
  refine PS_mono' (ps_setLc (i := i) (g := lcG C t) (tt := lcT C ft) (te := lcX C fe) hc hN hy hyl (sw_true hk hyl hl ha) hi ok
    (fun s H D cl fp => ⟨fun pins s0 sv H0 v u Q I r ⟨C', c, q⟩ => (hb.go s H D cl fp C' c).1.run pins s0 sv H0 v u Q I r q⟩)
    (fun s H D cl fp => ⟨fun pins s0 sv H0 Q I ⟨C', c, q⟩ => (hb.go s H D cl fp C' c).2.1.run pins s0 sv H0 Q I q⟩)
    (fun s H D cl fp => ⟨fun pins s0 sv H0 Q I ⟨C', c, q⟩ => (hb.go s H D cl fp C' c).2.2.run pins s0 sv H0 Q I q⟩) (fold_ok hs)) fun D sv H hl h => ?_
  exact lc_run hv (asg_post (by rw [hl]; exact (List.getElem?_eq_some_iff.mp hy).1) h)
/-- y = [..], y a cell -/
theorem v_asgc {e : Expr} {i : Nat} {x : Str} (hN : X.N.Nodup) (hi : X.N[i]? = some x) (hx : Loc X.env.scope x) (hf : X.fn x = true ∨ X.env.scope.names.lookup x = some .local) (h : PE X e (TEx C f)) (hsw : swapsWith e (some (.Name x p)) pos.line X.env = pure false) :
    PS X (.Assign [.Name x p] e pos) (TSt C (sAsg i f)) :=
  PS_mono' (ps_set hN hi hx h hsw hf) fun D sv H hl h => asg_post (by rw [hl]; exact (List.getElem?_eq_some_iff.mp hi).1) h
end
end Vw
namespace Vw
open PySem L2 PyProof.Rows

def fBlt (fs : State → Res (List RV)) (b : List RV → State → Res RV) (s : State) : Res RV := (fs s).bind b
def fMt (T : String) (fo : State → Res RV) (fs : State → Res (List RV)) (b : RV → List RV → State → Res RV) (ty : State → RV → Bool) (s : State) : Res RV :=
  (ev fo s).bind fun o s => if ty s o then (fs s).bind fun rs s => b o rs s else .stuck
def tyStr (s : State) (r : RV) : Bool := match dv s r with
  | some (.str _) => true
  | _ => false
def tyLst (s : State) (r : RV) : Bool := (lv s r).isSome
def intsOf : List Val → Option (List Int)
  | [] => some []
  | .d (.int i) :: r => (intsOf r).map (i :: ·)
  | _ => none
def blsOf : List Val → Option (List Bool)
  | [] => some []
  | .d (.bl i) :: r => (blsOf r).map (i :: ·)
  | _ => none
def strsOf : List Val → Option (List (List Nat))
  | [] => some []
  | .d (.str i) :: r => (strsOf r).map (i :: ·)
  | _ => none
/-- the items of a list or a tuple -/
def sq (s : State) (r : RV) : Option (List Val) :=
  match lv s r with
  | some l => some l
  | none => tv s r
def bLen (rs : List RV) (s : State) : Res RV :=
  match rs with
  | [x] => match dv s x with
    | some (.str t) => if t.length ≤ sizeLine then okv (.int t.length) s else .stuck
    | _ => match sq s x with
      | some l => okv (.int l.length) s
      | none => .stuck
  | _ => .stuck
def bList (rs : List RV) (s : State) : Res RV :=
  match rs with
  | [x] => match sq s x with
    | some l => .ok (.new (.lst l)) s
    | none => .stuck
  | _ => .stuck
def bAbs (rs : List RV) (s : State) : Res RV :=
  match rs with
  | [x] => match dv s x with
    | some (.int i) => okv (.int (if i < 0 then -i else i)) s
    | _ => .stuck
  | _ => .stuck
def bMax2 (rs : List RV) (s : State) : Res RV :=
  match rs with
  | [x, y] => match dv s x, dv s y with
    | some (.int i), some (.int j) => okv (.int (if j > i then j else i)) s
    | _, _ => .stuck
  | _ => .stuck
def bMin2 (rs : List RV) (s : State) : Res RV :=
  match rs with
  | [x, y] => match dv s x, dv s y with
    | some (.int i), some (.int j) => okv (.int (if j < i then j else i)) s
    | _, _ => .stuck
  | _ => .stuck
def maxI : List Int → Int
  | [] => 0
  | x :: r => r.foldl max x
def minI : List Int → Int
  | [] => 0
  | x :: r => r.foldl min x
def bMaxL (rs : List RV) (s : State) : Res RV :=
  match rs with
  | [x] => match (lv s x).bind intsOf with
    | some (n :: ns) => okv (.int (maxI (n :: ns))) s
    | _ => .stuck
  | _ => .stuck
def bMinL (rs : List RV) (s : State) : Res RV :=
  match rs with
  | [x] => match (lv s x).bind intsOf with
    | some (n :: ns) => okv (.int (minI (n :: ns))) s
    | _ => .stuck
  | _ => .stuck
def bSum (rs : List RV) (s : State) : Res RV :=
  match rs with
  | [x] => match (lv s x).bind intsOf with
    | some ns => okv (.int ns.sum) s
    | _ => .stuck
  | _ => .stuck
def bAny (rs : List RV) (s : State) : Res RV :=
  match rs with
  | [x] => match (lv s x).bind blsOf with
    | some ns => okv (.bl (ns.any id)) s
    | _ => .stuck
  | _ => .stuck
def bAll (rs : List RV) (s : State) : Res RV :=
  match rs with
  | [x] => match (lv s x).bind blsOf with
    | some ns => okv (.bl (ns.all id)) s
    | _ => .stuck
  | _ => .stuck
def bOrd (rs : List RV) (s : State) : Res RV :=
  match rs with
  | [x] => match dv s x with
    | some (.str [c]) => okv (.int c) s
    | _ => .stuck
  | _ => .stuck
def sDig (i : Int) : List Nat := (Str.ofString (toString i)).cps.toList
def bStrI (rs : List RV) (s : State) : Res RV :=
  match rs with
  | [x] => match dv s x with
    | some (.int i) => if i.natAbs.log2 < 1920 then okv (.str (sDig i)) s else .stuck
    | _ => .stuck
  | _ => .stuck
def bAppend (o : RV) (rs : List RV) (s : State) : Res RV :=
  match rs with
  | [x] => (cap x s).bind fun y s => match ob s o with
    | some (.lst l) => if l.length < sizeLine then .ok (.val (.d .non)) (wr o (.lst (l ++ [y])) s) else .stuck
    | _ => .stuck
  | _ => .stuck
def bPop (o : RV) (rs : List RV) (s : State) : Res RV :=
  match rs with
  | [] => match ob s o with
    | some (.lst l) => match l[l.length - 1]? with
      | some y => .ok (.val y) (wr o (.lst l.dropLast) s)
      | none => .stuck
    | _ => .stuck
  | _ => .stuck
def bPopAt (o : RV) (rs : List RV) (s : State) : Res RV :=
  match rs with
  | [x] => match dv s x with
    | some (.int i) => match ob s o with
      | some (.lst l) => if -(2 ^ 63) ≤ i ∧ i < 2 ^ 63 then (match (seqIndex? i l.length) with
        | some k => match l[k]? with
          | some y => .ok (.val y) (wr o (.lst (l.eraseIdx k)) s)
          | none => .stuck
        | none => .stuck) else .stuck
      | _ => .stuck
    | _ => .stuck
  | _ => .stuck
def bReverse (o : RV) (rs : List RV) (s : State) : Res RV :=
  match rs with
  | [] => match ob s o with
    | some (.lst l) => .ok (.val (.d .non)) (wr o (.lst l.reverse) s)
    | _ => .stuck
  | _ => .stuck
def bClear (o : RV) (rs : List RV) (s : State) : Res RV :=
  match rs with
  | [] => match ob s o with
    | some (.lst _) => .ok (.val (.d .non)) (wr o (.lst []) s)
    | _ => .stuck
  | _ => .stuck

section
variable {C : Cst} {Z Z' Zc : Hp} {loc loc' : List Addr} {s s' : State} {sv sv' : L2.St} {H H' : Hp}
variable {X : Cx} {e a b c o : Expr} {es : List Expr} {p pos apos : Pos} {f fa fb fc fo fi fv : State → Res RV} {fs : State → Res (List RV)}
def BltS (C : Cst) (b : List RV → State → Res RV) (r : List V → Hp → VK → Prop) : Prop := ∀ (Z : Hp) (loc : List Addr) (s : State) (sv : L2.St) (H : Hp) (rs : List RV) (vs : List V) (Q : VK), SR C Z loc s sv H → RVRs C Z loc s sv H rs vs → EPost C Z loc sv (b rs s) Q → r vs H Q
def MtS (C : Cst) (b : RV → List RV → State → Res RV) (r : V → List V → Hp → VK → Prop) : Prop := ∀ (Z : Hp) (loc : List Addr) (s : State) (sv : L2.St) (H : Hp) (o : RV) (v : V) (rs : List RV) (vs : List V) (Q : VK), SR C Z loc s sv H → RVR C Z loc s sv H o v → RVRs C Z loc s sv H rs vs → EPost C Z loc sv (b o rs s) Q → r v vs H Q
def TyS (C : Cst) (T : String) (ty : State → RV → Bool) : Prop := ∀ (K : PySem.W.Frag) (Z : Hp) (loc : List Addr) (s : State) (sv : L2.St) (H : Hp) (o : RV) (v : V), SR C Z loc s sv H → RVR C Z loc s sv H o v → ty s o = true → tyV K T v H
theorem v_blt {id : String} {x : Str} {r : List V → Hp → VK → Prop} {bf : List RV → State → Res RV} (hc : CallR X (.builtin id) r) (hS : BltS C bf r) (hg : Gl X x) (hm : X.mg x = none) (hv : bootBuiltins x = some (.builtin id)) (ha : PA X (e :: es) (TAr C fs)) (hs : (e :: es).all notStar = true) (hn : x ≠ "__name__") (hdb : (x == ("__debug__" : Str)) = false) :
    PE X (.Call (.Name x p) (e :: es) [] pos) (TEx C (fBlt fs bf)) := by
  have hs' := hs
  simp only [List.all_cons, Bool.and_eq_true] at hs
  exact PE_mono (pe_callB hc hg hm hv ha hn hdb (star_cons hs.1) (star_any hs.2)) fun sv H Q h => (TAr.at h).imp fun vs H1 ⟨Z, loc, s, xs, r, q, h⟩ => hS Z loc s sv H1 xs vs Q r q h
theorem v_bltT {T : String} {x : Str} {r : List V → Hp → VK → Prop} {bf : List RV → State → Res RV} (hc : CallR X (.type T) r) (hS : BltS C bf r) (hg : Gl X x) (hm : X.mg x = none) (hv : bootBuiltins x = some (.type T)) (ha : PA X (e :: es) (TAr C fs)) (hs : (e :: es).all notStar = true) (hn : x ≠ "__name__") (hdb : (x == ("__debug__" : Str)) = false) :
    PE X (.Call (.Name x p) (e :: es) [] pos) (TEx C (fBlt fs bf)) := by
  have hs' := hs
  simp only [List.all_cons, Bool.and_eq_true] at hs
  exact PE_mono (pe_callTy hc hg hm hv ha hn hdb (star_cons hs.1) (star_any hs.2)) fun sv H Q h => (TAr.at h).imp fun vs H1 ⟨Z, loc, s, xs, r, q, h⟩ => hS Z loc s sv H1 xs vs Q r q h
theorem mt_at {T : String} {r : V → List V → Hp → VK → Prop} {bf : RV → List RV → State → Res RV} {ty : State → RV → Bool} {Q : VK} (K : PySem.W.Frag) (hS : MtS C bf r) (hT : TyS C T ty) (h : TEx C (fMt T fo fs bf ty) sv H Q) :
    TEx C fo sv H fun x H1 => tyV K T x H1 ∧ TAr C fs sv H1 fun xs H2 => r x xs H2 Q := by
  obtain ⟨Z, loc, s, r, q⟩ := h
  refine (TEx.evE r q).imp fun v H1 ⟨Z1, l1, s1, y, g1, r1, st1, q1, h1⟩ => ?_
  split at h1
  · rename_i ht
    refine ⟨hT K Z1 l1 s1 sv H1 y v r1 q1 ht, ?_⟩
    refine ⟨Z1, l1, s1, r1, ?_⟩
    cases e : fs s1 with
    | stuck => simp only [e, Res.bind] at h1; exact h1
    | exc x s2 => simp only [e, Res.bind] at h1; exact h1
    | ok xs s2 =>
      simp only [e, Res.bind] at h1
      exact fun Z' l' H' vs g r' q' => hS Z' l' s2 sv H' y v xs vs Q r' (RVR.mono g st1 q1) q' (EPost.ext h1 g)
  · exact h1.elim
theorem v_mt {T id : String} {name : Str} {r : V → List V → Hp → VK → Prop} {bf : RV → List RV → State → Res RV} {ty : State → RV → Bool} (pa : PlainAttrs T) (slot : Slot T name id) (hty : typeOf (.builtin id) = pure (.type "method_descriptor")) (hm : MtR X id r) (hS : MtS C bf r) (hT : TyS C T ty)
    (ho : PE X o (TEx C fo)) (ha : PA X (e :: es) (TAr C fs)) (hb : abOk o = true) (hs : (e :: es).all notStar = true) (hl : (e :: es).length < 20) (hline : (apos.endLine == pos.line) = true) :
    PE X (.Call (.Attribute o name apos) (e :: es) [] pos) (TEx C (fMt T fo fs bf ty)) := by
  have hs' := hs
  simp only [List.all_cons, Bool.and_eq_true] at hs'
  exact PE_mono (pe_bm pa slot hty hm ho ha (ab_ok hb) (few_ok hs hl) hline (star_cons hs'.1) (star_any hs'.2)) fun sv H Q h => mt_at X.K hS hT h
theorem v_mt0 {T id : String} {name : Str} {r : V → List V → Hp → VK → Prop} {bf : RV → List RV → State → Res RV} {ty : State → RV → Bool} (pa : PlainAttrs T) (slot : Slot T name id) (hty : typeOf (.builtin id) = pure (.type "method_descriptor")) (hm : MtR X id r) (hS : MtS C bf r) (hT : TyS C T ty)
    (ho : PE X o (TEx C fo)) (hb : abOk o = true) (hline : (apos.endLine == pos.line) = true) :
    PE X (.Call (.Attribute o name apos) [] [] pos) (TEx C (fMt T fo (evA []) bf ty)) := by
  refine PE_mono (pe_bm0 pa slot hty hm ho (ab_ok hb) hline) fun sv H Q h => (mt_at X.K hS hT h).imp fun v H1 ⟨h1, Z, loc, s, r, q⟩ => ⟨h1, q Z loc H1 [] (Ext.refl _ _) r rfl⟩
theorem SR.sq (r : SR C Z loc s sv H) {K : PySem.W.Frag} {rv : RV} {v : V} {l : List Val} (h : RVR C Z loc s sv H rv v) (e : Vw.sq s rv = some l) : ∃ a xs, v = .ref a ∧ (SqL K H a xs ∨ SqT K H a xs) ∧ RepVs C.cA Z loc l xs := by
  unfold Vw.sq at e
  split at e
  · rename_i l' e1
    cases e
    obtain ⟨a, xs, h1, h2, h3⟩ := r.lv h e1
    exact ⟨a, xs, h1, .inl (.inl h2), h3⟩
  · obtain ⟨a, xs, h1, h2, h3⟩ := r.tv h e
    exact ⟨a, xs, h1, .inr (.inl (.inl h2)), h3⟩
theorem intsOf_rep : ∀ {l : List Val} {ns : List Int} {xs : List V}, intsOf l = some ns → RepVs C.cA Z loc l xs → xs = ns.map V.int
  | [], ns, xs, e, h => by cases e; exact h
  | .d (.int i) :: r, ns, xs, e, ⟨v, t, e1, q, h⟩ => by
    unfold intsOf at e
    obtain ⟨m, e2, rfl⟩ := Option.map_eq_some_iff.mp e
    rw [e1, intsOf_rep e2 h, show v = _ from q]
    rfl
  | .d .non :: r, ns, xs, e, h => by cases e
  | .d (.bl _) :: r, ns, xs, e, h => by cases e
  | .d (.str _) :: r, ns, xs, e, h => by cases e
  | .d (.tup _) :: r, ns, xs, e, h => by cases e
  | .d (.lst _) :: r, ns, xs, e, h => by cases e
  | .d (.dic _) :: r, ns, xs, e, h => by cases e
  | .d (.dit _) :: r, ns, xs, e, h => by cases e
  | .d (.ins _ _) :: r, ns, xs, e, h => by cases e
  | .r _ :: r, ns, xs, e, h => by cases e
  | .tp _ :: r, ns, xs, e, h => by cases e
theorem blsOf_rep : ∀ {l : List Val} {ns : List Bool} {xs : List V}, blsOf l = some ns → RepVs C.cA Z loc l xs → xs = ns.map V.bl
  | [], ns, xs, e, h => by cases e; exact h
  | .d (.bl i) :: r, ns, xs, e, ⟨v, t, e1, q, h⟩ => by
    unfold blsOf at e
    obtain ⟨m, e2, rfl⟩ := Option.map_eq_some_iff.mp e
    rw [e1, blsOf_rep e2 h, show v = _ from q]
    rfl
  | .d .non :: r, ns, xs, e, h => by cases e
  | .d (.int _) :: r, ns, xs, e, h => by cases e
  | .d (.str _) :: r, ns, xs, e, h => by cases e
  | .d (.tup _) :: r, ns, xs, e, h => by cases e
  | .d (.lst _) :: r, ns, xs, e, h => by cases e
  | .d (.dic _) :: r, ns, xs, e, h => by cases e
  | .d (.dit _) :: r, ns, xs, e, h => by cases e
  | .d (.ins _ _) :: r, ns, xs, e, h => by cases e
  | .r _ :: r, ns, xs, e, h => by cases e
  | .tp _ :: r, ns, xs, e, h => by cases e
theorem SR.ints (r : SR C Z loc s sv H) (K : PySem.W.Frag) {rv : RV} {v : V} {ns : List Int} (h : RVR C Z loc s sv H rv v) (e : (Vw.lv s rv).bind intsOf = some ns) : ∃ a, v = .ref a ∧ SqL K H a (ns.map V.int) := by
  obtain ⟨l, e1, e2⟩ := Option.bind_eq_some_iff.mp e
  obtain ⟨a, xs, h1, h2, h3⟩ := r.lv h e1
  rw [intsOf_rep e2 h3] at h2
  exact ⟨a, h1, .inl h2⟩
theorem SR.bls (r : SR C Z loc s sv H) (K : PySem.W.Frag) {rv : RV} {v : V} {ns : List Bool} (h : RVR C Z loc s sv H rv v) (e : (Vw.lv s rv).bind blsOf = some ns) : ∃ a, v = .ref a ∧ SqL K H a (ns.map V.bl) := by
  obtain ⟨l, e1, e2⟩ := Option.bind_eq_some_iff.mp e
  obtain ⟨a, xs, h1, h2, h3⟩ := r.lv h e1
  rw [blsOf_rep e2 h3] at h2
  exact ⟨a, h1, .inl h2⟩
theorem bLen_ok (K : PySem.W.Frag) : BltS C bLen (fun xs H Q => ∃ x n, xs = [x] ∧ LenV K x H n ∧ Q (.int n) H) := by
  intro Z loc s sv H rs vs Q r q h
  unfold bLen at h
  split at h
  · rename_i x
    obtain ⟨v, t, rfl, st, q1, q2⟩ := q
    cases q2
    split at h
    · rename_i t e
      have q3 : v = .str ⟨t.toArray⟩ := r.dv q1 e
      subst q3
      split at h
      · rename_i hl
        exact ⟨_, t.length, rfl, ⟨by simpa [Str.length] using hl, by simp [Str.length]⟩, h.okv r rfl⟩
      · exact h.elim
    · split at h
      · rename_i l e
        obtain ⟨a, xs, rfl, h1, h2⟩ := r.sq (K := K) q1 e
        refine ⟨_, l.length, rfl, ?_, h.okv r rfl⟩
        have el := repVs_len h2
        exact h1.elim (fun z => .inl ⟨xs, z, el⟩) fun z => .inr ⟨xs, z, el⟩
      · exact h.elim
  · exact h.elim
theorem bList_ok (K : PySem.W.Frag) : BltS C bList (fun xs H Q => ∃ p ys, xs = [.ref p] ∧ (SqL K H p ys ∨ SqT K H p ys) ∧ ∀ l, H l = none → Q (.ref l) (upd H l (.lst ys))) := by
  intro Z loc s sv H rs vs Q r q h
  unfold bList at h
  split at h
  · rename_i x
    obtain ⟨v, t, rfl, st, q1, q2⟩ := q
    cases q2
    split at h
    · rename_i l e
      obtain ⟨a, xs, rfl, h1, h2⟩ := r.sq (K := K) q1 e
      exact ⟨a, xs, rfl, h1, fun p np => h.new r np (by simp) ⟨xs, upd_same, h2⟩⟩
    · exact h.elim
  · exact h.elim
theorem dv1 (r : SR C Z loc s sv H) {x : RV} {vs : List V} {d : D} (q : RVRs C Z loc s sv H [x] vs) (e : dv s x = some d) : ∃ v, vs = [v] ∧ RepD C.cA Z d v := by
  obtain ⟨v, t, rfl, st, q1, q2⟩ := q
  cases q2
  exact ⟨v, rfl, r.dv q1 e⟩
theorem dv2 (r : SR C Z loc s sv H) {x y : RV} {vs : List V} {d d' : D} (q : RVRs C Z loc s sv H [x, y] vs) (e : dv s x = some d) (e' : dv s y = some d') : ∃ v w, vs = [v, w] ∧ RepD C.cA Z d v ∧ RepD C.cA Z d' w := by
  obtain ⟨v, t, rfl, st, q1, w, t', rfl, st', q1', q2⟩ := q
  cases q2
  exact ⟨v, w, rfl, r.dv q1 e, r.dv q1' e'⟩
theorem bAbs_ok : BltS C bAbs (fun xs H Q => ∃ i, xs = [.int i] ∧ Q (.int (if i < 0 then -i else i)) H) := by
  intro Z loc s sv H rs vs Q r q h
  unfold bAbs at h
  split at h
  · split at h
    · rename_i i e
      obtain ⟨v, rfl, rfl⟩ := dv1 r q e
      exact ⟨i, rfl, h.okv r rfl⟩
    · exact h.elim
  · exact h.elim
theorem bMax2_ok : BltS C bMax2 (fun xs H Q => ∃ i j, xs = [.int i, .int j] ∧ Q (.int (if j > i then j else i)) H) := by
  intro Z loc s sv H rs vs Q r q h
  unfold bMax2 at h
  split at h
  · split at h
    · rename_i i j e e'
      obtain ⟨v, w, rfl, rfl, rfl⟩ := dv2 r q e e'
      exact ⟨i, j, rfl, h.okv r rfl⟩
    · exact h.elim
  · exact h.elim
theorem bMin2_ok : BltS C bMin2 (fun xs H Q => ∃ i j, xs = [.int i, .int j] ∧ Q (.int (if j < i then j else i)) H) := by
  intro Z loc s sv H rs vs Q r q h
  unfold bMin2 at h
  split at h
  · split at h
    · rename_i i j e e'
      obtain ⟨v, w, rfl, rfl, rfl⟩ := dv2 r q e e'
      exact ⟨i, j, rfl, h.okv r rfl⟩
    · exact h.elim
  · exact h.elim
theorem foldl_max : ∀ (l : List Int) (x : Int), (∀ y ∈ x :: l, y ≤ l.foldl max x) ∧ l.foldl max x ∈ x :: l
  | [], x => by simp
  | y :: l, x => by
    have ⟨h1, h2⟩ := foldl_max l (max x y)
    simp only [List.foldl_cons]
    refine ⟨fun z hz => ?_, ?_⟩
    · have hm := h1 (max x y) (by simp)
      simp only [List.mem_cons] at hz
      rcases hz with rfl | rfl | hz
      · omega
      · omega
      · exact h1 z (by simp [hz])
    · simp only [List.mem_cons] at h2 ⊢
      rcases h2 with h2 | h2
      · rw [h2]
        rcases Int.le_total x y with q | q
        · exact .inr (.inl (by omega))
        · exact .inl (by omega)
      · exact .inr (.inr h2)
theorem foldl_min : ∀ (l : List Int) (x : Int), (∀ y ∈ x :: l, l.foldl min x ≤ y) ∧ l.foldl min x ∈ x :: l
  | [], x => by simp
  | y :: l, x => by
    have ⟨h1, h2⟩ := foldl_min l (min x y)
    simp only [List.foldl_cons]
    refine ⟨fun z hz => ?_, ?_⟩
    · have hm := h1 (min x y) (by simp)
      simp only [List.mem_cons] at hz
      rcases hz with rfl | rfl | hz
      · omega
      · omega
      · exact h1 z (by simp [hz])
    · simp only [List.mem_cons] at h2 ⊢
      rcases h2 with h2 | h2
      · rw [h2]
        rcases Int.le_total x y with q | q
        · exact .inl (by omega)
        · exact .inr (.inl (by omega))
      · exact .inr (.inr h2)
theorem maxI_eq {n m : Int} {ns : List Int} (h : m ∈ n :: ns) (h' : ∀ y, y ∈ n :: ns → y ≤ m) : m = maxI (n :: ns) := by
  obtain ⟨h1, h2⟩ := foldl_max ns n
  exact Int.le_antisymm (h1 m h) (h' _ h2)
theorem minI_eq {n m : Int} {ns : List Int} (h : m ∈ n :: ns) (h' : ∀ y, y ∈ n :: ns → m ≤ y) : m = minI (n :: ns) := by
  obtain ⟨h1, h2⟩ := foldl_min ns n
  exact Int.le_antisymm (h' _ h2) (h1 m h)
theorem bMaxL_ok (K : PySem.W.Frag) : BltS C bMaxL (rMax K) := by
  intro Z loc s sv H rs vs Q r q h
  unfold bMaxL at h
  split at h
  · obtain ⟨v, t, rfl, st, q1, q2⟩ := q
    cases q2
    split at h
    · rename_i n ns e
      obtain ⟨a, rfl, h1⟩ := r.ints K q1 e
      exact ⟨a, n :: ns, rfl, h1, by simp, fun m hm hm' => maxI_eq hm hm' ▸ h.okv r rfl⟩
    · exact h.elim
  · exact h.elim
theorem bMinL_ok (K : PySem.W.Frag) : BltS C bMinL (rMin K) := by
  intro Z loc s sv H rs vs Q r q h
  unfold bMinL at h
  split at h
  · obtain ⟨v, t, rfl, st, q1, q2⟩ := q
    cases q2
    split at h
    · rename_i n ns e
      obtain ⟨a, rfl, h1⟩ := r.ints K q1 e
      exact ⟨a, n :: ns, rfl, h1, by simp, fun m hm hm' => minI_eq hm hm' ▸ h.okv r rfl⟩
    · exact h.elim
  · exact h.elim
theorem bSum_ok (K : PySem.W.Frag) : BltS C bSum (rSum K) := by
  intro Z loc s sv H rs vs Q r q h
  unfold bSum at h
  split at h
  · obtain ⟨v, t, rfl, st, q1, q2⟩ := q
    cases q2
    split at h
    · rename_i ns e
      obtain ⟨a, rfl, h1⟩ := r.ints K q1 e
      exact ⟨a, ns, rfl, h1, h.okv r rfl⟩
    · exact h.elim
  · exact h.elim
theorem bAny_ok (K : PySem.W.Frag) : BltS C bAny (rAny K) := by
  intro Z loc s sv H rs vs Q r q h
  unfold bAny at h
  split at h
  · obtain ⟨v, t, rfl, st, q1, q2⟩ := q
    cases q2
    split at h
    · rename_i ns e
      obtain ⟨a, rfl, h1⟩ := r.bls K q1 e
      exact ⟨a, ns, rfl, h1, h.okv r rfl⟩
    · exact h.elim
  · exact h.elim
theorem bAll_ok (K : PySem.W.Frag) : BltS C bAll (rAll K) := by
  intro Z loc s sv H rs vs Q r q h
  unfold bAll at h
  split at h
  · obtain ⟨v, t, rfl, st, q1, q2⟩ := q
    cases q2
    split at h
    · rename_i ns e
      obtain ⟨a, rfl, h1⟩ := r.bls K q1 e
      exact ⟨a, ns, rfl, h1, h.okv r rfl⟩
    · exact h.elim
  · exact h.elim
theorem bOrd_ok : BltS C bOrd (fun xs H Q => ∃ x, xs = [.str x] ∧ x.length = 1 ∧ Q (.int (x.cps.getD 0 0 : Nat)) H) := by
  intro Z loc s sv H rs vs Q r q h
  unfold bOrd at h
  split at h
  · split at h
    · rename_i c e
      obtain ⟨v, rfl, rfl⟩ := dv1 r q e
      exact ⟨_, rfl, rfl, h.okv r rfl⟩
    · exact h.elim
  · exact h.elim
theorem bStrI_ok : BltS C bStrI (fun xs H Q => ∃ i, xs = [.int i] ∧ i.natAbs.log2 < 1920 ∧ Q (.str (toString i)) H) := by
  intro Z loc s sv H rs vs Q r q h
  unfold bStrI at h
  split at h
  · split at h
    · rename_i i e
      obtain ⟨v, rfl, rfl⟩ := dv1 r q e
      split at h
      · rename_i hl
        exact ⟨_, rfl, hl, h.okv r (by show _ = V.str _; unfold sDig; simp)⟩
      · exact h.elim
    · exact h.elim
  · exact h.elim
theorem isL_ok : TyS C "list" tyLst := by
  intro K Z loc s sv H o v r q h
  unfold tyLst at h
  obtain ⟨l, e⟩ := Option.isSome_iff_exists.mp h
  obtain ⟨a, xs, rfl, h1, h2⟩ := r.lv q e
  exact .inl ⟨rfl, xs, .inl h1⟩
theorem isS_ok : TyS C "str" tyStr := by
  intro K Z loc s sv H o v r q h
  unfold tyStr at h
  split at h
  · rename_i t e
    have q3 : v = .str ⟨t.toArray⟩ := r.dv q e
    subst q3
    exact rfl
  · cases h
theorem SR.wlst (r : SR C Z loc s sv H) {rv : RV} {v : V} {l l' : List Val} (h : RVR C Z loc s sv H rv v) (e : Vw.ob s rv = some (.lst l)) : ∃ a xs, v = .ref a ∧ H a = some (.lst xs) ∧ RepVs C.cA Z loc l xs ∧ ∀ ys, RepVs C.cA Z loc l' ys → SR C Z loc (wr rv (.lst l') s) sv (upd H a (.lst ys)) := by
  obtain ⟨a, h1, _, xs, h3, h4⟩ := r.ob h e
  exact ⟨a, xs, h1, h3, h4, fun ys q => r.write h e h1 (by simp) (fun x w z => by rw [h3] at z; cases z) ⟨ys, upd_same, q⟩⟩
theorem bAppend_ok : MtS C bAppend rAppend := by
  intro Z loc s sv H o v rs vs Q r q qs h
  unfold bAppend at h
  split at h
  · rename_i x
    obtain ⟨w, t, rfl, st, q1, q2⟩ := qs
    cases q2
    cases e : cap x s with
    | stuck => rw [e] at h; exact h.elim
    | exc x s1 => exact absurd e cap_no
    | ok y s1 =>
      rw [e] at h
      simp only [Res.bind] at h
      obtain ⟨Z1, g1, r1, q1'⟩ := r.cap q1 e
      split at h
      · rename_i l e2
        split at h
        · rename_i hl
          have h := h
          have qo : RVR C Z1 loc s1 sv H o v := by
            cases o with
            | val x => exact RepV.mono g1 x q
            | own i => exact q
            | new o => unfold ob at e2; simp [nrm] at e2
          obtain ⟨a, xs, rfl, h1, h2, h3⟩ := r1.wlst (l' := l ++ [y]) qo e2
          exact ⟨a, xs, w, rfl, rfl, h1, by rw [← repVs_len h2]; exact hl, h Z1 loc _ .non g1 (h3 _ (repVs_app h2 ⟨w, [], rfl, q1', rfl⟩)) rfl⟩
        · exact h.elim
      · exact h.elim
  · exact h.elim
theorem repVs_dropLast : ∀ {l : List Val} {xs : List V}, RepVs C.cA Z loc l xs → RepVs C.cA Z loc l.dropLast xs.dropLast
  | [], xs, h => by rw [show xs = _ from h]; rfl
  | [x], xs, ⟨v, t, e, q, h⟩ => by rw [e, show t = _ from h]; rfl
  | x :: y :: l, xs, ⟨v, t, e, q, h⟩ => by
    have h' := h
    obtain ⟨w, t', e', _⟩ := h'
    rw [e, e']
    rw [e'] at h
    exact ⟨v, _, rfl, q, repVs_dropLast h⟩
theorem repVs_erase : ∀ {l : List Val} {xs : List V} (k : Nat), RepVs C.cA Z loc l xs → RepVs C.cA Z loc (l.eraseIdx k) (xs.eraseIdx k)
  | [], xs, k, h => by rw [show xs = _ from h]; simp; rfl
  | x :: l, xs, 0, ⟨v, t, e, q, h⟩ => by rw [e]; exact h
  | x :: l, xs, k + 1, ⟨v, t, e, q, h⟩ => by rw [e]; exact ⟨v, _, rfl, q, repVs_erase k h⟩
theorem repVs_rev : ∀ {l : List Val} {xs : List V}, RepVs C.cA Z loc l xs → RepVs C.cA Z loc l.reverse xs.reverse
  | [], xs, h => by rw [show xs = _ from h]; rfl
  | x :: l, xs, ⟨v, t, e, q, h⟩ => by
    rw [e, List.reverse_cons, List.reverse_cons]
    exact repVs_app (repVs_rev h) ⟨v, [], rfl, q, rfl⟩
theorem bPop_ok : MtS C bPop rPop := by
  intro Z loc s sv H o v rs vs Q r q qs h
  unfold bPop at h
  split at h
  · cases qs
    split at h
    · rename_i l e2
      split at h
      · rename_i y e3
        obtain ⟨a, xs, rfl, h1, h2, h3⟩ := r.wlst (l' := l.dropLast) q e2
        obtain ⟨w, h4, h5⟩ := repVs_get h2 e3
        exact ⟨a, xs, w, rfl, rfl, h1, by rw [← repVs_len h2]; exact h4, h.val (h3 _ (repVs_dropLast h2)) h5⟩
      · exact h.elim
    · exact h.elim
  · exact h.elim
theorem bPopAt_ok : MtS C bPopAt rPopAt := by
  intro Z loc s sv H o v rs vs Q r q qs h
  unfold bPopAt at h
  split at h
  · split at h
    · rename_i i e
      obtain ⟨w0, rfl, rfl⟩ := dv1 r qs e
      split at h
      · rename_i l e2
        split at h
        · rename_i hb
          split at h
          · rename_i k e3
            split at h
            · rename_i y e4
              obtain ⟨a, xs, rfl, h1, h2, h3⟩ := r.wlst (l' := l.eraseIdx k) q e2
              obtain ⟨w, h4, h5⟩ := repVs_get h2 e4
              exact ⟨a, xs, i, k, w, rfl, rfl, h1, hb.1, hb.2, by rw [← repVs_len h2]; exact e3, h4, h.val (h3 _ (repVs_erase k h2)) h5⟩
            · exact h.elim
          · exact h.elim
        · exact h.elim
      · exact h.elim
    · exact h.elim
  · exact h.elim
theorem bReverse_ok : MtS C bReverse rReverse := by
  intro Z loc s sv H o v rs vs Q r q qs h
  unfold bReverse at h
  split at h
  · cases qs
    split at h
    · rename_i l e2
      obtain ⟨a, xs, rfl, h1, h2, h3⟩ := r.wlst (l' := l.reverse) q e2
      exact ⟨a, xs, rfl, rfl, h1, h.okv (h3 _ (repVs_rev h2)) rfl⟩
    · exact h.elim
  · exact h.elim
theorem bClear_ok : MtS C bClear rClear := by
  intro Z loc s sv H o v rs vs Q r q qs h
  unfold bClear at h
  split at h
  · cases qs
    split at h
    · rename_i l e2
      obtain ⟨a, xs, rfl, h1, h2, h3⟩ := r.wlst (l' := []) q e2
      exact ⟨a, xs, rfl, rfl, h1, h.okv (h3 [] rfl) rfl⟩
    · exact h.elim
  · exact h.elim
end
end Vw
namespace Vw
open PySem L2 PyProof.Rows

def sS (x : String) : List Nat := (Str.ofString x).cps.toList
def fTup (fs : List (State → Res RV)) (s : State) : Res RV := (evA fs s).bind bTup
def fLst (fs : List (State → Res RV)) (s : State) : Res RV := (evA fs s).bind bLst
def fNeg (f : State → Res RV) (s : State) : Res RV := (ev f s).bind bNeg
def wFuel : Nat := 1000000
section
variable {C : Cst} {X : Cx} {e : Expr} {es : List Expr} {pos : Pos} {f : State → Res RV}
theorem v_str {x : String} {j : Nat} : PE X (.Constant (.str (Str.ofString x)) j pos) (TEx C (fD (.str (sS x)))) := v_const pe_str fun _ => by
  show V.str _ = V.str _
  simp [sS]
theorem v_tup' {k : Nat} {fs : List (State → Res RV)} (h : PA X es (TAr C (evA fs))) : PE X (.Tuple es k pos) (TEx C (fTup fs)) := v_tup h
theorem v_lst' {fs : List (State → Res RV)} (h : PA X es (TAr C (evA fs))) : PE X (.List es pos) (TEx C (fLst fs)) := v_lst h
theorem v_neg' (h : PE X e (TEx C f)) : PE X (.UnaryOp .USub e pos) (TEx C (fNeg f)) := v_neg h
section
variable {C : Cst} {X : Cx} {e a b c : Expr} {es : List Expr} {p pos : Pos} {f fa fb fc : State → Res RV}
theorem x_add (ha : PE X a (TEx C fa)) (hb : PE X b (TEx C fb)) : PE X (.BinOp a .Add b pos) (TEx C (ev2 fa fb (binop .add))) := v_bin .add ha hb
theorem xa_add {i : Nat} {x : Str} (hN : X.N.Nodup) (hi : X.N[i]? = some x) (hx : Loc X.env.scope x) (hf : X.fn x = true ∨ X.env.scope.names.lookup x = some .local) (h : PE X e (TEx C f)) : PS X (.AugAssign (.Name x p) .Add e pos) (TSt C (sAug i .add f)) := v_aug .add hN hi hx hf h
theorem x_sub (ha : PE X a (TEx C fa)) (hb : PE X b (TEx C fb)) : PE X (.BinOp a .Sub b pos) (TEx C (ev2 fa fb (binop .sub))) := v_bin .sub ha hb
theorem xa_sub {i : Nat} {x : Str} (hN : X.N.Nodup) (hi : X.N[i]? = some x) (hx : Loc X.env.scope x) (hf : X.fn x = true ∨ X.env.scope.names.lookup x = some .local) (h : PE X e (TEx C f)) : PS X (.AugAssign (.Name x p) .Sub e pos) (TSt C (sAug i .sub f)) := v_aug .sub hN hi hx hf h
theorem x_mul (ha : PE X a (TEx C fa)) (hb : PE X b (TEx C fb)) : PE X (.BinOp a .Mult b pos) (TEx C (ev2 fa fb (binop .mul))) := v_bin .mul ha hb
theorem xa_mul {i : Nat} {x : Str} (hN : X.N.Nodup) (hi : X.N[i]? = some x) (hx : Loc X.env.scope x) (hf : X.fn x = true ∨ X.env.scope.names.lookup x = some .local) (h : PE X e (TEx C f)) : PS X (.AugAssign (.Name x p) .Mult e pos) (TSt C (sAug i .mul f)) := v_aug .mul hN hi hx hf h
theorem x_fdiv (ha : PE X a (TEx C fa)) (hb : PE X b (TEx C fb)) : PE X (.BinOp a .FloorDiv b pos) (TEx C (ev2 fa fb (binop .fdiv))) := v_bin .fdiv ha hb
theorem xa_fdiv {i : Nat} {x : Str} (hN : X.N.Nodup) (hi : X.N[i]? = some x) (hx : Loc X.env.scope x) (hf : X.fn x = true ∨ X.env.scope.names.lookup x = some .local) (h : PE X e (TEx C f)) : PS X (.AugAssign (.Name x p) .FloorDiv e pos) (TSt C (sAug i .fdiv f)) := v_aug .fdiv hN hi hx hf h
theorem x_mod (ha : PE X a (TEx C fa)) (hb : PE X b (TEx C fb)) : PE X (.BinOp a .Mod b pos) (TEx C (ev2 fa fb (binop .mod))) := v_bin .mod ha hb
theorem xa_mod {i : Nat} {x : Str} (hN : X.N.Nodup) (hi : X.N[i]? = some x) (hx : Loc X.env.scope x) (hf : X.fn x = true ∨ X.env.scope.names.lookup x = some .local) (h : PE X e (TEx C f)) : PS X (.AugAssign (.Name x p) .Mod e pos) (TSt C (sAug i .mod f)) := v_aug .mod hN hi hx hf h
theorem x_pow (ha : PE X a (TEx C fa)) (hb : PE X b (TEx C fb)) : PE X (.BinOp a .Pow b pos) (TEx C (ev2 fa fb (binop .pow))) := v_bin .pow ha hb
theorem xa_pow {i : Nat} {x : Str} (hN : X.N.Nodup) (hi : X.N[i]? = some x) (hx : Loc X.env.scope x) (hf : X.fn x = true ∨ X.env.scope.names.lookup x = some .local) (h : PE X e (TEx C f)) : PS X (.AugAssign (.Name x p) .Pow e pos) (TSt C (sAug i .pow f)) := v_aug .pow hN hi hx hf h
theorem x_eq (hu : X.A.units + 64 < cLine) (ha : PE X a (TEx C fa)) (hb : PE X b (TEx C fb)) (hm : notSet b = true) : PE X (.Compare a [.Eq] [b] pos) (TEx C (ev2 fa fb (fCmp .eq))) := v_cmp hu .eq ha hb hm
theorem xt_eq (hu : X.A.units + 64 < cLine) (ha : PE X a (TEx C fa)) (hb : PE X b (TEx C fb)) (hm : notSet b = true) : PT X (.Compare a [.Eq] [b] pos) (TBx C (evB (ev2 fa fb (fCmp .eq)))) := v_tcmp hu .eq ha hb hm
theorem x_ne (hu : X.A.units + 64 < cLine) (ha : PE X a (TEx C fa)) (hb : PE X b (TEx C fb)) (hm : notSet b = true) : PE X (.Compare a [.NotEq] [b] pos) (TEx C (ev2 fa fb (fCmp .ne))) := v_cmp hu .ne ha hb hm
theorem xt_ne (hu : X.A.units + 64 < cLine) (ha : PE X a (TEx C fa)) (hb : PE X b (TEx C fb)) (hm : notSet b = true) : PT X (.Compare a [.NotEq] [b] pos) (TBx C (evB (ev2 fa fb (fCmp .ne)))) := v_tcmp hu .ne ha hb hm
theorem x_lt (hu : X.A.units + 64 < cLine) (ha : PE X a (TEx C fa)) (hb : PE X b (TEx C fb)) (hm : notSet b = true) : PE X (.Compare a [.Lt] [b] pos) (TEx C (ev2 fa fb (fCmp .lt))) := v_cmp hu .lt ha hb hm
theorem xt_lt (hu : X.A.units + 64 < cLine) (ha : PE X a (TEx C fa)) (hb : PE X b (TEx C fb)) (hm : notSet b = true) : PT X (.Compare a [.Lt] [b] pos) (TBx C (evB (ev2 fa fb (fCmp .lt)))) := v_tcmp hu .lt ha hb hm
theorem x_le (hu : X.A.units + 64 < cLine) (ha : PE X a (TEx C fa)) (hb : PE X b (TEx C fb)) (hm : notSet b = true) : PE X (.Compare a [.LtE] [b] pos) (TEx C (ev2 fa fb (fCmp .le))) := v_cmp hu .le ha hb hm
theorem xt_le (hu : X.A.units + 64 < cLine) (ha : PE X a (TEx C fa)) (hb : PE X b (TEx C fb)) (hm : notSet b = true) : PT X (.Compare a [.LtE] [b] pos) (TBx C (evB (ev2 fa fb (fCmp .le)))) := v_tcmp hu .le ha hb hm
theorem x_gt (hu : X.A.units + 64 < cLine) (ha : PE X a (TEx C fa)) (hb : PE X b (TEx C fb)) (hm : notSet b = true) : PE X (.Compare a [.Gt] [b] pos) (TEx C (ev2 fa fb (fCmp .gt))) := v_cmp hu .gt ha hb hm
theorem xt_gt (hu : X.A.units + 64 < cLine) (ha : PE X a (TEx C fa)) (hb : PE X b (TEx C fb)) (hm : notSet b = true) : PT X (.Compare a [.Gt] [b] pos) (TBx C (evB (ev2 fa fb (fCmp .gt)))) := v_tcmp hu .gt ha hb hm
theorem x_ge (hu : X.A.units + 64 < cLine) (ha : PE X a (TEx C fa)) (hb : PE X b (TEx C fb)) (hm : notSet b = true) : PE X (.Compare a [.GtE] [b] pos) (TEx C (ev2 fa fb (fCmp .ge))) := v_cmp hu .ge ha hb hm
theorem xt_ge (hu : X.A.units + 64 < cLine) (ha : PE X a (TEx C fa)) (hb : PE X b (TEx C fb)) (hm : notSet b = true) : PT X (.Compare a [.GtE] [b] pos) (TBx C (evB (ev2 fa fb (fCmp .ge)))) := v_tcmp hu .ge ha hb hm
theorem x_is (hu : X.A.units + 64 < cLine) (ha : PE X a (TEx C fa)) (hb : PE X b (TEx C fb)) (hm : notSet b = true) : PE X (.Compare a [.Is] [b] pos) (TEx C (ev2 fa fb (fCmp .is))) := v_cmp hu .is ha hb hm
theorem xt_is (hu : X.A.units + 64 < cLine) (ha : PE X a (TEx C fa)) (hb : PE X b (TEx C fb)) (hm : notSet b = true) : PT X (.Compare a [.Is] [b] pos) (TBx C (evB (ev2 fa fb (fCmp .is)))) := v_tcmp hu .is ha hb hm
theorem x_isn (hu : X.A.units + 64 < cLine) (ha : PE X a (TEx C fa)) (hb : PE X b (TEx C fb)) (hm : notSet b = true) : PE X (.Compare a [.IsNot] [b] pos) (TEx C (ev2 fa fb (fCmp .isn))) := v_cmp hu .isn ha hb hm
theorem xt_isn (hu : X.A.units + 64 < cLine) (ha : PE X a (TEx C fa)) (hb : PE X b (TEx C fb)) (hm : notSet b = true) : PT X (.Compare a [.IsNot] [b] pos) (TBx C (evB (ev2 fa fb (fCmp .isn)))) := v_tcmp hu .isn ha hb hm
theorem x_isin (hu : X.A.units + 64 < cLine) (ha : PE X a (TEx C fa)) (hb : PE X b (TEx C fb)) (hm : notSet b = true) : PE X (.Compare a [.In] [b] pos) (TEx C (ev2 fa fb (fCmp .isin))) := v_cmp hu .isin ha hb hm
theorem xt_isin (hu : X.A.units + 64 < cLine) (ha : PE X a (TEx C fa)) (hb : PE X b (TEx C fb)) (hm : notSet b = true) : PT X (.Compare a [.In] [b] pos) (TBx C (evB (ev2 fa fb (fCmp .isin)))) := v_tcmp hu .isin ha hb hm
theorem x_notin (hu : X.A.units + 64 < cLine) (ha : PE X a (TEx C fa)) (hb : PE X b (TEx C fb)) (hm : notSet b = true) : PE X (.Compare a [.NotIn] [b] pos) (TEx C (ev2 fa fb (fCmp .notin))) := v_cmp hu .notin ha hb hm
theorem xt_notin (hu : X.A.units + 64 < cLine) (ha : PE X a (TEx C fa)) (hb : PE X b (TEx C fb)) (hm : notSet b = true) : PT X (.Compare a [.NotIn] [b] pos) (TBx C (evB (ev2 fa fb (fCmp .notin)))) := v_tcmp hu .notin ha hb hm
theorem xc_lt_lt (hu : X.A.units + 64 < cLine) (ha : PE X a (TEx C fa)) (hb : PE X b (TEx C fb)) (hc : PE X c (TEx C fc)) (hm : notSet c = true) : PE X (.Compare a [.Lt, .Lt] [b, c] pos) (TEx C (ev3 fa fb fc (fCmp .lt) (fCmp .lt))) := v_chain hu .lt .lt ha hb hc hm
theorem xct_lt_lt (hu : X.A.units + 64 < cLine) (ha : PE X a (TEx C fa)) (hb : PE X b (TEx C fb)) (hc : PE X c (TEx C fc)) (hm : notSet c = true) : PT X (.Compare a [.Lt, .Lt] [b, c] pos) (TBx C (evB (ev3 fa fb fc (fCmp .lt) (fCmp .lt)))) := v_tchain hu .lt .lt ha hb hc hm
theorem xc_lt_le (hu : X.A.units + 64 < cLine) (ha : PE X a (TEx C fa)) (hb : PE X b (TEx C fb)) (hc : PE X c (TEx C fc)) (hm : notSet c = true) : PE X (.Compare a [.Lt, .LtE] [b, c] pos) (TEx C (ev3 fa fb fc (fCmp .lt) (fCmp .le))) := v_chain hu .lt .le ha hb hc hm
theorem xct_lt_le (hu : X.A.units + 64 < cLine) (ha : PE X a (TEx C fa)) (hb : PE X b (TEx C fb)) (hc : PE X c (TEx C fc)) (hm : notSet c = true) : PT X (.Compare a [.Lt, .LtE] [b, c] pos) (TBx C (evB (ev3 fa fb fc (fCmp .lt) (fCmp .le)))) := v_tchain hu .lt .le ha hb hc hm
theorem xc_lt_gt (hu : X.A.units + 64 < cLine) (ha : PE X a (TEx C fa)) (hb : PE X b (TEx C fb)) (hc : PE X c (TEx C fc)) (hm : notSet c = true) : PE X (.Compare a [.Lt, .Gt] [b, c] pos) (TEx C (ev3 fa fb fc (fCmp .lt) (fCmp .gt))) := v_chain hu .lt .gt ha hb hc hm
theorem xct_lt_gt (hu : X.A.units + 64 < cLine) (ha : PE X a (TEx C fa)) (hb : PE X b (TEx C fb)) (hc : PE X c (TEx C fc)) (hm : notSet c = true) : PT X (.Compare a [.Lt, .Gt] [b, c] pos) (TBx C (evB (ev3 fa fb fc (fCmp .lt) (fCmp .gt)))) := v_tchain hu .lt .gt ha hb hc hm
theorem xc_lt_ge (hu : X.A.units + 64 < cLine) (ha : PE X a (TEx C fa)) (hb : PE X b (TEx C fb)) (hc : PE X c (TEx C fc)) (hm : notSet c = true) : PE X (.Compare a [.Lt, .GtE] [b, c] pos) (TEx C (ev3 fa fb fc (fCmp .lt) (fCmp .ge))) := v_chain hu .lt .ge ha hb hc hm
theorem xct_lt_ge (hu : X.A.units + 64 < cLine) (ha : PE X a (TEx C fa)) (hb : PE X b (TEx C fb)) (hc : PE X c (TEx C fc)) (hm : notSet c = true) : PT X (.Compare a [.Lt, .GtE] [b, c] pos) (TBx C (evB (ev3 fa fb fc (fCmp .lt) (fCmp .ge)))) := v_tchain hu .lt .ge ha hb hc hm
theorem xc_lt_eq (hu : X.A.units + 64 < cLine) (ha : PE X a (TEx C fa)) (hb : PE X b (TEx C fb)) (hc : PE X c (TEx C fc)) (hm : notSet c = true) : PE X (.Compare a [.Lt, .Eq] [b, c] pos) (TEx C (ev3 fa fb fc (fCmp .lt) (fCmp .eq))) := v_chain hu .lt .eq ha hb hc hm
theorem xct_lt_eq (hu : X.A.units + 64 < cLine) (ha : PE X a (TEx C fa)) (hb : PE X b (TEx C fb)) (hc : PE X c (TEx C fc)) (hm : notSet c = true) : PT X (.Compare a [.Lt, .Eq] [b, c] pos) (TBx C (evB (ev3 fa fb fc (fCmp .lt) (fCmp .eq)))) := v_tchain hu .lt .eq ha hb hc hm
theorem xc_le_lt (hu : X.A.units + 64 < cLine) (ha : PE X a (TEx C fa)) (hb : PE X b (TEx C fb)) (hc : PE X c (TEx C fc)) (hm : notSet c = true) : PE X (.Compare a [.LtE, .Lt] [b, c] pos) (TEx C (ev3 fa fb fc (fCmp .le) (fCmp .lt))) := v_chain hu .le .lt ha hb hc hm
theorem xct_le_lt (hu : X.A.units + 64 < cLine) (ha : PE X a (TEx C fa)) (hb : PE X b (TEx C fb)) (hc : PE X c (TEx C fc)) (hm : notSet c = true) : PT X (.Compare a [.LtE, .Lt] [b, c] pos) (TBx C (evB (ev3 fa fb fc (fCmp .le) (fCmp .lt)))) := v_tchain hu .le .lt ha hb hc hm
theorem xc_le_le (hu : X.A.units + 64 < cLine) (ha : PE X a (TEx C fa)) (hb : PE X b (TEx C fb)) (hc : PE X c (TEx C fc)) (hm : notSet c = true) : PE X (.Compare a [.LtE, .LtE] [b, c] pos) (TEx C (ev3 fa fb fc (fCmp .le) (fCmp .le))) := v_chain hu .le .le ha hb hc hm
theorem xct_le_le (hu : X.A.units + 64 < cLine) (ha : PE X a (TEx C fa)) (hb : PE X b (TEx C fb)) (hc : PE X c (TEx C fc)) (hm : notSet c = true) : PT X (.Compare a [.LtE, .LtE] [b, c] pos) (TBx C (evB (ev3 fa fb fc (fCmp .le) (fCmp .le)))) := v_tchain hu .le .le ha hb hc hm
theorem xc_le_gt (hu : X.A.units + 64 < cLine) (ha : PE X a (TEx C fa)) (hb : PE X b (TEx C fb)) (hc : PE X c (TEx C fc)) (hm : notSet c = true) : PE X (.Compare a [.LtE, .Gt] [b, c] pos) (TEx C (ev3 fa fb fc (fCmp .le) (fCmp .gt))) := v_chain hu .le .gt ha hb hc hm
theorem xct_le_gt (hu : X.A.units + 64 < cLine) (ha : PE X a (TEx C fa)) (hb : PE X b (TEx C fb)) (hc : PE X c (TEx C fc)) (hm : notSet c = true) : PT X (.Compare a [.LtE, .Gt] [b, c] pos) (TBx C (evB (ev3 fa fb fc (fCmp .le) (fCmp .gt)))) := v_tchain hu .le .gt ha hb hc hm
theorem xc_le_ge (hu : X.A.units + 64 < cLine) (ha : PE X a (TEx C fa)) (hb : PE X b (TEx C fb)) (hc : PE X c (TEx C fc)) (hm : notSet c = true) : PE X (.Compare a [.LtE, .GtE] [b, c] pos) (TEx C (ev3 fa fb fc (fCmp .le) (fCmp .ge))) := v_chain hu .le .ge ha hb hc hm
theorem xct_le_ge (hu : X.A.units + 64 < cLine) (ha : PE X a (TEx C fa)) (hb : PE X b (TEx C fb)) (hc : PE X c (TEx C fc)) (hm : notSet c = true) : PT X (.Compare a [.LtE, .GtE] [b, c] pos) (TBx C (evB (ev3 fa fb fc (fCmp .le) (fCmp .ge)))) := v_tchain hu .le .ge ha hb hc hm
theorem xc_le_eq (hu : X.A.units + 64 < cLine) (ha : PE X a (TEx C fa)) (hb : PE X b (TEx C fb)) (hc : PE X c (TEx C fc)) (hm : notSet c = true) : PE X (.Compare a [.LtE, .Eq] [b, c] pos) (TEx C (ev3 fa fb fc (fCmp .le) (fCmp .eq))) := v_chain hu .le .eq ha hb hc hm
theorem xct_le_eq (hu : X.A.units + 64 < cLine) (ha : PE X a (TEx C fa)) (hb : PE X b (TEx C fb)) (hc : PE X c (TEx C fc)) (hm : notSet c = true) : PT X (.Compare a [.LtE, .Eq] [b, c] pos) (TBx C (evB (ev3 fa fb fc (fCmp .le) (fCmp .eq)))) := v_tchain hu .le .eq ha hb hc hm
theorem xc_gt_lt (hu : X.A.units + 64 < cLine) (ha : PE X a (TEx C fa)) (hb : PE X b (TEx C fb)) (hc : PE X c (TEx C fc)) (hm : notSet c = true) : PE X (.Compare a [.Gt, .Lt] [b, c] pos) (TEx C (ev3 fa fb fc (fCmp .gt) (fCmp .lt))) := v_chain hu .gt .lt ha hb hc hm
theorem xct_gt_lt (hu : X.A.units + 64 < cLine) (ha : PE X a (TEx C fa)) (hb : PE X b (TEx C fb)) (hc : PE X c (TEx C fc)) (hm : notSet c = true) : PT X (.Compare a [.Gt, .Lt] [b, c] pos) (TBx C (evB (ev3 fa fb fc (fCmp .gt) (fCmp .lt)))) := v_tchain hu .gt .lt ha hb hc hm
theorem xc_gt_le (hu : X.A.units + 64 < cLine) (ha : PE X a (TEx C fa)) (hb : PE X b (TEx C fb)) (hc : PE X c (TEx C fc)) (hm : notSet c = true) : PE X (.Compare a [.Gt, .LtE] [b, c] pos) (TEx C (ev3 fa fb fc (fCmp .gt) (fCmp .le))) := v_chain hu .gt .le ha hb hc hm
theorem xct_gt_le (hu : X.A.units + 64 < cLine) (ha : PE X a (TEx C fa)) (hb : PE X b (TEx C fb)) (hc : PE X c (TEx C fc)) (hm : notSet c = true) : PT X (.Compare a [.Gt, .LtE] [b, c] pos) (TBx C (evB (ev3 fa fb fc (fCmp .gt) (fCmp .le)))) := v_tchain hu .gt .le ha hb hc hm
theorem xc_gt_gt (hu : X.A.units + 64 < cLine) (ha : PE X a (TEx C fa)) (hb : PE X b (TEx C fb)) (hc : PE X c (TEx C fc)) (hm : notSet c = true) : PE X (.Compare a [.Gt, .Gt] [b, c] pos) (TEx C (ev3 fa fb fc (fCmp .gt) (fCmp .gt))) := v_chain hu .gt .gt ha hb hc hm
theorem xct_gt_gt (hu : X.A.units + 64 < cLine) (ha : PE X a (TEx C fa)) (hb : PE X b (TEx C fb)) (hc : PE X c (TEx C fc)) (hm : notSet c = true) : PT X (.Compare a [.Gt, .Gt] [b, c] pos) (TBx C (evB (ev3 fa fb fc (fCmp .gt) (fCmp .gt)))) := v_tchain hu .gt .gt ha hb hc hm
theorem xc_gt_ge (hu : X.A.units + 64 < cLine) (ha : PE X a (TEx C fa)) (hb : PE X b (TEx C fb)) (hc : PE X c (TEx C fc)) (hm : notSet c = true) : PE X (.Compare a [.Gt, .GtE] [b, c] pos) (TEx C (ev3 fa fb fc (fCmp .gt) (fCmp .ge))) := v_chain hu .gt .ge ha hb hc hm
theorem xct_gt_ge (hu : X.A.units + 64 < cLine) (ha : PE X a (TEx C fa)) (hb : PE X b (TEx C fb)) (hc : PE X c (TEx C fc)) (hm : notSet c = true) : PT X (.Compare a [.Gt, .GtE] [b, c] pos) (TBx C (evB (ev3 fa fb fc (fCmp .gt) (fCmp .ge)))) := v_tchain hu .gt .ge ha hb hc hm
theorem xc_gt_eq (hu : X.A.units + 64 < cLine) (ha : PE X a (TEx C fa)) (hb : PE X b (TEx C fb)) (hc : PE X c (TEx C fc)) (hm : notSet c = true) : PE X (.Compare a [.Gt, .Eq] [b, c] pos) (TEx C (ev3 fa fb fc (fCmp .gt) (fCmp .eq))) := v_chain hu .gt .eq ha hb hc hm
theorem xct_gt_eq (hu : X.A.units + 64 < cLine) (ha : PE X a (TEx C fa)) (hb : PE X b (TEx C fb)) (hc : PE X c (TEx C fc)) (hm : notSet c = true) : PT X (.Compare a [.Gt, .Eq] [b, c] pos) (TBx C (evB (ev3 fa fb fc (fCmp .gt) (fCmp .eq)))) := v_tchain hu .gt .eq ha hb hc hm
theorem xc_ge_lt (hu : X.A.units + 64 < cLine) (ha : PE X a (TEx C fa)) (hb : PE X b (TEx C fb)) (hc : PE X c (TEx C fc)) (hm : notSet c = true) : PE X (.Compare a [.GtE, .Lt] [b, c] pos) (TEx C (ev3 fa fb fc (fCmp .ge) (fCmp .lt))) := v_chain hu .ge .lt ha hb hc hm
theorem xct_ge_lt (hu : X.A.units + 64 < cLine) (ha : PE X a (TEx C fa)) (hb : PE X b (TEx C fb)) (hc : PE X c (TEx C fc)) (hm : notSet c = true) : PT X (.Compare a [.GtE, .Lt] [b, c] pos) (TBx C (evB (ev3 fa fb fc (fCmp .ge) (fCmp .lt)))) := v_tchain hu .ge .lt ha hb hc hm
theorem xc_ge_le (hu : X.A.units + 64 < cLine) (ha : PE X a (TEx C fa)) (hb : PE X b (TEx C fb)) (hc : PE X c (TEx C fc)) (hm : notSet c = true) : PE X (.Compare a [.GtE, .LtE] [b, c] pos) (TEx C (ev3 fa fb fc (fCmp .ge) (fCmp .le))) := v_chain hu .ge .le ha hb hc hm
theorem xct_ge_le (hu : X.A.units + 64 < cLine) (ha : PE X a (TEx C fa)) (hb : PE X b (TEx C fb)) (hc : PE X c (TEx C fc)) (hm : notSet c = true) : PT X (.Compare a [.GtE, .LtE] [b, c] pos) (TBx C (evB (ev3 fa fb fc (fCmp .ge) (fCmp .le)))) := v_tchain hu .ge .le ha hb hc hm
theorem xc_ge_gt (hu : X.A.units + 64 < cLine) (ha : PE X a (TEx C fa)) (hb : PE X b (TEx C fb)) (hc : PE X c (TEx C fc)) (hm : notSet c = true) : PE X (.Compare a [.GtE, .Gt] [b, c] pos) (TEx C (ev3 fa fb fc (fCmp .ge) (fCmp .gt))) := v_chain hu .ge .gt ha hb hc hm
theorem xct_ge_gt (hu : X.A.units + 64 < cLine) (ha : PE X a (TEx C fa)) (hb : PE X b (TEx C fb)) (hc : PE X c (TEx C fc)) (hm : notSet c = true) : PT X (.Compare a [.GtE, .Gt] [b, c] pos) (TBx C (evB (ev3 fa fb fc (fCmp .ge) (fCmp .gt)))) := v_tchain hu .ge .gt ha hb hc hm
theorem xc_ge_ge (hu : X.A.units + 64 < cLine) (ha : PE X a (TEx C fa)) (hb : PE X b (TEx C fb)) (hc : PE X c (TEx C fc)) (hm : notSet c = true) : PE X (.Compare a [.GtE, .GtE] [b, c] pos) (TEx C (ev3 fa fb fc (fCmp .ge) (fCmp .ge))) := v_chain hu .ge .ge ha hb hc hm
theorem xct_ge_ge (hu : X.A.units + 64 < cLine) (ha : PE X a (TEx C fa)) (hb : PE X b (TEx C fb)) (hc : PE X c (TEx C fc)) (hm : notSet c = true) : PT X (.Compare a [.GtE, .GtE] [b, c] pos) (TBx C (evB (ev3 fa fb fc (fCmp .ge) (fCmp .ge)))) := v_tchain hu .ge .ge ha hb hc hm
theorem xc_ge_eq (hu : X.A.units + 64 < cLine) (ha : PE X a (TEx C fa)) (hb : PE X b (TEx C fb)) (hc : PE X c (TEx C fc)) (hm : notSet c = true) : PE X (.Compare a [.GtE, .Eq] [b, c] pos) (TEx C (ev3 fa fb fc (fCmp .ge) (fCmp .eq))) := v_chain hu .ge .eq ha hb hc hm
theorem xct_ge_eq (hu : X.A.units + 64 < cLine) (ha : PE X a (TEx C fa)) (hb : PE X b (TEx C fb)) (hc : PE X c (TEx C fc)) (hm : notSet c = true) : PT X (.Compare a [.GtE, .Eq] [b, c] pos) (TBx C (evB (ev3 fa fb fc (fCmp .ge) (fCmp .eq)))) := v_tchain hu .ge .eq ha hb hc hm
theorem xc_eq_lt (hu : X.A.units + 64 < cLine) (ha : PE X a (TEx C fa)) (hb : PE X b (TEx C fb)) (hc : PE X c (TEx C fc)) (hm : notSet c = true) : PE X (.Compare a [.Eq, .Lt] [b, c] pos) (TEx C (ev3 fa fb fc (fCmp .eq) (fCmp .lt))) := v_chain hu .eq .lt ha hb hc hm
theorem xct_eq_lt (hu : X.A.units + 64 < cLine) (ha : PE X a (TEx C fa)) (hb : PE X b (TEx C fb)) (hc : PE X c (TEx C fc)) (hm : notSet c = true) : PT X (.Compare a [.Eq, .Lt] [b, c] pos) (TBx C (evB (ev3 fa fb fc (fCmp .eq) (fCmp .lt)))) := v_tchain hu .eq .lt ha hb hc hm
theorem xc_eq_le (hu : X.A.units + 64 < cLine) (ha : PE X a (TEx C fa)) (hb : PE X b (TEx C fb)) (hc : PE X c (TEx C fc)) (hm : notSet c = true) : PE X (.Compare a [.Eq, .LtE] [b, c] pos) (TEx C (ev3 fa fb fc (fCmp .eq) (fCmp .le))) := v_chain hu .eq .le ha hb hc hm
theorem xct_eq_le (hu : X.A.units + 64 < cLine) (ha : PE X a (TEx C fa)) (hb : PE X b (TEx C fb)) (hc : PE X c (TEx C fc)) (hm : notSet c = true) : PT X (.Compare a [.Eq, .LtE] [b, c] pos) (TBx C (evB (ev3 fa fb fc (fCmp .eq) (fCmp .le)))) := v_tchain hu .eq .le ha hb hc hm
theorem xc_eq_gt (hu : X.A.units + 64 < cLine) (ha : PE X a (TEx C fa)) (hb : PE X b (TEx C fb)) (hc : PE X c (TEx C fc)) (hm : notSet c = true) : PE X (.Compare a [.Eq, .Gt] [b, c] pos) (TEx C (ev3 fa fb fc (fCmp .eq) (fCmp .gt))) := v_chain hu .eq .gt ha hb hc hm
theorem xct_eq_gt (hu : X.A.units + 64 < cLine) (ha : PE X a (TEx C fa)) (hb : PE X b (TEx C fb)) (hc : PE X c (TEx C fc)) (hm : notSet c = true) : PT X (.Compare a [.Eq, .Gt] [b, c] pos) (TBx C (evB (ev3 fa fb fc (fCmp .eq) (fCmp .gt)))) := v_tchain hu .eq .gt ha hb hc hm
theorem xc_eq_ge (hu : X.A.units + 64 < cLine) (ha : PE X a (TEx C fa)) (hb : PE X b (TEx C fb)) (hc : PE X c (TEx C fc)) (hm : notSet c = true) : PE X (.Compare a [.Eq, .GtE] [b, c] pos) (TEx C (ev3 fa fb fc (fCmp .eq) (fCmp .ge))) := v_chain hu .eq .ge ha hb hc hm
theorem xct_eq_ge (hu : X.A.units + 64 < cLine) (ha : PE X a (TEx C fa)) (hb : PE X b (TEx C fb)) (hc : PE X c (TEx C fc)) (hm : notSet c = true) : PT X (.Compare a [.Eq, .GtE] [b, c] pos) (TBx C (evB (ev3 fa fb fc (fCmp .eq) (fCmp .ge)))) := v_tchain hu .eq .ge ha hb hc hm
theorem xc_eq_eq (hu : X.A.units + 64 < cLine) (ha : PE X a (TEx C fa)) (hb : PE X b (TEx C fb)) (hc : PE X c (TEx C fc)) (hm : notSet c = true) : PE X (.Compare a [.Eq, .Eq] [b, c] pos) (TEx C (ev3 fa fb fc (fCmp .eq) (fCmp .eq))) := v_chain hu .eq .eq ha hb hc hm
theorem xct_eq_eq (hu : X.A.units + 64 < cLine) (ha : PE X a (TEx C fa)) (hb : PE X b (TEx C fb)) (hc : PE X c (TEx C fc)) (hm : notSet c = true) : PT X (.Compare a [.Eq, .Eq] [b, c] pos) (TBx C (evB (ev3 fa fb fc (fCmp .eq) (fCmp .eq)))) := v_tchain hu .eq .eq ha hb hc hm

theorem x_call {CX : CXT} {k n : Nat} {fA : Addr} {fd : FuncData} {ps : List Str} {x : Str} {g : Fn} {fs : State → Res (List RV)} {cA : String → Addr} (hC : C.cA = cA) (F : FnOk X.prog X.w X.K X.mg X.base CX k fA fd ps (spV cA n g)) (hr : Room k X.A) (hg : Gl X x) (hm : X.mg x = some (.ref fA)) (hk : PySem.W.keepIn X.K (.ref fA) = true)
    (hb : Binds X.K fd ps []) (hx : Passes CX X E0) (hn : ps.length = n) (ha : PA X (e :: es) (TAr C fs)) (hdb : (x == ("__debug__" : Str)) = false) (hs : (e :: es).all notStar = true) :
    PE X (.Call (.Name x p) (e :: es) [] pos) (TEx C (fCall n fs g)) := by
  subst hn hC
  exact v_call F hr hg hm hk hb hx ha hdb hs
theorem x_look {CX : CXT} {k n : Nat} {fA : Addr} {fd : FuncData} {ps : List Str} {x : Str} {g : Fn} {fs : State → Res (List RV)} {cA : String → Addr} (hC : C.cA = cA) (F : FnOk X.prog X.w X.K X.mg X.base CX k fA fd ps (spV cA n g)) (hr : Room k X.A) (hg : Gl X x) (hm : X.mg x = some (.ref fA)) (hk : PySem.W.keepIn X.K (.ref fA) = true)
    (hb : Binds X.K fd ps []) (hx : Passes CX X E0) (hn : ps.length = n) (ha : PA X (e :: es) (TAr C fs)) (hdb : (x == ("__debug__" : Str)) = false) (hs : (e :: es).all notStar = true) :
    PE X (.Call (.Name x p) (e :: es) [] pos) (TEx C (fLook n fs g)) := by
  subst hn hC
  exact v_look F hr hg hm hk hb hx ha hdb hs
theorem x_call0 {CX : CXT} {k : Nat} {fA : Addr} {fd : FuncData} {ps : List Str} {x : Str} {g : Fn} {cA : String → Addr} (hC : C.cA = cA) (F : FnOk X.prog X.w X.K X.mg X.base CX k fA fd ps (spV cA 0 g)) (hr : Room k X.A) (hg : Gl X x) (hm : X.mg x = some (.ref fA)) (hk : PySem.W.keepIn X.K (.ref fA) = true)
    (hb : Binds X.K fd ps []) (hx : Passes CX X E0) (hn : ps.length = 0) (hdb : (x == ("__debug__" : Str)) = false) :
    PE X (.Call (.Name x p) [] [] pos) (TEx C (fCall 0 (evA []) g)) := by
  subst hC
  have h := v_call0 (p := p) (pos := pos) (g := g) (C := C) (hn.symm ▸ F) hr hg hm hk hb hx hdb
  rw [hn] at h
  exact h
theorem x_for {cA : String → Addr} (hC : C.cA = cA) {t : Tg} {tg it : Expr} {b : List Stmt} {sb : State → Res Fl} {src : State → Res (List Val)} (hp : PassesOwn (model X.prog X.w) X.A X.env X.xe) (hc : X.calm = true) (hi : PI X tg it (TSrc C src))
    (hg : ∀ C' : Cst, C'.cA = cA → PG X tg (TTg C' t)) (hb : ∀ C' : Cst, C'.cA = cA → PSs X b (TSt C' sb)) (hs : notSet it = true) : PS X (.For tg it b [] pos) (TSt C (sFor t src sb)) :=
  v_for hp hc hi (fun C' h => hg C' (h.ca.trans hC)) (fun C' h => hb C' (h.ca.trans hC)) hs
section
variable {elt tg iter : Expr} {ifs : List Expr} {scope : Scope} {cA : String → Addr} {fe : State → Res RV} {ft : State → Res Bool}
theorem x_lc {t : Tg} {src : State → Res (List Val)} (hC : C.cA = cA) (own : List (Str × Nat)) {vs : List Nat} (hvs : own.map (·.2) = vs) (hc : X.calm = true) (hN : X.N.Nodup) (hi : PI X tg iter (TSrc C src)) (ok : blkC X.N X.env.scope scope own = true)
    (hb : ∀ (s : Shared) (H : Hp) (D : Addr) (cl : List (Str × Addr)) (fp : List Addr) (C' : Cst), C'.cA = cA → PG (X.blk s H scope (compEnvC scope cl D X.env) fp) tg (TTg C' t) ∧ PTs (X.blk s H scope (compEnvC scope cl D X.env) fp) ifs (TBx C' ft) ∧ PE (X.blk s H scope (compEnvC scope cl D X.env) fp) elt (TEx C' fe))
    (hs : notSet iter = true) (hv : ∀ i ∈ tgS t, i ∈ vs) : PE X (.ListComp elt [⟨tg, iter, ifs, 0⟩] scope pos) (TEx C (fLc vs t src ft fe)) := by
  subst hvs
  exact v_lc hc hN hi (blkOk_by ok) ⟨fun s H D cl fp C' h => hb s H D cl fp C' (h.trans hC)⟩ hs hv
theorem x_setLc {t : Tg} {src : State → Res (List Val)} {i : Nat} {y : Str} {py spos : Pos} (hC : C.cA = cA) (own : List (Str × Nat)) {vs : List Nat} (hvs : own.map (·.2) = vs) (hc : X.calm = true) (hN : X.N.Nodup) (hy : X.N[i]? = some y) (hyl : X.env.scope.names.lookup y = some .local) (hk : X.env.scope.kind = .function)
    (hl : (py.line == pos.line) = true) (ha : (scope.names.any fun (n, k) => n == y && (k == .local || k == .cell)) = false) (hi : PI X tg iter (TSrc C src)) (ok : blkC X.N X.env.scope scope own = true)
    (hb : ∀ (s : Shared) (H : Hp) (D : Addr) (cl : List (Str × Addr)) (fp : List Addr) (C' : Cst), C'.cA = cA → PG (X.blk s H scope (compEnvC scope cl D X.env) fp) tg (TTg C' t) ∧ PTs (X.blk s H scope (compEnvC scope cl D X.env) fp) ifs (TBx C' ft) ∧ PE (X.blk s H scope (compEnvC scope cl D X.env) fp) elt (TEx C' fe))
    (hs : notSet iter = true) (hv : ∀ i ∈ tgS t, i ∈ vs) : PS X (.Assign [.Name y py] (.ListComp elt [⟨tg, iter, ifs, 0⟩] scope pos) spos) (TSt C (sAsg i (fLc vs t src ft fe))) := by
  subst hvs
  exact v_setLc hc hN hy hyl hk hl ha hi (blkOk_by ok) ⟨fun s H D cl fp C' h => hb s H D cl fp C' (h.trans hC)⟩ hs hv
end
theorem x_fn {P : Program} {w : World} {K : PySem.W.Frag} {mg : Str → Option Value} {base : Heap} {x qual : Str} {params : Arguments} {body : List Stmt} {scope : Scope} {f : Addr} {fd : FuncData} {N ps : List Str} {cA : String → Addr} {b : State → Res Fl} {k n m : Nat}
    (F : FunD K x qual params body scope [] [] f fd) (S : FnScope N ps scope) (hn : ps.length = n) (hm : N.length = m)
    (hb : ∀ (cdv : Value) (A : Around) (outer : List Env) (s : Shared) (H : Hp) (E : XK) (C : Cst), Room k (A.deeper (envOfC qual scope s.heap.objs.size f cdv)) → C.cA = cA → PSs (cxOf CX0 P w K mg base N qual scope f cdv A outer s H E).nox body (TSt C b)) :
    FnOk P w K mg base CX0 (k + 1) f fd ps (spV cA n (fnV m b)) := by
  subst hn hm
  exact fn_ok F S hb
end
end
theorem bb_len : bootBuiltins "len" = some (.builtin "len") := by decide +kernel
theorem bb_list : bootBuiltins "list" = some (.type "list") := by decide +kernel
theorem bb_abs : bootBuiltins "abs" = some (.builtin "abs") := by decide +kernel
theorem bb_max : bootBuiltins "max" = some (.builtin "max") := by decide +kernel
theorem bb_min : bootBuiltins "min" = some (.builtin "min") := by decide +kernel
theorem bb_sum : bootBuiltins "sum" = some (.builtin "sum") := by decide +kernel
theorem bb_any : bootBuiltins "any" = some (.builtin "any") := by decide +kernel
theorem bb_all : bootBuiltins "all" = some (.builtin "all") := by decide +kernel
theorem bb_ord : bootBuiltins "ord" = some (.builtin "ord") := by decide +kernel
theorem bb_str : bootBuiltins "str" = some (.type "str") := by decide +kernel
theorem bb_int : bootBuiltins "int" = some (.type "int") := by decide +kernel
theorem bb_sorted : bootBuiltins "sorted" = some (.builtin "sorted") := by decide +kernel
theorem bb_tuple : bootBuiltins "tuple" = some (.type "tuple") := by decide +kernel
theorem bb_dict : bootBuiltins "dict" = some (.type "dict") := by decide +kernel
theorem bb_set : bootBuiltins "set" = some (.type "set") := by decide +kernel
theorem bb_isinstance : bootBuiltins "isinstance" = some (.builtin "isinstance") := by decide +kernel
theorem bb_bool : bootBuiltins "bool" = some (.type "bool") := by decide +kernel
end Vw
namespace Vw
open PySem L2 PyProof.Rows

/-- no list stands in the written part -/
def noLst (K : PySem.W.Frag) : Bool := K.all fun p => match p.2.cls with
  | .type c => !(decide (c = "list"))
  | _ => true
theorem noLst_ok {K : PySem.W.Frag} (h : noLst K = true) {a : Addr} {o : Obj} (e : K.lookup a = some o) : o.cls ≠ .type "list" := fun z => by
  have hm : ∃ p ∈ K, p.2 = o := by
    clear h
    induction K with
    | nil => cases e
    | cons p r ih =>
      obtain ⟨b, x⟩ := p
      rw [List.lookup_cons] at e
      split at e
      · cases e
        exact ⟨_, List.mem_cons_self, rfl⟩
      · obtain ⟨p, hp, q⟩ := ih e
        exact ⟨p, List.mem_cons_of_mem _ hp, q⟩
  obtain ⟨p, hp, rfl⟩ := hm
  have := List.all_eq_true.mp h p hp
  rw [z] at this
  simp at this
abbrev AlV : Type := He.AlD × Bool
def obsV (n : Nat) (fa : List He.Fa) (fn : List He.DefD) (g : Addr → Option Obj) : AlV := (He.obsDG n fa fn g, noLst (He.frG g (He.asD g n)))
def hookV (n : Nat) (fa : List He.Fa) (fn : List He.DefD) : PySem.W.Hook where
  α := AlV
  obs := fun s => obsV n fa fn s.heap.get?
  val := fun _ => (He.valD fn, true)
  says := fun _ h => ∃ K : PySem.W.Frag, K.In h ∧ He.SaysD fa fn K ∧ noLst K = true
  of := fun _ _ e => ⟨_, He.frG_in, congrArg (fun z : AlV => z.1) e, congrArg (fun z : AlV => z.2) e⟩
  keeps := fun _ _ _ ⟨K, hK, c⟩ k => ⟨K, PySem.W.Frag.In.keeps hK k, c⟩
theorem obsV_eq {n : Nat} {fa : List He.Fa} {fn : List He.DefD} {g : Addr → Option Obj} {s : Shared} (h : ∀ a, g a = s.heap.get? a) : obsV n fa fn g = (hookV n fa fn).obs s := by
  have e : g = s.heap.get? := funext h
  rw [e] <;> rfl
/-- the script's list -/
def scrV (ns : List Int) : Val := .d (.lst (ns.map .int))
theorem script_sp {cA : String → Addr} {K : PySem.W.Frag} {g : Fn} {H : Hp} {a : Addr} {ns : List Int} (nl : noLst K = true) (hS : SqL K H a (ns.map V.int)) (hg : ∃ s, g [scrV ns] [] = .ok (.val (.d (.bl true))) s) :
    spV cA 1 g [.ref a] H (fun v _ => v = .bl true) E0 := by
  obtain ⟨s', hg⟩ := hg
  have hr : ∃ u, H a = some u ∧ (u = .lst (ns.map V.int) ∨ ∃ o, u = .frz o (.lst (ns.map V.int))) := by
    rcases hS with h | ⟨o, its, n, h1, h2, _⟩
    · rcases h with h | ⟨o, h⟩
      · exact ⟨_, h, .inl rfl⟩
      · exact ⟨_, h, .inr ⟨o, rfl⟩⟩
    · exact absurd h2 (noLst_ok nl h1)
  obtain ⟨u, hu, hu2⟩ := hr
  have rep : ∀ (ns : List Int) (Z : Hp), RepDs cA Z (ns.map .int) (ns.map V.int) := fun ns Z => by
    induction ns with
    | nil => rfl
    | cons n r ih => exact ⟨_, _, rfl, rfl, ih⟩
  refine ⟨fun _ => none, fun _ => none, upd (fun _ => none) a u, [], [scrV ns], [], ⟨fun b o h => (by cases h), fun b o h => ?_, fun b o h => rfl, fun b o w h => (by cases h), rfl, List.nodup_nil, fun b h => by simp at h, fun n b o h => by simp at h, fun i x h => by simp at h, fun i o h => by simp at h, fun i j o o' b h => by simp at h, rfl⟩, ⟨.ref a, [], rfl, ⟨a, ns.map V.int, rfl, ?_, rep ns _⟩, rfl⟩, rfl, ?_⟩
  · by_cases hb : b = a
    · subst hb
      rw [upd_same] at h
      cases h
      exact .inl hu
    · rw [upd_ne hb] at h
      cases h
  · rcases hu2 with e | ⟨o, e⟩
    · exact .inl (by rw [upd_same, e])
    · exact .inr ⟨o, by rw [upd_same, e]⟩
  · rw [hg]
    exact fun Z' l' H' v _ _ q => q
end Vw
namespace Vw
open PySem L2 PyProof.Rows
def callE (sg : Slots) (r : Res RV) : Res RV :=
  match r with
  | .ok r s2 => .ok r ⟨sg, s2.st⟩
  | _ => .stuck
def seqE (r : Res Fl) (k : State → Res Fl) : Res Fl :=
  match r with
  | .ok .nx s => k s
  | t => t
def forE (r : Res Fl) (k : State → Res Fl) : Res Fl :=
  match r with
  | .ok .nx s => k s
  | .ok .cnt s => k s
  | .ok .brk s => .ok .nx s
  | r => r
@[simp] theorem callE_ok (sg : Slots) (r : RV) (s : State) : callE sg (.ok r s) = .ok r ⟨sg, s.st⟩ := id rfl
@[simp] theorem seqE_nx (s : State) (k : State → Res Fl) : seqE (.ok .nx s) k = k s := id rfl
@[simp] theorem seqE_ret (r : RV) (s : State) (k : State → Res Fl) : seqE (.ok (.ret r) s) k = .ok (.ret r) s := id rfl
@[simp] theorem seqE_brk (s : State) (k : State → Res Fl) : seqE (.ok .brk s) k = .ok .brk s := id rfl
@[simp] theorem seqE_cnt (s : State) (k : State → Res Fl) : seqE (.ok .cnt s) k = .ok .cnt s := id rfl
@[simp] theorem seqE_exc (x : Exn) (s : State) (k : State → Res Fl) : seqE (.exc x s) k = .exc x s := id rfl
@[simp] theorem seqE_st (k : State → Res Fl) : seqE .stuck k = .stuck := id rfl
@[simp] theorem forE_nx (s : State) (k : State → Res Fl) : forE (.ok .nx s) k = k s := id rfl
@[simp] theorem forE_cnt (s : State) (k : State → Res Fl) : forE (.ok .cnt s) k = k s := id rfl
@[simp] theorem forE_brk (s : State) (k : State → Res Fl) : forE (.ok .brk s) k = .ok .nx s := id rfl
@[simp] theorem forE_ret (r : RV) (s : State) (k : State → Res Fl) : forE (.ok (.ret r) s) k = .ok (.ret r) s := id rfl
@[simp] theorem forE_exc (x : Exn) (s : State) (k : State → Res Fl) : forE (.exc x s) k = .exc x s := id rfl
@[simp] theorem forE_st (k : State → Res Fl) : forE .stuck k = .stuck := id rfl
def MulB (i j : Int) : Bool := decide (i.natAbs.log2 + j.natAbs.log2 < 1000000)
def DivB (j : Int) : Bool := decide (0 < j ∧ j.natAbs.log2 < 9000)
section
variable (sg : Slots) (st : List Ob) (s s' : State) (i n : Nat) (d d' : D) (x y : Val) (o : Ob) (f g h fa fb fc : State → Res RV) (fs : List (State → Res RV)) (ft : State → Res Bool) (sa sb : State → Res Fl) (ss : List (State → Res Fl)) (r r' : RV) (rs : List RV)
@[simp] theorem e_nrmv : nrm s (.val x) = .val x := id rfl
@[simp] theorem e_nrmn : nrm s (.new o) = .new o := id rfl
@[simp] theorem e_nrmo : nrm ⟨sg, st⟩ (.own i) = (match sg[i]? with | some (some (.v x)) => .val x | _ => .own i) := id rfl
@[simp] theorem e_dv : dv s (.val (.d d)) = some d := id rfl
@[simp] theorem e_dvr : dv s (.val (.r n)) = none := id rfl
@[simp] theorem e_dvo : dv ⟨sg, st⟩ (.own i) = (match sg[i]? with | some (some (.v (.d x))) => some x | _ => none) := by
  unfold dv
  rw [e_nrmo]
  cases e : sg[i]? with
  | none => rfl
  | some a => cases a with
    | none => rfl
    | some b => cases b <;> first | rfl | (rename_i v; cases v <;> rfl)
@[simp] theorem e_obo : ob ⟨sg, st⟩ (.own i) = (match sg[i]? with | some (some (.own o)) => some o | some (some (.v (.r n))) => (match st[n]? with | some .gone => none | some o => some o | none => none) | _ => none) := by
  unfold ob
  rw [e_nrmo]
  cases e : sg[i]? with
  | none => simp [e]
  | some a => cases a with
    | none => simp [e]
    | some b => cases b with
      | own o => simp [e]
      | v v => cases v <;> simp [e] <;> rfl
@[simp] theorem e_obd : ob s (.val (.d d)) = none := id rfl
@[simp] theorem e_obr : ob s (.val (.r n)) = (match s.st[n]? with | some .gone => none | some o => some o | none => none) := id rfl
@[simp] theorem e_lvd : lv s (.val (.d d)) = (match d with | .lst l => some (l.map .d) | _ => none) := by cases d <;> rfl
@[simp] theorem e_tvd : tv s (.val (.d d)) = (match d with | .tup l => some (l.map .d) | _ => none) := by cases d <;> rfl
theorem e_lv : lv s r = (match dv s r with | some (.lst l) => some (l.map .d) | some _ => none | none => match ob s r with | some (.lst l) => some l | _ => none) := rfl
@[simp] theorem e_lvo : lv ⟨sg, st⟩ (.own i) = (match dv ⟨sg, st⟩ (.own i) with | some (.lst l) => some (l.map .d) | some _ => none | none => match ob ⟨sg, st⟩ (.own i) with | some (.lst l) => some l | _ => none) := id rfl
@[simp] theorem e_lvr : lv s (.val (.r n)) = (match ob s (.val (.r n)) with | some (.lst l) => some l | _ => none) := id rfl
@[simp] theorem e_var : fVar i ⟨sg, st⟩ = (match sg[i]? with | some (some (.v x)) => .ok (.val x) ⟨sg, st⟩ | some (some (.own _)) => .ok (.own i) ⟨sg, st⟩ | _ => .stuck) := id rfl
@[simp] theorem e_fD : fD d s = .ok (.val (.d d)) s := id rfl
@[simp] theorem e_okv : okv d s = .ok (.val (.d d)) s := id rfl
@[simp] theorem e_ev : ev f s = (f s).bind settle := id rfl
@[simp] theorem e_sv : settle (.val x) s = .ok (.val x) s := id rfl
@[simp] theorem e_so : settle (.own i) s = .ok (.own i) s := id rfl
@[simp] theorem e_sn : settle (.new o) s = (match o.toD with | some d => .ok (.val (.d d)) s | none => .stuck) := id rfl
@[simp] theorem e_ev2 (k : RV → RV → State → Res RV) : ev2 fa fb k s = (ev fa s).bind fun x s => (ev fb s).bind fun y s => k x y s := id rfl
@[simp] theorem e_evB : evB f s = (ev f s).bind asB := id rfl
@[simp] theorem e_asB : asB r s = (match dv s r with | some (.bl b) => .ok b s | _ => .stuck) := id rfl
@[simp] theorem e_evA0 : evA [] s = .ok [] s := id rfl
@[simp] theorem e_evA : evA (f :: fs) s = (ev f s).bind fun x s => (evA fs s).bind fun xs s => .ok (x :: xs) s := id rfl
@[simp] theorem e_cv : cap (.val x) s = .ok x s := id rfl
@[simp] theorem e_cn : cap (.new o) s = (match o.toD with | some d => .ok (.d d) s | none => .stuck) := id rfl
@[simp] theorem e_co : cap (.own i) ⟨sg, st⟩ = (match sg[i]? with | some (some (.own o)) => (match o.toD with | some d => .ok (.d d) ⟨sg.set i (some (.v (.d d))), st⟩ | none => .stuck) | some (some (.v x)) => .ok x ⟨sg, st⟩ | _ => .stuck) := id rfl
@[simp] theorem e_ca0 : capAll [] s = .ok [] s := id rfl
@[simp] theorem e_ca : capAll (r :: rs) s = (cap r s).bind fun x s => (capAll rs s).bind fun xs s => .ok (x :: xs) s := id rfl
@[simp] theorem e_toDs0 : toDs [] = some [] := id rfl
@[simp] theorem e_toDs (v : List Val) : toDs (.d d :: v) = (toDs v).map (d :: ·) := id rfl
@[simp] theorem e_toD (l : List Val) : Ob.toD (.lst l) = (toDs l).map .lst := id rfl
@[simp] theorem e_tup : fTup fs s = (evA fs s).bind bTup := id rfl
@[simp] theorem e_lst : fLst fs s = (evA fs s).bind bLst := id rfl
@[simp] theorem e_neg : fNeg f s = (ev f s).bind bNeg := id rfl
@[simp] theorem e_bNeg : bNeg r s = (match dv s r with | some (.int i) => .ok (.val (.d (.int (-i)))) s | _ => .stuck) := id rfl
@[simp] theorem e_bTup : bTup rs s = (capAll rs s).bind fun l s => if l.length ≤ sizeLine then .ok (.val (mkTup l)) s else .stuck := id rfl
@[simp] theorem e_bLst : bLst rs s = (capAll rs s).bind fun l s => if l.length ≤ sizeLine then .ok (.new (.lst l)) s else .stuck := id rfl
@[simp] theorem e_mkTup (l : List Val) : mkTup l = (match toDs l with | some ds => .d (.tup ds) | none => .tp l) := id rfl
@[simp] theorem e_blt (k : State → Res (List RV)) (b : List RV → State → Res RV) : fBlt k b s = (k s).bind b := id rfl
@[simp] theorem e_call (k : State → Res (List RV)) (gg : Fn) : fCall n k gg s = (k s).bind fun rs s => (capAll rs s).bind fun args s => if args.length = n then callR gg args s else .stuck := id rfl
@[simp] theorem e_callR (gg : Fn) (args : List Val) : callR gg args ⟨sg, st⟩ = callE sg (gg args st) := id rfl
@[simp] theorem e_mt (T : String) (k : State → Res (List RV)) (b : RV → List RV → State → Res RV) (ty : State → RV → Bool) : fMt T f k b ty s = (ev f s).bind fun o s => if ty s o then (k s).bind fun rs s => b o rs s else .stuck := id rfl
@[simp] theorem e_seq0 : sSeq [] s = .ok .nx s := id rfl
@[simp] theorem e_seq : sSeq (sa :: ss) s = seqE (sa s) (sSeq ss) := id rfl
@[simp] theorem e_if : sIf ft sa sb s = (ft s).bind fun k s => if k = true then sa s else sb s := id rfl
@[simp] theorem e_fif : fIf ft fa fb s = (ft s).bind fun k s => if k = true then fa s else fb s := id rfl
@[simp] theorem e_ret : sRet f s = (f s).bind fun r s => .ok (.ret r) s := id rfl
@[simp] theorem e_expr : sExpr f s = (f s).bind fun _ s => .ok .nx s := id rfl
@[simp] theorem e_asg : sAsg i f s = (f s).bind fun r s => optF (putS i r s) := id rfl
@[simp] theorem e_optS : optF (some s) = .ok .nx s := id rfl
@[simp] theorem e_putv : putS i (.val x) ⟨sg, st⟩ = some ⟨sg.set i (some (.v x)), st⟩ := id rfl
@[simp] theorem e_putn : putS i (.new o) ⟨sg, st⟩ = some ⟨sg.set i (some (.own o)), st⟩ := id rfl
@[simp] theorem e_puto (j : Nat) : putS i (.own j) s = (match capt j s with | .ok x s => some { s with sg := s.sg.set i (some (.v x)) } | _ => none) := id rfl
@[simp] theorem e_capt : capt i ⟨sg, st⟩ = cap (.own i) ⟨sg, st⟩ := id rfl
@[simp] theorem e_for (t : Tg) (src : State → Res (List Val)) : sFor t src sb s = (src s).bind fun l s => sForI t sb l s := id rfl
@[simp] theorem e_srcK (k : State → Res (List RV)) (b : List RV → State → Res (List Val)) : SrcK k b s = (k s).bind b := id rfl
@[simp] theorem e_sD (k : D → State → Res (List Val)) : sD f k s = (ev f s).bind fun r s => (capD r s).bind k := id rfl
@[simp] theorem e_capD : capD r s = (match cap r s with | .ok (.d x) s => .ok x s | _ => .stuck) := id rfl
@[simp] theorem e_and1 : fAnd [ft] s = ft s := id rfl
@[simp] theorem e_and2 (f2 : State → Res Bool) (fr : List (State → Res Bool)) : fAnd (ft :: f2 :: fr) s = (ft s).bind fun b s => if b = true then fAnd (f2 :: fr) s else .ok false s := id rfl
@[simp] theorem e_or1 : fOr [ft] s = ft s := id rfl
@[simp] theorem e_or2 (f2 : State → Res Bool) (fr : List (State → Res Bool)) : fOr (ft :: f2 :: fr) s = (ft s).bind fun b s => if b = true then .ok true s else fOr (f2 :: fr) s := id rfl
@[simp] theorem e_not : fNot ft s = (ft s).bind fun b s => .ok (!b) s := id rfl
@[simp] theorem e_andv1 : fAndV [f] s = ev f s := id rfl
@[simp] theorem e_andv2 : fAndV (f :: g :: fs) s = (evB f s).bind fun b s => if b = true then fAndV (g :: fs) s else okv (.bl false) s := id rfl
@[simp] theorem e_orv1 : fOrV [f] s = ev f s := id rfl
@[simp] theorem e_orv2 : fOrV (f :: g :: fs) s = (evB f s).bind fun b s => if b = true then okv (.bl true) s else fOrV (g :: fs) s := id rfl
@[simp] theorem e_fcmp (op : Cop) : fCmp op r r' s = (match cmpop op s r r' with | some b => okv (.bl b) s | none => .stuck) := id rfl
@[simp] theorem e_len : bLen [r] s = (match dv s r with | some (.str t) => if t.length ≤ sizeLine then okv (.int t.length) s else .stuck | _ => match sq s r with | some l => okv (.int l.length) s | none => .stuck) := id rfl
@[simp] theorem e_sq : sq s r = (match lv s r with | some l => some l | none => tv s r) := id rfl
@[simp] theorem e_list : bList [r] s = (match sq s r with | some l => .ok (.new (.lst l)) s | none => .stuck) := id rfl
@[simp] theorem e_abs : bAbs [r] s = (match dv s r with | some (.int i) => okv (.int (if i < 0 then -i else i)) s | _ => .stuck) := id rfl
@[simp] theorem e_max2 : bMax2 [r, r'] s = (match dv s r, dv s r' with | some (.int i), some (.int j) => okv (.int (if j > i then j else i)) s | _, _ => .stuck) := id rfl
@[simp] theorem e_append : bAppend r [r'] s = (cap r' s).bind fun y s => match ob s r with | some (.lst l) => if l.length < sizeLine then .ok (.val (.d .non)) (wr r (.lst (l ++ [y])) s) else .stuck | _ => .stuck := id rfl
@[simp] theorem e_pop : bPop r [] s = (match ob s r with | some (.lst l) => (match l[l.length - 1]? with | some y => .ok (.val y) (wr r (.lst l.dropLast) s) | none => .stuck) | _ => .stuck) := id rfl
@[simp] theorem e_wro : wr (.own i) o ⟨sg, st⟩ = (match nrm ⟨sg, st⟩ (.own i) with | .own i => ⟨sg.set i (some (.own o)), st⟩ | .val (.r n) => ⟨sg, st.set n o⟩ | _ => ⟨sg, st⟩) := id rfl
@[simp] theorem e_wrr : wr (.val (.r n)) o ⟨sg, st⟩ = ⟨sg, st.set n o⟩ := id rfl
@[simp] theorem e_tyL : tyLst s r = (lv s r).isSome := id rfl
@[simp] theorem e_add : binop .add r r' s = bAdd r r' s := id rfl
@[simp] theorem e_mul : binop .mul r r' s = bMul r r' s := id rfl
theorem e_addI {i j : Int} (h : dv s r = some (.int i)) (h' : dv s r' = some (.int j)) : bAdd r r' s = okv (.int (i + j)) s := by unfold bAdd; rw [h, h']
@[simp] theorem e_addII (i j : Int) : bAdd (.val (.d (.int i))) (.val (.d (.int j))) s = okv (.int (i + j)) s := id rfl
@[simp] theorem e_subII (i j : Int) : binop .sub (.val (.d (.int i))) (.val (.d (.int j))) s = okv (.int (i - j)) s := id rfl
@[simp] theorem e_mulII (i j : Int) : bMul (.val (.d (.int i))) (.val (.d (.int j))) s = if MulB i j = true then okv (.int (i * j)) s else .stuck := by
  show (if i.natAbs.log2 + j.natAbs.log2 < 1000000 then okv (.int (i * j)) s else .stuck) = _
  by_cases h : i.natAbs.log2 + j.natAbs.log2 < 1000000
  · rw [if_pos h]; exact (if_pos (decide_eq_true h)).symm
  · rw [if_neg h]; exact (if_neg (fun z => h (of_decide_eq_true z))).symm
@[simp] theorem e_fdivII (i j : Int) : binop .fdiv (.val (.d (.int i))) (.val (.d (.int j))) s = if DivB j = true then okv (.int (i / j)) s else .stuck := by
  show (if 0 < j ∧ j.natAbs.log2 < 9000 then okv (.int (i / j)) s else .stuck) = _
  by_cases h : 0 < j ∧ j.natAbs.log2 < 9000
  · rw [if_pos h]; exact (if_pos (decide_eq_true h)).symm
  · rw [if_neg h]; exact (if_neg (fun z => h (of_decide_eq_true z))).symm
@[simp] theorem e_modII (i j : Int) : binop .mod (.val (.d (.int i))) (.val (.d (.int j))) s = if 0 < j then okv (.int (i % j)) s else .stuck := id rfl
@[simp] theorem e_powII (i j : Int) : binop .pow (.val (.d (.int i))) (.val (.d (.int j))) s = if 0 ≤ j ∧ j ≤ 1000000 ∧ i.natAbs < 2 ^ 64 then okv (.int (i ^ j.toNat)) s else .stuck := id rfl
@[simp] theorem e_ltII (i j : Int) : cmpop .lt s (.val (.d (.int i))) (.val (.d (.int j))) = some (decide (i < j)) := id rfl
@[simp] theorem e_leII (i j : Int) : cmpop .le s (.val (.d (.int i))) (.val (.d (.int j))) = some (decide (i ≤ j)) := id rfl
@[simp] theorem e_gtII (i j : Int) : cmpop .gt s (.val (.d (.int i))) (.val (.d (.int j))) = some (decide (i > j)) := id rfl
@[simp] theorem e_geII (i j : Int) : cmpop .ge s (.val (.d (.int i))) (.val (.d (.int j))) = some (decide (i ≥ j)) := id rfl
@[simp] theorem e_eq : cmpop .eq s r r' = eqD s r r' := id rfl
@[simp] theorem e_ne : cmpop .ne s r r' = (eqD s r r').map not := id rfl
@[simp] theorem e_eqII (i j : Int) : eqD s (.val (.d (.int i))) (.val (.d (.int j))) = some (decide (i = j)) := by
  show (if comparable (.int i) (.int j) then some (deq (.int i) (.int j)) else none) = _
  rw [if_pos (by rfl)]
  show some (i == j) = _
  by_cases h : i = j
  · simp [h]
  · have : (i == j) = false := by simpa using h
    rw [this]; simp [h]
@[simp] theorem e_rng1 (j : Int) : kRng1 [.val (.d (.int j))] s = rngOf 0 j s := id rfl
@[simp] theorem e_rng2 (i j : Int) : kRng2 [.val (.d (.int i)), .val (.d (.int j))] s = rngOf i j s := id rfl
theorem e_rng3 (i j k : Int) : kRng3 [.val (.d (.int i)), .val (.d (.int j)), .val (.d (.int k))] s = rngC i j k s := rfl
@[simp] theorem e_outv : outR s (.val x) = some (.val x) := id rfl
@[simp] theorem e_outn : outR s (.new o) = some (.new o) := id rfl
@[simp] theorem e_outo : outR ⟨sg, st⟩ (.own i) = (match sg[i]? with | some (some (.own o)) => some (.new o) | some (some (.v x)) => some (.val x) | _ => none) := id rfl
@[simp] theorem e_asgn : asgT (.nm i) x ⟨sg, st⟩ = some ⟨sg.set i (some (.v x)), st⟩ := id rfl
end
theorem small (n : Nat) (h : n ≤ 16777216) : n ≤ sizeLine := by rw [sizeLine_eq]; exact h
theorem small' (n : Nat) (h : n < 16777216) : n < sizeLine := by rw [sizeLine_eq]; exact h

section
variable (sg : Slots) (st : List Ob) (s : State) (i : Int) (j : Nat) (l : List D) (t : List Nat) (m : List Val)
theorem atI_map {α β : Type} (f : α → β) (l : List α) (i : Int) : atI (l.map f) i = (atI l i).map f := by
  unfold atI
  rw [List.length_map]
  cases ixN l.length i <;> simp
@[simp] theorem e_ixl : ixv (.val (.d (.lst l))) (.val (.d (.int i))) s = (match atI l i with | some d => .ok (.val (.d d)) s | none => .stuck) := by
  show (match atI (l.map Val.d) i with | some v => Res.ok (RV.val v) s | none => Res.stuck) = _
  rw [atI_map]
  cases atI l i <;> rfl
@[simp] theorem e_ixt : ixv (.val (.d (.tup l))) (.val (.d (.int i))) s = (match atI l i with | some d => .ok (.val (.d d)) s | none => .stuck) := by
  show (match atI (l.map Val.d) i with | some v => Res.ok (RV.val v) s | none => Res.stuck) = _
  rw [atI_map]
  cases atI l i <;> rfl
@[simp] theorem e_ixs : ixv (.val (.d (.str t))) (.val (.d (.int i))) s = (if t.length ≤ sizeLine then match atI t i with | some c => .ok (.val (.d (.str [c]))) s | none => .stuck else .stuck) := id rfl
/-- the general form, shut -/
def ixO (x y : RV) (s : State) : Res RV := ixv x y s
@[simp] theorem e_ixo : ixv (.own j) (.val (.d (.int i))) ⟨sg, st⟩ = (match sg[j]? with | some (some (.own (.lst l))) => (match atI l i with | some v => .ok (.val v) ⟨sg, st⟩ | none => .stuck) | _ => ixO (.own j) (.val (.d (.int i))) ⟨sg, st⟩) := by
  split
  · rename_i l e
    unfold ixv dget dcv dtv
    simp [e, lv]
    all_goals (cases atI l i <;> rfl)
  · rfl
theorem atI_pos {α : Type} {l : List α} {i : Int} (h0 : 0 ≤ i) (h1 : i < l.length) : atI l i = l[i.toNat]? := by
  unfold atI ixN
  rw [if_pos h0, if_pos h1]
  rfl
@[simp] theorem atI_cons0 {α : Type} (x : α) (l : List α) : atI (x :: l) 0 = some x := by
  rw [atI_pos (by omega) (by rw [List.length_cons]; omega)]
  rfl
theorem atI_last {α : Type} (l : List α) (x : α) : atI (l ++ [x]) (-1) = some x := by
  unfold atI ixN
  rw [if_neg (by omega), if_pos (by simp; omega)]
  show (l ++ [x])[((-1 : Int) + ((l ++ [x]).length : Nat)).toNat]? = _
  have e : ((-1 : Int) + ((l ++ [x]).length : Nat)).toNat = l.length := by rw [List.length_append, List.length_singleton]; omega
  rw [e]
  simp
end

theorem log64 {n : Nat} (h : n < 18446744073709551616) : n.log2 < 64 := by
  by_cases h0 : n = 0
  · subst h0; decide
  · exact (Nat.log2_lt h0).mpr h
/-- a product's room -/
theorem mulB {i j : Int} (h1 : -18446744073709551616 < i) (h2 : i < 18446744073709551616) (h3 : -18446744073709551616 < j) (h4 : j < 18446744073709551616) : MulB i j = true := by
  have := log64 (n := i.natAbs) (by omega)
  have := log64 (n := j.natAbs) (by omega)
  exact decide_eq_true (by omega)
theorem divB {j : Int} (h0 : 0 < j) (h' : j < 18446744073709551616) : DivB j = true := decide_eq_true ⟨h0, by have := log64 (n := j.natAbs) (by omega); omega⟩
@[simp] theorem e_for0 (t : Tg) (b : State → Res Fl) (s : State) : sForI t b [] s = .ok .nx s := id rfl
@[simp] theorem e_forc (t : Tg) (b : State → Res Fl) (x : Val) (l : List Val) (s : State) : sForI t b (x :: l) s = (match asgT t x s with | none => .stuck | some s => forE (b s) (sForI t b l)) := id rfl
abbrev vI (i : Int) : Val := .d (.int i)
abbrev si (i : Int) : Option Sl := some (.v (.d (.int i)))
abbrev sd (d : D) : Option Sl := some (.v (.d d))
abbrev so (l : List Val) : Option Sl := some (.own (.lst l))

section
variable (sg : Slots) (st : List Ob) (s : State)
@[simp] theorem e_wip0 : wipeS [] s = s := id rfl
@[simp] theorem e_wip (v : Nat) (vs : List Nat) : wipeS (v :: vs) ⟨sg, st⟩ = ⟨(wipeG sg vs).set v none, st⟩ := id rfl
@[simp] theorem e_wiG0 : wipeG sg [] = sg := id rfl
@[simp] theorem e_wiG (v : Nat) (vs : List Nat) : wipeG sg (v :: vs) = (wipeG sg vs).set v none := id rfl
@[simp] theorem e_ftrue : fTrue s = .ok true s := id rfl
@[simp] theorem e_lcE (acc : List Val) : lcE acc s = .ok (.new (.lst acc)) s := id rfl
@[simp] theorem e_lc (vs : List Nat) (t : Tg) (src : State → Res (List Val)) (ft : State → Res Bool) (fe : State → Res RV) : fLc vs t src ft fe s = (src s).bind fun l s => (lcI vs t ft fe l [] (wipeS vs s)).bind lcE := id rfl
end
/-- a comprehension's one turn -/
def lcOne (vs : List Nat) (t : Tg) (ft : State → Res Bool) (fe : State → Res RV) (s : State) (x y : Val) : Prop :=
  ∃ s1 s2 s3 s4 r, asgT t x (wipeS vs s) = some s1 ∧ ft s1 = .ok true s2 ∧ fe s2 = .ok r s3 ∧ cap r s3 = .ok y s4 ∧ wipeS vs s4 = s
def lcNo (vs : List Nat) (t : Tg) (ft : State → Res Bool) (s : State) (x : Val) : Prop :=
  ∃ s1 s2, asgT t x (wipeS vs s) = some s1 ∧ ft s1 = .ok false s2 ∧ wipeS vs s2 = s
theorem lc_map {vs : List Nat} {t : Tg} {ft : State → Res Bool} {fe : State → Res RV} {s : State} {α : Type} (E F : α → Val) : ∀ (l : List α) (acc : List Val), (∀ x ∈ l, lcOne vs t ft fe s (E x) (F x)) → acc.length + l.length ≤ sizeLine →
    lcI vs t ft fe (l.map E) acc s = .ok (acc ++ l.map F) s
  | [], acc, h, hl => by simp [lcI]
  | x :: l, acc, h, hl => by
    obtain ⟨s1, s2, s3, s4, r, h1, h2, h3, h4, h5⟩ := h x (by simp)
    simp only [List.length_cons] at hl
    have hlt : acc.length < sizeLine := by omega
    simp only [List.map_cons, lcI, h1, h2, h3, h4, if_pos hlt, h5]
    rw [lc_map E F l (acc ++ [F x]) (fun x hx => h x (by simp [hx])) (by simp; omega)]
    simp
theorem lc_filter {vs : List Nat} {t : Tg} {ft : State → Res Bool} {fe : State → Res RV} {s : State} {α : Type} (E F : α → Val) (p : α → Bool) : ∀ (l : List α) (acc : List Val), (∀ x ∈ l, if p x = true then lcOne vs t ft fe s (E x) (F x) else lcNo vs t ft s (E x)) → acc.length + l.length ≤ sizeLine →
    lcI vs t ft fe (l.map E) acc s = .ok (acc ++ (l.filter p).map F) s
  | [], acc, h, hl => by simp [lcI]
  | x :: l, acc, h, hl => by
    have hx := h x (by simp)
    simp only [List.length_cons] at hl
    by_cases hp : p x = true
    · rw [if_pos hp] at hx
      obtain ⟨s1, s2, s3, s4, r, h1, h2, h3, h4, h5⟩ := hx
      have hlt : acc.length < sizeLine := by omega
      simp only [List.map_cons, lcI, h1, h2, h3, h4, if_pos hlt, h5]
      rw [lc_filter E F p l (acc ++ [F x]) (fun x hx => h x (by simp [hx])) (by simp; omega)]
      simp [hp]
    · rw [if_neg hp] at hx
      obtain ⟨s1, s2, h1, h2, h5⟩ := hx
      simp only [List.map_cons, lcI, h1, h2, h5]
      rw [lc_filter E F p l acc (fun x hx => h x (by simp [hx])) (by omega)]
      simp [hp]
@[simp] theorem toDs_mapF {α : Type} (l : List α) (F : α → D) : toDs (l.map fun x => .d (F x)) = some (l.map F) := by
  have : (l.map fun x => Val.d (F x)) = (l.map F).map .d := by simp
  rw [this, toDs_map]
@[simp] theorem toDs_comp {α : Type} (l : List α) (F : α → D) : toDs (l.map (Val.d ∘ F)) = some (l.map F) := toDs_mapF l F
@[simp] theorem toDs_vI (l : List Int) : toDs (l.map vI) = some (l.map .int) := toDs_mapF l _

section
variable (sg : Slots) (st : List Ob) (s : State) (t : Tg) (ts : List Tg) (x : Val) (l : List Val) (r : RV) (f : State → Res RV)
@[simp] theorem e_asgtp : asgT (.tp ts) x s = (match tv s (.val x) with | some l => if l.length = ts.length then asgTs ts l s else none | none => none) := id rfl
@[simp] theorem e_asgs0 : asgTs [] [] s = some s := id rfl
@[simp] theorem e_asgsc : asgTs (t :: ts) (x :: l) s = (match asgT t x s with | some s => asgTs ts l s | none => none) := id rfl
@[simp] theorem e_maxL : bMaxL [r] s = (match (lv s r).bind intsOf with | some (n :: ns) => okv (.int (maxI (n :: ns))) s | _ => .stuck) := id rfl
@[simp] theorem e_items (d : D) : itemsOf d s = (match d with | .lst l => .ok (l.map .d) s | .tup l => .ok (l.map .d) s | .str t => .ok (t.map fun c => .d (.str [c])) s | .dic l => .ok (l.map fun p => .d (k0d p.1)) s | _ => .stuck) := by cases d <;> rfl
@[simp] theorem e_enum (d : D) : enumOf d s = (match d with | .lst l => .ok (l.mapIdx fun i x => .d (.tup [.int i, x])) s | .str t => .ok (t.mapIdx fun i c => .d (.tup [.int i, .str [c]])) s | _ => .stuck) := by cases d <;> rfl
@[simp] theorem e_sl (lo hi : Par) : fSl f lo hi s = (ev f s).bind fun x s => (evP lo s).bind fun l s => (evP hi s).bind fun h s => slv x l h s := id rfl
@[simp] theorem e_pno : evP .no s = .ok none s := id rfl
@[simp] theorem e_pex : evP (.ex f) s = (ev f s).bind asI := id rfl
@[simp] theorem e_asI (i : Int) : asI (.val (.d (.int i))) s = .ok (some i) s := id rfl
@[simp] theorem e_slv (lo hi : Option Int) : slv r lo hi s = (match dv s r with | some (.str t) => if t.length ≤ sizeLine then okv (.str (cutL t lo hi)) s else .stuck | _ => match lv s r with | some l => .ok (.new (.lst (cutL l lo hi))) s | none => match tv s r with | some l => if (cutL l lo hi).length = l.length then .stuck else .ok (.val (mkTup (cutL l lo hi))) s | none => .stuck) := id rfl
theorem e_set (fo fi fv : State → Res RV) : sSet fo fi fv s = (ev fv s).bind fun v s => (ev fo s).bind fun o s => (ev fi s).bind fun i s => match cap v s with | .ok x s => optF (setI o i x s) | _ => .stuck := rfl
end
theorem intsOf_vI : ∀ l : List Int, intsOf (l.map vI) = some l
  | [] => rfl
  | x :: l => by
    show (intsOf (l.map vI)).map (x :: ·) = _
    rw [intsOf_vI l]
    rfl
theorem cutL_nat {α : Type} (l : List α) (a b : Nat) : cutL l (some (a : Int)) (some (b : Int)) = (l.drop a).take (b - a) := by
  unfold cutL
  rw [HT.sIx_nat, HT.sIx_nat]
  by_cases h : a ≤ l.length
  · rw [Nat.min_eq_left h]
    by_cases h2 : b ≤ l.length
    · rw [Nat.min_eq_left h2]
    · have e1 : (l.drop a).take (l.length - a) = l.drop a := List.take_of_length_le (by simp)
      have e2 : (l.drop a).take (b - a) = l.drop a := List.take_of_length_le (by simp; omega)
      rw [Nat.min_eq_right (show l.length ≤ b by omega), e1, e2]
  · have e1 : l.drop a = [] := List.drop_eq_nil_of_le (by omega)
    have e2 : l.drop l.length = [] := List.drop_eq_nil_of_le (Nat.le_refl _)
    rw [Nat.min_eq_right (show l.length ≤ a by omega), e1, e2]
    simp
theorem cutL_map {α β : Type} (f : α → β) (l : List α) (lo hi : Option Int) : cutL (l.map f) lo hi = (cutL l lo hi).map f := by
  unfold cutL
  rw [List.length_map, List.map_take, List.map_drop]

@[simp] theorem atI_cons1 {α : Type} (x y : α) (l : List α) : atI (x :: y :: l) 1 = some y := by
  rw [atI_pos (by omega) (by rw [List.length_cons, List.length_cons]; omega)]
  rfl
@[simp] theorem atI_cons2 {α : Type} (x y z : α) (l : List α) : atI (x :: y :: z :: l) 2 = some z := by
  rw [atI_pos (by omega) (by rw [List.length_cons, List.length_cons, List.length_cons]; omega)]
  rfl
@[simp] theorem atI_cons3 {α : Type} (x y z w : α) (l : List α) : atI (x :: y :: z :: w :: l) 3 = some w := by
  rw [atI_pos (by omega) (by rw [List.length_cons, List.length_cons, List.length_cons, List.length_cons]; omega)]
  rfl

theorem rngC_ok {n c : Nat} (h0 : 0 < c) (h1 : c < 1000000) (hn : n < 1000000) (s : State) : rngC 0 n c s = .ok ((List.range ((n + c - 1) / c)).map fun (k : Nat) => vI (k * c)) s := by
  have e : (((n : Int) - 0 + c - 1) / c).toNat = (n + c - 1) / c := by
    have : ((n : Int) - 0 + c - 1) = ((n + c - 1 : Nat) : Int) := by omega
    rw [this, ← Int.natCast_ediv, Int.toNat_natCast]
  unfold rngC
  rw [if_pos (by omega), e]
  congr 1
  refine List.map_congr_left fun k _ => ?_
  rw [Int.zero_add]
theorem rngOf_ok {i j : Int} (h0 : -1000000000 ≤ i) (h1 : i ≤ 1000000000) (h2 : -1000000000 ≤ j) (h3 : j ≤ 1000000000) (s : State) : rngOf i j s = .ok ((List.range (j - i).toNat).map fun (k : Nat) => vI (i + k)) s := by
  unfold rngOf
  rw [if_pos (by omega)]
theorem rngOf_nat {n : Nat} (h : n ≤ 1000000000) (s : State) : rngOf 0 n s = .ok ((List.range n).map fun (k : Nat) => vI k) s := by
  rw [rngOf_ok (by omega) (by omega) (by omega) (by omega)]
  simp

/-- a def's end -/
def fnE (r : Res Fl) : Res RV :=
  match r with
  | .ok .nx s => .ok (.val (.d .non)) ⟨[], s.st⟩
  | .ok (.ret r) s => match outR s r with
    | some r' => .ok r' ⟨[], s.st⟩
    | none => .stuck
  | .ok _ _ => .stuck
  | .exc x s => .exc x ⟨[], s.st⟩
  | .stuck => .stuck
theorem fnV_eq (n : Nat) (b : State → Res Fl) (args : List Val) (st : List Ob) : fnV n b args st = fnE (b ⟨args.map (fun x => some (.v x)) ++ List.replicate (n - args.length) none, st⟩) := by
  unfold fnV
  generalize b _ = r
  cases r with
  | ok k s => cases k <;> rfl
  | exc x s => rfl
  | stuck => rfl
@[simp] theorem fnE_nx (s : State) : fnE (.ok .nx s) = .ok (.val (.d .non)) ⟨[], s.st⟩ := id rfl
@[simp] theorem fnE_ret (r : RV) (s : State) : fnE (.ok (.ret r) s) = (match outR s r with | some r' => .ok r' ⟨[], s.st⟩ | none => .stuck) := id rfl
@[simp] theorem fnE_stuck : fnE .stuck = .stuck := id rfl
@[simp] theorem fnE_exc (x : Exn) (s : State) : fnE (.exc x s) = .exc x ⟨[], s.st⟩ := id rfl

mutual
def plD : D → Bool
  | .non => true
  | .bl _ => true
  | .int _ => true
  | .str _ => true
  | .tup l => plDs l
  | .lst l => plDs l
  | _ => false
def plDs : List D → Bool
  | [] => true
  | x :: r => plD x && plDs r
end
mutual
def dle : Nat → D → Bool
  | 0, .tup _ => false
  | 0, .lst _ => false
  | n + 1, .tup l => dles n l
  | n + 1, .lst l => dles n l
  | _, _ => true
def dles : Nat → List D → Bool
  | _, [] => true
  | n, x :: r => dle n x && dles n r
end
mutual
theorem pl_pd : ∀ d : D, plD d = true → (pd d).plain = true
  | .non, _ => rfl
  | .bl _, _ => rfl
  | .int _, _ => rfl
  | .str _, _ => rfl
  | .tup l, h => by
    have := pl_pds l (by simpa [plD] using h)
    simpa [pd, PyData.plain] using this
  | .lst l, h => by
    have := pl_pds l (by simpa [plD] using h)
    simpa [pd, PyData.plain] using this
  | .dic _, h => by simp [plD] at h
  | .dit _, h => by simp [plD] at h
  | .ins _ _, h => by simp [plD] at h
  | .exc _ _, h => by simp [plD] at h
theorem pl_pds : ∀ l : List D, plDs l = true → PyData.plainAll (pds l) = true
  | [], _ => rfl
  | x :: r, h => by
    have h : plD x = true ∧ plDs r = true := by simpa [plDs] using h
    simp [pds, PyData.plainAll, pl_pd x h.1, pl_pds r h.2]
end
mutual
theorem eqv_refl : ∀ d : D, plD d = true → PyData.eqv (pd d) (pd d) = true
  | .non, _ => rfl
  | .bl b, _ => by cases b <;> rfl
  | .int i, _ => by show (i == i) = true; simp
  | .str s, _ => by show (Vw.st s == Vw.st s) = true; exact beq_self_eq_true _
  | .tup l, h => by
    have := eqvs_refl l (by simpa [plD] using h)
    simpa [pd, PyData.eqv] using this
  | .lst l, h => by
    have := eqvs_refl l (by simpa [plD] using h)
    simpa [pd, PyData.eqv] using this
  | .dic _, h => by simp [plD] at h
  | .dit _, h => by simp [plD] at h
  | .ins _ _, h => by simp [plD] at h
  | .exc _ _, h => by simp [plD] at h
theorem eqvs_refl : ∀ l : List D, plDs l = true → PyData.eqvAll (pds l) (pds l) = true
  | [], _ => rfl
  | x :: r, h => by
    have h : plD x = true ∧ plDs r = true := by simpa [plDs] using h
    simp [pds, PyData.eqvAll, eqv_refl x h.1, eqvs_refl r h.2]
end
mutual
theorem dle_pd : ∀ (n : Nat) (d : D), plD d = true → dle n d = true → (pd d).depth ≤ n
  | n, .non, _, _ => by simp [pd, PyData.depth]
  | n, .bl _, _, _ => by simp [pd, PyData.depth]
  | n, .int _, _, _ => by simp [pd, PyData.depth]
  | n, .str _, _, _ => by simp [pd, PyData.depth]
  | 0, .tup l, _, h => by simp [dle] at h
  | 0, .lst l, _, h => by simp [dle] at h
  | n + 1, .tup l, p, h => by
    have := dles_pd n l (by simpa [plD] using p) (by simpa [dle] using h)
    simp [pd, PyData.depth, this]
  | n + 1, .lst l, p, h => by
    have := dles_pd n l (by simpa [plD] using p) (by simpa [dle] using h)
    simp [pd, PyData.depth, this]
  | n, .dic _, p, _ => by simp [plD] at p
  | n, .dit _, p, _ => by simp [plD] at p
  | n, .ins _ _, p, _ => by simp [plD] at p
theorem dles_pd : ∀ (n : Nat) (l : List D), plDs l = true → dles n l = true → PyData.depthAll (pds l) ≤ n
  | n, [], _, _ => by simp [pds, PyData.depthAll]
  | n, x :: r, p, h => by
    have p : plD x = true ∧ plDs r = true := by simpa [plDs] using p
    have h : dle n x = true ∧ dles n r = true := by simpa [dles] using h
    have h1 := dle_pd n x p.1 h.1
    have h2 := dles_pd n r p.2 h.2
    simp [pds, PyData.depthAll]
    omega
end
theorem plDs_map {α : Type} (F : α → D) : ∀ l : List α, (∀ x ∈ l, plD (F x) = true) → plDs (l.map F) = true
  | [], _ => rfl
  | x :: r, h => by simp [plDs, h x (by simp), plDs_map F r fun y hy => h y (by simp [hy])]
theorem dles_map {α : Type} (n : Nat) (F : α → D) : ∀ l : List α, (∀ x ∈ l, dle n (F x) = true) → dles n (l.map F) = true
  | [], _ => by simp [dles]
  | x :: r, h => by simp [dles, h x (by simp), dles_map n F r fun y hy => h y (by simp [hy])]
theorem deq_refl {d : D} (n : Nat) (hn : n ≤ 60) (p : plD d = true) (h : dle n d = true) : comparable d d = true ∧ deq d d = true := by
  refine ⟨?_, eqv_refl d p⟩
  have := dle_pd n d p h
  unfold comparable
  simp [pl_pd d p]
  omega
section
variable (sg : Slots) (st : List Ob) (s : State) (r r' : RV) (i : Int) (j : Nat) (x : Val)
@[simp] theorem e_pv : pv' s r = (match dv s r with | some d => some d | none => match ob s r with | some (.lst l) => (toDs l).map .lst | _ => none) := id rfl
theorem e_eqD : eqD s r r' = (match pv' s r, pv' s r' with | some a, some b => if comparable a b then some (deq a b) else none | _, _ => none) := id rfl
theorem eqD_same {d : D} (n : Nat) (hn : n ≤ 60) (p : plD d = true) (h : dle n d = true) (e1 : pv' s r = some d) (e2 : pv' s r' = some d) : eqD s r r' = some true := by
  obtain ⟨h1, h2⟩ := deq_refl n hn p h
  rw [e_eqD, e1, e2]
  dsimp only
  rw [if_pos h1, h2]
def setIO (o i : RV) (x : Val) (s : State) : Option State := setI o i x s
@[simp] theorem e_setI : setI (.own j) (.val (.d (.int i))) x ⟨sg, st⟩ = (match sg[j]? with | some (some (.own (.lst l))) => (match ixN l.length i with | some m => some ⟨sg.set j (some (.own (.lst (l.set m x)))), st⟩ | none => none) | _ => setIO (.own j) (.val (.d (.int i))) x ⟨sg, st⟩) := by
  split
  · rename_i l e
    unfold setI
    simp [e]
    all_goals (cases ixN l.length i <;> rfl)
  · exact id rfl
end
theorem ixN_last {α : Type} (l : List α) (x : α) : ixN (l ++ [x]).length (-1) = some l.length := by
  unfold ixN
  rw [if_neg (by omega), if_pos (by simp; omega)]
  simp
  omega
theorem set_last {α : Type} (l : List α) (x y : α) : (l ++ [x]).set l.length y = l ++ [y] := by simp

theorem seq_nx {f : State → Res Fl} {r : List (State → Res Fl)} {s s' : State} (h : f s = .ok .nx s') : sSeq (f :: r) s = sSeq r s' := by rw [e_seq, h, seqE_nx]
theorem seq_end {f : State → Res Fl} {r : List (State → Res Fl)} {s s' : State} {v : RV} (h : f s = .ok (.ret v) s') : sSeq (f :: r) s = .ok (.ret v) s' := by rw [e_seq, h, seqE_ret]
theorem fn_at {n : Nat} {b : State → Res Fl} {args : List Val} {st : List Ob} {s s' : State} {v v' : RV} (hs : s = ⟨args.map (fun x => some (.v x)) ++ List.replicate (n - args.length) none, st⟩) (h : b s = .ok (.ret v) s') (h' : outR s' v = some v') : fnV n b args st = .ok v' ⟨[], s'.st⟩ := by
  rw [fnV_eq, ← hs, h, fnE_ret, h']
end Vw
namespace Vw
open PySem L2 PyProof.Rows

def isiB (t T : String) : Bool := t == T || (t == "bool" && T == "int")
def ty7 : List String := ["NoneType", "bool", "int", "str", "list", "tuple", "dict"]
def tyN (s : State) (r : RV) : Option String :=
  match dv s r with
  | some .non => some "NoneType"
  | some (.bl _) => some "bool"
  | some (.int _) => some "int"
  | some (.str _) => some "str"
  | some (.lst _) => some "list"
  | some (.tup _) => some "tuple"
  | some (.dic _) => some "dict"
  | some _ => none
  | none => match ob s r with
    | some (.lst _) => some "list"
    | some _ => none
    | none => (tv s r).map fun _ => "tuple"
def fIsi (T : String) (f : State → Res RV) (s : State) : Res RV := (ev f s).bind fun r s =>
  match tyN s r with
  | some t => okv (.bl (isiB t T)) s
  | none => .stuck
def bIndex (o : RV) (rs : List RV) (s : State) : Res RV :=
  match rs with
  | [x] => match dv s o, dv s x with
    | some (.str a), some (.str b) => match Builtin.Str.occurrences (Vw.st a) (Vw.st b) 0 a.length 1 with
      | i :: _ => okv (.int (i : Nat)) s
      | [] => .stuck
    | _, _ => .stuck
  | _ => .stuck
def joinS (a : List Nat) : List (List Nat) → List Nat
  | [] => []
  | [x] => x
  | x :: r => x ++ a ++ joinS a r
section
variable {C : Cst} {Z Z' Zc : Hp} {loc loc' : List Addr} {s s' : State} {sv sv' : L2.St} {H H' : Hp}
variable {X : Cx} {e a b c o : Expr} {es : List Expr} {p pos apos pt : Pos} {f fa fb fc fo fi fv : State → Res RV} {fs : State → Res (List RV)}
theorem kit7 (K : PySem.W.Frag) : ∀ t ∈ ty7, ∀ T ∈ ty7, PySem.W.kitOne K (.type t) (.type T) = some (isiB t T) := by
  intro t ht T hT
  simp only [ty7, List.mem_cons, List.not_mem_nil, or_false] at ht hT
  rcases ht with rfl | rfl | rfl | rfl | rfl | rfl | rfl <;> rcases hT with rfl | rfl | rfl | rfl | rfl | rfl | rfl <;> rfl
theorem tyN_ok (r : SR C Z loc s sv H) (K : PySem.W.Frag) {rv : RV} {v : V} {t : String} (h : RVR C Z loc s sv H rv v) (e : tyN s rv = some t) : TyX K H v (.type t) ∧ t ∈ ty7 := by
  unfold tyN at e
  split at e
  · rename_i e1; cases e; have q := r.dv h e1; rw [show v = .non from q]; exact ⟨.base .non, by simp [ty7]⟩
  · rename_i b e1; cases e; have q := r.dv h e1; rw [show v = .bl b from q]; exact ⟨.base (.bl b), by simp [ty7]⟩
  · rename_i i e1; cases e; have q := r.dv h e1; rw [show v = .int i from q]; exact ⟨.base (.int i), by simp [ty7]⟩
  · rename_i x e1; cases e; have q := r.dv h e1; rw [show v = .str _ from q]; exact ⟨.base (.str _), by simp [ty7]⟩
  · rename_i l e1
    cases e
    obtain ⟨a, vs, rfl, z, _⟩ := r.dv h e1
    refine ⟨.base ?_, by simp [ty7]⟩
    rcases z with z | ⟨o, z⟩
    · exact .lst ((r.zh a _ z).at rfl)
    · exact .frz ((r.zh a _ z).at rfl)
  · rename_i l e1
    cases e
    obtain ⟨a, vs, rfl, z, _⟩ := r.dv h e1
    exact ⟨.base (.tup ((r.zh a _ z).at rfl)), by simp [ty7]⟩
  · rename_i l e1
    cases e
    obtain ⟨a, vs, rfl, z, _⟩ := r.dv h e1
    refine ⟨?_, by simp [ty7]⟩
    rcases r.zh a _ z with z | ⟨_, o, z⟩
    · exact .base (.dK z)
    · exact .fDict z
  · cases e
  · split at e
    · rename_i l e1
      cases e
      obtain ⟨a, rfl, _, xs, h1, _⟩ := r.ob h e1
      exact ⟨.base (.lst h1), by simp [ty7]⟩
    · cases e
    · obtain ⟨l, e1, rfl⟩ := Option.map_eq_some_iff.mp e
      obtain ⟨a, xs, rfl, h1, _⟩ := r.tv h e1
      exact ⟨.base (.tup h1), by simp [ty7]⟩
theorem x_isi {T : String} (he : PE X e (TEx C f)) (hg : Gl X "isinstance") (hm : X.mg "isinstance" = none) (hg2 : Gl X (Str.ofString T)) (hm2 : X.mg (Str.ofString T) = none) (hv : bootBuiltins (Str.ofString T) = some (.type T)) (hT : T ∈ ty7) (hs : notStar e = true)
    (hn : (Str.ofString T) ≠ "__name__") (hd : ((Str.ofString T) == ("__debug__" : Str)) = false) : PE X (.Call (.Name "isinstance" p) [e, .Name (Str.ofString T) pt] [] pos) (TEx C (fIsi T f)) := by
  refine PE_mono (pe_callB call_isi hg hm bb_isinstance (pa_cons he (pa_cons (pe_bltn (v := .ty T) hg2 hm2 hv rfl hn hd) pa_nil (by rfl)) (star_cons hs)) (by decide) (by decide) (star_cons hs) (by rfl)) fun sv H Q ⟨Z, loc, s, r, q⟩ => ?_
  refine (TEx.evE r q).imp fun v H1 ⟨Z1, l1, s1, y, g1, r1, st1, q1, h1⟩ => ?_
  cases et : tyN s1 y with
  | none => rw [et] at h1; exact h1.elim
  | some t =>
    rw [et] at h1
    obtain ⟨h2, h3⟩ := tyN_ok r1 X.K q1 et
    exact ⟨v, .ty T, .type t, .type T, _, rfl, .ty T, h2, kit7 X.K t h3 T hT, h1.okv r1 rfl⟩
/-- a text of the module -/
theorem x_gstr {x z : String} {t : Tok} (hg : Gl X (Str.ofString x)) (hm : X.mg (Str.ofString x) = some (.str (Str.ofString z) t)) (hd : ((Str.ofString x) == ("__debug__" : Str)) = false) : PE X (.Name (Str.ofString x) pos) (TEx C (fD (.str (sS z)))) :=
  v_const (pe_glob (v := .str (Str.ofString z)) hg hm ⟨t, rfl⟩ hd) fun _ => by
    show V.str _ = V.str _
    simp [sS]
theorem bIndex_ok : MtS C bIndex (fun x xs H Q => ∃ a b i rest, x = .str a ∧ xs = [.str b] ∧ Builtin.Str.occurrences a b 0 a.length 1 = i :: rest ∧ Q (.int (i : Nat)) H) := by
  intro Z loc s sv H o v rs vs Q r q qs h
  unfold bIndex at h
  split at h
  · split at h
    · rename_i a b e e'
      have qa : v = .str ⟨a.toArray⟩ := r.dv q e
      obtain ⟨w, rfl, rfl⟩ := dv1 r qs e'
      subst qa
      split at h
      · rename_i i rest e2
        exact ⟨_, _, i, rest, rfl, rfl, by simpa [Vw.st, Str.length] using e2, h.okv r rfl⟩
      · exact h.elim
    · exact h.elim
  · exact h.elim
end
section
variable {P : Program} {w : World} {K : PySem.W.Frag} {mg : Str → Option Value} {base : Heap}
/-- a def of which nothing is known -/
theorem fn_none {CX : CXT} {k n : Nat} {f : Addr} {fd : FuncData} {ps : List Str} {cA : String → Addr} (hn : ps.length = n) : FnOk P w K mg base CX k f fd ps (spV cA n fun _ _ => .stuck) := by
  subst hn
  refine ⟨spV_len, fun A outer s H args us vs Q E hr e0 hb hv hs => ?_⟩
  obtain ⟨Fr, H0, Z, loc, args, st, r, q, hl, h⟩ := hs
  exact h.elim
end
@[simp] theorem e_isi (T : String) (f : State → Res RV) (s : State) : fIsi T f s = (ev f s).bind fun r s => match tyN s r with | some t => okv (.bl (isiB t T)) s | none => .stuck := id rfl
@[simp] theorem e_tyN (s : State) (r : RV) : tyN s r = (match dv s r with | some .non => some "NoneType" | some (.bl _) => some "bool" | some (.int _) => some "int" | some (.str _) => some "str" | some (.lst _) => some "list" | some (.tup _) => some "tuple" | some (.dic _) => some "dict" | some _ => none | none => match ob s r with | some (.lst _) => some "list" | some _ => none | none => (tv s r).map fun _ => "tuple") := id rfl
end Vw
namespace Vw
open PySem L2 PyProof.Rows
def alR (r : RV) (s : State) : Res RV :=
  match r with
  | .new .gone => .stuck
  | .new o => .ok (.val (.r s.st.length)) ⟨s.sg, s.st ++ [o]⟩
  | _ => .stuck
def fAl (f : State → Res RV) (s : State) : Res RV := (f s).bind alR
section
variable {C : Cst} {Z Z' Zc : Hp} {loc loc' : List Addr} {s s' : State} {sv sv' : L2.St} {H H' : Hp}
variable {X : Cx} {e : Expr} {f : State → Res RV}
theorem SR.alloc (r : SR C Z loc s sv H) {a : Addr} {o : Ob} (ne : o ≠ .gone) (c : Cell C.cA Z loc H a o) (fr : Free C Z loc s sv a) :
    Ext Z loc Z (loc ++ [a]) ∧ SR C Z (loc ++ [a]) ⟨s.sg, s.st ++ [o]⟩ sv H ∧ RepV C.cA Z (loc ++ [a]) (.r s.st.length) (.ref a) := by
  have g : Ext Z loc Z (loc ++ [a]) := ⟨Same.refl _, [a], rfl⟩
  refine ⟨g, ⟨r.fr, r.zh, r.zf, r.lk, by simp [r.ln], ?_, fun b hb => ?_, fun n b ob h1 h2 h3 => ?_, fun i x h => ?_, fun i ob h => ?_, r.oi, r.ls⟩, a, ?_, rfl⟩
  · rw [List.nodup_append]
    exact ⟨r.nd, by simp, fun x hx y hy e => by simp at hy; subst hy; subst e; exact fr.l hx⟩
  · rcases List.mem_append.mp hb with hb | hb
    · exact r.lh b hb
    · simp at hb
      subst hb
      exact ⟨cell_ne ne c, fr.f⟩
  · by_cases hn : n < loc.length
    · rw [List.getElem?_append_left hn] at h1
      have h2 : (s.st ++ [o])[n]? = some ob := h2
      rw [List.getElem?_append_left (by rw [← r.ln]; exact hn)] at h2
      obtain ⟨q1, q2⟩ := r.cl n b ob h1 h2 h3
      exact ⟨q1.mono g (Same.refl _), q2⟩
    · have h2 : (s.st ++ [o])[n]? = some ob := h2
      have hlen : n < (loc ++ [a]).length := (List.getElem?_eq_some_iff.mp h1).1
      have hn' : n = loc.length := by simp at hlen; omega
      subst hn'
      rw [List.getElem?_append_right (Nat.le_refl _)] at h1
      rw [r.ln, List.getElem?_append_right (Nat.le_refl _)] at h2
      simp at h1 h2
      subst h1 h2
      exact ⟨c.mono g (Same.refl _), fr.z⟩
  · obtain ⟨v, q1, q2⟩ := r.vl i x h
    exact ⟨v, q1, RepV.mono g x q2⟩
  · obtain ⟨b, q1, q2, q3, q4, q5, q6⟩ := r.ow i ob h
    refine ⟨b, q1, q2, q3.mono g (Same.refl _), q4, q5, fun z => ?_⟩
    rcases List.mem_append.mp z with z | z
    · exact q6 z
    · simp at z
      subst z
      exact fr.o i ob h q1
  · rw [← r.ln]
    simp
theorem x_al (he : PE X e (TEx C f)) : PE X e (TEx C (fAl f)) := by
  refine PE_mono he fun sv H Q ⟨Z, loc, s, r, q⟩ => ?_
  refine (TEx.bindE r q).imp fun v H1 ⟨Z1, l1, s1, y, g1, r1, q1, h1⟩ => ?_
  cases y with
  | val x => exact h1.elim
  | own i => exact h1.elim
  | new o =>
    obtain ⟨a, h2, h3, h4, h5⟩ := q1
    subst h2
    have key : EPost C Z1 l1 sv (.ok (.val (.r s1.st.length)) ⟨s1.sg, s1.st ++ [o]⟩) Q := by
      cases o <;> first | exact h1 | exact absurd rfl h3
    obtain ⟨g2, r2, q2⟩ := r1.alloc h3 h4 h5
    exact key Z1 _ H1 _ g2 r2 q2
end
@[simp] theorem e_al (f : State → Res RV) (s : State) : fAl f s = (f s).bind alR := id rfl
@[simp] theorem e_alR (l : List Val) (sg : Slots) (st : List Ob) : alR (.new (.lst l)) ⟨sg, st⟩ = .ok (.val (.r st.length)) ⟨sg, st ++ [.lst l]⟩ := id rfl
end Vw
namespace Sh
open PySem L2 PyProof.Rows Vw
def t__law_pop_0 : State → Res Fl := (sIf (evB (ev2 (fVar 0) (fLst []) (fCmp .eq))) (sSeq [(sRet (fD (.int 0)))]) (sSeq []))
def t__law_pop_1 : State → Res Fl := (sRet (fMt "list" (fVar 0) (evA []) bPop tyLst))
def b__law_pop : State → Res Fl := (sSeq [t__law_pop_0, t__law_pop_1])
def g__law_pop : Fn := fnV 1 b__law_pop
def t__law_signs_0 : State → Res Fl := (sRet (fD (.str (sS " !\"#$&'()*+,-./0123456789:;<=>?@ABCDEFGHIJKLMNOPQRSTUVWXYZ[\\]^_`abcdefghijklmnopqrstuvwxyz{|}~"))))
def b__law_signs : State → Res Fl := (sSeq [t__law_signs_0])
def g__law_signs : Fn := fnV 0 b__law_signs
def t__law_text_0 : State → Res Fl := (sAsg 2 (fCall 1 (evA [(fVar 0)]) g__law_pop))
def t__law_text_1 : State → Res Fl := (sAsg 3 (fD (.str (sS ""))))
def lp__law_text_0 : State → Res Fl := (sSeq [(sAsg 5 (fCall 1 (evA [(fVar 0)]) g__law_pop)), (sAsg 6 (ev2 (fLst [(fCall 0 (evA []) g__law_signs), (fD (.str (sS "abA19 "))), (fD (.str (sS "abzAZ09 ' ")))]) (ev2 (fVar 5) (fD (.int 3)) (binop .mod)) ixv)), (sAsg 3 (ev2 (fVar 3) (ev2 (fVar 6) (ev2 (ev2 (fVar 5) (fD (.int 3)) (binop .fdiv)) (fBlt (evA [(fVar 6)]) bLen) (binop .mod)) ixv) (binop .add)))])
def t__law_text_2 : State → Res Fl := (sFor (.nm 4) (SrcK (evA [(ev2 (fVar 2) (ev2 (fVar 1) (fD (.int 1)) (binop .add)) (binop .mod))]) kRng1) lp__law_text_0)
def t__law_text_3 : State → Res Fl := (sRet (fVar 3))
def b__law_text : State → Res Fl := (sSeq [t__law_text_0, t__law_text_1, t__law_text_2, t__law_text_3])
def g__law_text : Fn := fnV 7 b__law_text
def t__law_draws_0 : State → Res Fl := (sAsg 3 (ev2 (fSl (fVar 0) .no (.ex (fD (.int 63)))) (fLst [(fVar 1)]) (binop .add)))
def t__law_draws_1 : State → Res Fl := (sAsg 4 (fLst []))
def ce__law_draws_0 : State → Res RV := (ev2 (fVar 10) (fD (.int 100000)) (binop .fdiv))
def lp__law_draws_0 : State → Res Fl := (sSeq [(sAsg 9 (ev2 (fVar 5) (fBlt (evA [(fVar 6)]) bLen) (binop .mod))), (sIf (evB (ev2 (fVar 5) (fVar 1) (fCmp .ge))) (sSeq [(sExpr (fMt "list" (fVar 4) (evA [(ev2 (ev2 (fVar 6) (fVar 9) ixv) (fD (.int 2147483587)) (binop .mod))]) bAppend tyLst))]) (sSeq [])), (sSet (fVar 6) (fVar 9) (ev2 (ev2 (fVar 6) (fVar 9) ixv) (fD (.int 2147483587)) (binop .fdiv)))])
def t__law_draws_2 : State → Res Fl := (sIf (evB (ev2 (ev2 (ev2 (ev2 (fVar 3) (fD (.int 0)) ixv) (fD (.int 50000)) (binop .fdiv)) (fD (.int 2)) (binop .mod)) (fD (.int 1)) (fCmp .eq))) (sSeq [(sAsg 6 (fLc [10] (.nm 10) (sD (fVar 3) itemsOf) fTrue ce__law_draws_0)), (sFor (.nm 5) (SrcK (evA [(ev2 (fVar 1) (fVar 2) (binop .add))]) kRng1) lp__law_draws_0), (sRet (fVar 4))]) (sSeq []))
def lp__law_draws_1 : State → Res Fl := (sSeq [(sAsg 7 (ev2 (ev2 (ev2 (ev2 (fVar 5) (fVar 1) (binop .add)) (ev2 (fVar 5) (fVar 1) (binop .add)) (binop .mul)) (fD (.int 7919)) (binop .mul)) (fD (.int 104729)) (binop .add))), (sAsg 8 (ev2 (ev2 (ev2 (ev2 (ev2 (fVar 3) (ev2 (fVar 5) (fBlt (evA [(fVar 3)]) bLen) (binop .mod)) ixv) (fD (.int 2147483647)) (binop .mod)) (fVar 7) (binop .add)) (fD (.int 48271)) (binop .mul)) (fD (.int 2147483647)) (binop .mod))), (sAsg 8 (ev2 (ev2 (ev2 (fVar 8) (fVar 8) (binop .mul)) (ev2 (fD (.int 69621)) (fVar 5) (binop .mul)) (binop .add)) (fD (.int 2147483629)) (binop .mod))), (sExpr (fMt "list" (fVar 4) (evA [(ev2 (ev2 (fVar 8) (fVar 8) (binop .mul)) (fD (.int 2147483587)) (binop .mod))]) bAppend tyLst))])
def t__law_draws_3 : State → Res Fl := (sFor (.nm 5) (SrcK (evA [(fVar 2)]) kRng1) lp__law_draws_1)
def t__law_draws_4 : State → Res Fl := (sRet (fVar 4))
def b__law_draws : State → Res Fl := (sSeq [t__law_draws_0, t__law_draws_1, t__law_draws_2, t__law_draws_3, t__law_draws_4])
def g__law_draws : Fn := fnV 11 b__law_draws
def t__law_alike_0 (rec : Fn) : State → Res Fl := (sIf (evB (fIsi "str" (fVar 1))) (sSeq [(sRet (fAndV [(fIsi "str" (fVar 0)), (ev2 (fVar 0) (fVar 1) (fCmp .eq))]))]) (sSeq []))
def t__law_alike_1 (rec : Fn) : State → Res Fl := (sIf (evB (fIsi "int" (fVar 1))) (sSeq [(sRet (fAndV [(fIsi "int" (fVar 0)), (fNotV (fIsi "bool" (fVar 0))), (ev2 (fVar 0) (fVar 1) (fCmp .eq))]))]) (sSeq []))
def t__law_alike_2 (rec : Fn) : State → Res Fl := (sIf (evB (fIsi "list" (fVar 1))) (sSeq [(sIf (fNot (evB (fIsi "list" (fVar 0)))) (sSeq [(sRet (fD (.bl false)))]) (sSeq []))]) (sSeq [(sIf (fNot (evB (fIsi "tuple" (fVar 0)))) (sSeq [(sRet (fD (.bl false)))]) (sSeq []))]))
def t__law_alike_3 (rec : Fn) : State → Res Fl := (sIf (evB (ev2 (fBlt (evA [(fVar 0)]) bLen) (fBlt (evA [(fVar 1)]) bLen) (fCmp .ne))) (sSeq [(sRet (fD (.bl false)))]) (sSeq []))
def lp__law_alike_0 (rec : Fn) : State → Res Fl := (sSeq [(sIf (fNot (evB (fLook 2 (evA [(ev2 (fVar 0) (fVar 2) ixv), (ev2 (fVar 1) (fVar 2) ixv)]) rec))) (sSeq [(sRet (fD (.bl false)))]) (sSeq []))])
def t__law_alike_4 (rec : Fn) : State → Res Fl := (sFor (.nm 2) (SrcK (evA [(fBlt (evA [(fVar 1)]) bLen)]) kRng1) (lp__law_alike_0 rec))
def t__law_alike_5 (rec : Fn) : State → Res Fl := (sRet (fD (.bl true)))
def b__law_alike (rec : Fn) : State → Res Fl := (sSeq [(t__law_alike_0 rec), (t__law_alike_1 rec), (t__law_alike_2 rec), (t__law_alike_3 rec), (t__law_alike_4 rec), (t__law_alike_5 rec)])
def g__law_alike : Nat → Fn
  | 0 => fun _ _ => .stuck
  | k + 1 => fnV 3 (b__law_alike (g__law_alike k))
@[simp] theorem e_addLL (a b : List D) (s : State) : bAdd (.val (.d (.lst a))) (.val (.d (.lst b))) s = (if a.length + b.length ≤ sizeLine then .ok (.new (.lst (a.map .d ++ b.map .d))) s else .stuck) := by
  show (if (a.map Val.d).length + (b.map Val.d).length ≤ sizeLine then _ else _) = _
  rw [List.length_map, List.length_map]
@[simp] theorem e_addSS (a b : List Nat) (s : State) : bAdd (.val (.d (.str a))) (.val (.d (.str b))) s = (if a.length + b.length ≤ sizeLine then .ok (.val (.d (.str (a ++ b)))) s else .stuck) := id rfl
theorem cutL_take {α : Type} (l : List α) (b : Nat) : cutL l none (some (b : Int)) = l.take b := by
  have h := cutL_nat l 0 b
  simpa [cutL, HT.sIx] using h
abbrev vM : Int := 2147483587
theorem dr_loop1 (ns : List Int) (turn many : Int) (L : List Int) (hL : 0 < L.length) (hL2 : L.length ≤ 64) (ht : 0 ≤ turn) (ht2 : turn ≤ 1000) (st : List Ob) : ∀ (n k0 : Nat) (acc : List Int) (x5 x6 x7 x8 x9 x10 : Option Sl), k0 + n ≤ 1000 → acc.length + n ≤ 2000 →
    ∃ (P : List Int) (y5 y7 y8 : Option Sl), P.length = n ∧ (∀ x ∈ P, 0 ≤ x ∧ x < vM) ∧
      sForI (.nm 5) lp__law_draws_1 ((List.range' k0 n).map fun (k : Nat) => vI k) ⟨[some (.v (scrV ns)), si turn, si many, so (L.map vI), so (acc.map vI), x5, x6, x7, x8, x9, x10], st⟩ =
        .ok .nx ⟨[some (.v (scrV ns)), si turn, si many, so (L.map vI), so ((acc ++ P).map vI), y5, x6, y7, y8, x9, x10], st⟩
  | 0, k0, acc, x5, x6, x7, x8, x9, x10, _, _ => ⟨[], x5, x7, x8, rfl, by simp, by simp⟩
  | n + 1, k0, acc, x5, x6, x7, x8, x9, x10, h1, h2 => by
    have hm : 0 ≤ (k0 : Int) % (L.length : Int) ∧ (k0 : Int) % (L.length : Int) < (L.length : Int) := ⟨Int.emod_nonneg _ (by omega), Int.emod_lt_of_pos _ (by omega)⟩
    obtain ⟨c, hc⟩ : ∃ c, atI L ((k0 : Int) % (L.length : Int)) = some c := by
      rw [atI_pos hm.1 hm.2]
      exact ⟨_, List.getElem?_eq_getElem (by omega)⟩
    have hl0 : (0 : Int) < (L.length : Int) := by omega
    have hs : acc.length < sizeLine := small' _ (by omega)
    have hb : 0 ≤ (k0 : Int) + turn ∧ (k0 : Int) + turn ≤ 2000 := by omega
    have hsq : 0 ≤ ((k0 : Int) + turn) * ((k0 : Int) + turn) ∧ ((k0 : Int) + turn) * ((k0 : Int) + turn) ≤ 4000000 := ⟨Int.mul_nonneg hb.1 hb.1, by
      have := Int.mul_le_mul hb.2 hb.2 hb.1 (by omega)
      simpa using this⟩
    have m1 : MulB ((k0 : Int) + turn) ((k0 : Int) + turn) = true := mulB (by omega) (by omega) (by omega) (by omega)
    have m2 : MulB (((k0 : Int) + turn) * ((k0 : Int) + turn)) 7919 = true := mulB (by omega) (by omega) (by omega) (by omega)
    have m3 : MulB (c % 2147483647 + (((k0 : Int) + turn) * ((k0 : Int) + turn) * 7919 + 104729)) 48271 = true := mulB (by omega) (by omega) (by omega) (by omega)
    have m4 : ∀ z : Int, MulB (z % 2147483647) (z % 2147483647) = true := fun z => mulB (by omega) (by omega) (by omega) (by omega)
    have m5 : MulB 69621 k0 = true := mulB (by omega) (by omega) (by omega) (by omega)
    have m6 : ∀ z : Int, MulB (z % 2147483629) (z % 2147483629) = true := fun z => mulB (by omega) (by omega) (by omega) (by omega)
    have key : ∃ (v : Int) (y7 y8 : Option Sl), 0 ≤ v ∧ v < vM ∧ lp__law_draws_1 ⟨[some (.v (scrV ns)), si turn, si many, so (L.map vI), so (acc.map vI), si k0, x6, x7, x8, x9, x10], st⟩ =
        .ok .nx ⟨[some (.v (scrV ns)), si turn, si many, so (L.map vI), so ((acc ++ [v]).map vI), si k0, x6, y7, y8, x9, x10], st⟩ := by
      have el : ∀ x : Int, 0 ≤ x % 2147483587 ∧ x % 2147483587 < 2147483587 := fun x => by omega
      exact ⟨_, _, _, (el _).1, (el _).2, by simp [lp__law_draws_1, hL, atI_map, hc, m1, m2, m3, m4, m5, m6, hs]; exact ⟨rfl, rfl, rfl⟩⟩
    obtain ⟨v, y7, y8, v0, v1, e⟩ := key
    obtain ⟨P, z5, z7, z8, p1, p2, p3⟩ := dr_loop1 ns turn many L hL hL2 ht ht2 st n (k0 + 1) (acc ++ [v]) (si k0) x6 y7 y8 x9 x10 (by omega) (by simp; omega)
    refine ⟨v :: P, z5, z7, z8, by simp [p1], by simpa [v0, v1] using p2, ?_⟩
    simp only [List.range'_succ, List.map_cons, e_forc, e_asgn, List.set_cons_zero, List.set_cons_succ]
    rw [e]
    simpa using p3

theorem ixN_pos {n : Nat} {i : Int} (h0 : 0 ≤ i) (h1 : i < n) : ixN n i = some i.toNat := by
  unfold ixN
  rw [if_pos h0, if_pos h1]
theorem dr_loop0 (ns : List Int) (tn : Nat) (many : Int) (a3 : Option Sl) (m : Nat) (hm0 : 0 < m) (hm2 : m ≤ 64) (st : List Ob) : ∀ (n k0 : Nat) (acc F : List Int) (x5 x7 x8 x9 x10 : Option Sl), F.length = m → acc.length + n ≤ 2000 →
    ∃ (P F' : List Int) (y5 y9 : Option Sl), P.length = (k0 + n - tn) - (k0 - tn) ∧ (∀ x ∈ P, 0 ≤ x ∧ x < vM) ∧
      sForI (.nm 5) lp__law_draws_0 ((List.range' k0 n).map fun (k : Nat) => vI k) ⟨[some (.v (scrV ns)), si tn, si many, a3, so (acc.map vI), x5, so (F.map vI), x7, x8, x9, x10], st⟩ =
        .ok .nx ⟨[some (.v (scrV ns)), si tn, si many, a3, so ((acc ++ P).map vI), y5, so (F'.map vI), x7, x8, y9, x10], st⟩
  | 0, k0, acc, F, x5, x7, x8, x9, x10, _, _ => ⟨[], F, x5, x9, by simp, by simp, by simp⟩
  | n + 1, k0, acc, F, x5, x7, x8, x9, x10, hF, h2 => by
    have hF0 : 0 < F.length := by omega
    have hm : 0 ≤ (k0 : Int) % (F.length : Int) ∧ (k0 : Int) % (F.length : Int) < (F.length : Int) := ⟨Int.emod_nonneg _ (by omega), Int.emod_lt_of_pos _ (by omega)⟩
    obtain ⟨c, hc⟩ : ∃ c, atI F ((k0 : Int) % (F.length : Int)) = some c := by
      rw [atI_pos hm.1 hm.2]
      exact ⟨_, List.getElem?_eq_getElem (by omega)⟩
    have hi : ixN F.length ((k0 : Int) % (F.length : Int)) = some ((k0 : Int) % (F.length : Int)).toNat := ixN_pos hm.1 hm.2
    have hs : acc.length < sizeLine := small' _ (by omega)
    have hd : DivB 2147483587 = true := divB (by omega) (by omega)
    have el : 0 ≤ c % 2147483587 ∧ c % 2147483587 < 2147483587 := by omega
    have key : ∃ (acc' : List Int) (F2 : List Int), F2.length = m ∧ acc' = acc ++ (if tn ≤ k0 then [c % 2147483587] else []) ∧ lp__law_draws_0 ⟨[some (.v (scrV ns)), si tn, si many, a3, so (acc.map vI), si k0, so (F.map vI), x7, x8, x9, x10], st⟩ =
        .ok .nx ⟨[some (.v (scrV ns)), si tn, si many, a3, so (acc'.map vI), si k0, so (F2.map vI), x7, x8, si ((k0 : Int) % (F.length : Int)), x10], st⟩ := by
      refine ⟨_, F.set ((k0 : Int) % (F.length : Int)).toNat (c / 2147483587), by simp [hF], rfl, ?_⟩
      by_cases ht : tn ≤ k0
      · have ht' : (tn : Int) ≤ k0 := by omega
        simp [lp__law_draws_0, hF0, atI_map, hc, ht, ht', hs, hd, e_set, hi, List.map_set]
      · have ht' : ¬ (tn : Int) ≤ k0 := by omega
        simp [lp__law_draws_0, hF0, atI_map, hc, ht, ht', hd, e_set, hi, List.map_set]
    obtain ⟨acc', F2, f1, f2, e⟩ := key
    have hl : acc'.length ≤ acc.length + 1 := by rw [f2]; split <;> simp
    obtain ⟨P, F3, z5, z9, p1, p2, p3⟩ := dr_loop0 ns tn many a3 m hm0 hm2 st n (k0 + 1) acc' F2 (si k0) x7 x8 (si ((k0 : Int) % (F.length : Int))) x10 f1 (by omega)
    refine ⟨(if tn ≤ k0 then [c % 2147483587] else []) ++ P, F3, z5, z9, ?_, ?_, ?_⟩
    · rw [List.length_append, p1]
      split <;> simp <;> omega
    · intro x hx
      rcases List.mem_append.mp hx with hx | hx
      · split at hx
        · simp at hx; subst hx; exact el
        · simp at hx
      · exact p2 x hx
    · simp only [List.range'_succ, List.map_cons, e_forc, e_asgn, List.set_cons_zero, List.set_cons_succ]
      rw [e, forE_nx, p3, f2, List.append_assoc]

theorem draws (ns : List Int) (tn many : Nat) (st : List Ob) (ht : tn ≤ 900) (hmany : many + tn ≤ 1000) :
    ∃ l : List Int, l.length = many ∧ (∀ x ∈ l, 0 ≤ x ∧ x < vM) ∧ g__law_draws [scrV ns, vI tn, vI many] st = .ok (.new (.lst (l.map vI))) ⟨[], st⟩ := by
  generalize hL : ns.take 63 ++ [(tn : Int)] = L
  have hLl : 0 < L.length ∧ L.length ≤ 64 := by rw [← hL]; simp; omega
  obtain ⟨c0, hc0⟩ : ∃ c, atI L 0 = some c := by
    rw [atI_pos (by omega) (by omega)]
    exact ⟨_, List.getElem?_eq_getElem (by simpa using hLl.1)⟩
  have hsz : (ns.take 63).length + 1 ≤ sizeLine := small _ (by simp; omega)
  have h1s : (1 : Nat) ≤ sizeLine := small _ (by omega)
  have e0 : t__law_draws_0 ⟨[some (.v (scrV ns)), si tn, si many, none, none, none, none, none, none, none, none], st⟩ = .ok .nx ⟨[some (.v (scrV ns)), si tn, si many, so (L.map vI), none, none, none, none, none, none, none], st⟩ := by
    have hcut : ∀ F : Int → Val, cutL (ns.map F) none (some 63) = (ns.take 63).map F := fun F => by rw [cutL_map]; congr 1; exact cutL_take ns 63
    rw [← hL]
    generalize ns.take 63 = T at hcut hsz
    simp [t__law_draws_0, scrV, hcut, h1s, hsz, Function.comp_def]
  have e1 : t__law_draws_1 ⟨[some (.v (scrV ns)), si tn, si many, so (L.map vI), none, none, none, none, none, none, none], st⟩ = .ok .nx ⟨[some (.v (scrV ns)), si tn, si many, so (L.map vI), so [], none, none, none, none, none, none], st⟩ := by
    simp [t__law_draws_1]
  have hd5 : DivB 50000 = true := divB (by omega) (by omega)
  have hd6 : DivB 100000 = true := divB (by omega) (by omega)
  by_cases hb : c0 / 50000 % 2 = 1
  · obtain ⟨P, F', y5, y9, p1, p2, p3⟩ := dr_loop0 ns tn many (sd (.lst (L.map .int))) L.length hLl.1 hLl.2 st (tn + many) 0 [] (L.map (· / 100000)) none none none none none (by simp) (by simp; omega)
    refine ⟨P, by omega, p2, ?_⟩
    have hk := lc_map (vs := [10]) (t := .nm 10) (ft := fTrue) (fe := ce__law_draws_0) (s := ⟨[some (.v (scrV ns)), si tn, si many, sd (.lst (L.map .int)), so [], none, none, none, none, none, none], st⟩) (fun x : Int => vI x) (fun x => vI (x / 100000)) L []
      (fun x hx => ⟨_, _, _, _, _, rfl, rfl, by simp [ce__law_draws_0, hd6]; exact ⟨rfl, rfl⟩, rfl, rfl⟩) (small _ (by simp; omega))
    have hr := rngOf_nat (n := tn + many) (by omega) (⟨[some (.v (scrV ns)), si tn, si many, sd (.lst (L.map .int)), so [], none, so ((L.map (· / 100000)).map vI), none, none, none, none], st⟩)
    rw [← List.range_eq_range'] at p3
    have e2 : t__law_draws_2 ⟨[some (.v (scrV ns)), si tn, si many, so (L.map vI), so [], none, none, none, none, none, none], st⟩ = .ok (.ret (.own 4)) ⟨[some (.v (scrV ns)), si tn, si many, sd (.lst (L.map .int)), so (P.map vI), y5, so (F'.map vI), none, none, y9, none], st⟩ := by
      have hA : sAsg 6 (fLc [10] (.nm 10) (sD (fVar 3) itemsOf) fTrue ce__law_draws_0) ⟨[some (.v (scrV ns)), si tn, si many, so (L.map vI), so [], none, none, none, none, none, none], st⟩ = .ok .nx ⟨[some (.v (scrV ns)), si tn, si many, sd (.lst (L.map .int)), so [], none, so ((L.map (· / 100000)).map vI), none, none, none, none], st⟩ := by
        simp
        rw [show lcI [10] (.nm 10) fTrue ce__law_draws_0 (List.map (Val.d ∘ D.int) L) [] _ = _ from hk]
        simp [Function.comp_def]
      have hB : sFor (.nm 5) (SrcK (evA [(ev2 (fVar 1) (fVar 2) (binop .add))]) kRng1) lp__law_draws_0 ⟨[some (.v (scrV ns)), si tn, si many, sd (.lst (L.map .int)), so [], none, so ((L.map (· / 100000)).map vI), none, none, none, none], st⟩ = .ok .nx ⟨[some (.v (scrV ns)), si tn, si many, sd (.lst (L.map .int)), so (P.map vI), y5, so (F'.map vI), none, none, y9, none], st⟩ := by
        have hsrc : SrcK (evA [(ev2 (fVar 1) (fVar 2) (binop .add))]) kRng1 ⟨[some (.v (scrV ns)), si tn, si many, sd (.lst (L.map .int)), so [], none, so ((L.map (· / 100000)).map vI), none, none, none, none], st⟩ = .ok ((List.range (tn + many)).map fun (k : Nat) => vI k) ⟨[some (.v (scrV ns)), si tn, si many, sd (.lst (L.map .int)), so [], none, so ((L.map (· / 100000)).map vI), none, none, none, none], st⟩ := by
          rw [← hr]
          simp
        rw [e_for, hsrc, Res.bind_ok]
        exact p3
      have hC : sRet (fVar 4) ⟨[some (.v (scrV ns)), si tn, si many, sd (.lst (L.map .int)), so (P.map vI), y5, so (F'.map vI), none, none, y9, none], st⟩ = .ok (.ret (.own 4)) ⟨[some (.v (scrV ns)), si tn, si many, sd (.lst (L.map .int)), so (P.map vI), y5, so (F'.map vI), none, none, y9, none], st⟩ := by simp
      have hS := (seq_nx hA).trans ((seq_nx hB).trans (seq_end (r := []) hC))
      have hT : evB (ev2 (ev2 (ev2 (ev2 (fVar 3) (fD (.int 0)) ixv) (fD (.int 50000)) (binop .fdiv)) (fD (.int 2)) (binop .mod)) (fD (.int 1)) (fCmp .eq)) ⟨[some (.v (scrV ns)), si tn, si many, so (L.map vI), so [], none, none, none, none, none, none], st⟩ = .ok true ⟨[some (.v (scrV ns)), si tn, si many, so (L.map vI), so [], none, none, none, none, none, none], st⟩ := by
        simp [atI_map, hc0, hd5, hb]
      rw [t__law_draws_2, e_if, hT, Res.bind_ok, if_pos rfl]
      exact hS
    exact fn_at (n := 11) (b := b__law_draws) (args := [scrV ns, vI tn, vI many]) (st := st) rfl ((seq_nx e0).trans ((seq_nx e1).trans (seq_end e2))) rfl
  · obtain ⟨P, y5, y7, y8, p1, p2, p3⟩ := dr_loop1 ns tn many L hLl.1 hLl.2 (by omega) (by omega) st many 0 [] none none none none none none (by omega) (by simp; omega)
    refine ⟨P, p1, p2, ?_⟩
    rw [← List.range_eq_range'] at p3
    have e2 : t__law_draws_2 ⟨[some (.v (scrV ns)), si tn, si many, so (L.map vI), so [], none, none, none, none, none, none], st⟩ = .ok .nx ⟨[some (.v (scrV ns)), si tn, si many, so (L.map vI), so [], none, none, none, none, none, none], st⟩ := by
      have hT : evB (ev2 (ev2 (ev2 (ev2 (fVar 3) (fD (.int 0)) ixv) (fD (.int 50000)) (binop .fdiv)) (fD (.int 2)) (binop .mod)) (fD (.int 1)) (fCmp .eq)) ⟨[some (.v (scrV ns)), si tn, si many, so (L.map vI), so [], none, none, none, none, none, none], st⟩ = .ok false ⟨[some (.v (scrV ns)), si tn, si many, so (L.map vI), so [], none, none, none, none, none, none], st⟩ := by
        simp [atI_map, hc0, hd5, hb]
      rw [t__law_draws_2, e_if, hT, Res.bind_ok, if_neg (by simp), e_seq0]
    have e3 : t__law_draws_3 ⟨[some (.v (scrV ns)), si tn, si many, so (L.map vI), so [], none, none, none, none, none, none], st⟩ = .ok .nx ⟨[some (.v (scrV ns)), si tn, si many, so (L.map vI), so (P.map vI), y5, none, y7, y8, none, none], st⟩ := by
      have hr := rngOf_nat (n := many) (by omega) (⟨[some (.v (scrV ns)), si tn, si many, so (L.map vI), so [], none, none, none, none, none, none], st⟩)
      have hsrc : SrcK (evA [(fVar 2)]) kRng1 ⟨[some (.v (scrV ns)), si tn, si many, so (L.map vI), so [], none, none, none, none, none, none], st⟩ = .ok ((List.range many).map fun (k : Nat) => vI k) ⟨[some (.v (scrV ns)), si tn, si many, so (L.map vI), so [], none, none, none, none, none, none], st⟩ := by
        rw [← hr]
        simp
      rw [t__law_draws_3, e_for, hsrc, Res.bind_ok]
      exact p3
    have e4 : t__law_draws_4 ⟨[some (.v (scrV ns)), si tn, si many, so (L.map vI), so (P.map vI), y5, none, y7, y8, none, none], st⟩ = .ok (.ret (.own 4)) ⟨[some (.v (scrV ns)), si tn, si many, so (L.map vI), so (P.map vI), y5, none, y7, y8, none, none], st⟩ := by
      simp [t__law_draws_4]
    exact fn_at (n := 11) (b := b__law_draws) (args := [scrV ns, vI tn, vI many]) (st := st) rfl ((seq_nx e0).trans ((seq_nx e1).trans ((seq_nx e2).trans ((seq_nx e3).trans (seq_end (r := []) e4))))) rfl

@[simp] theorem deq_nil (l : List D) : deq (.lst l) (.lst []) = l.isEmpty := by
  show PyData.eqv (.list (pds l)) (.list (pds [])) = _
  cases l <;> simp [pds, PyData.eqv, PyData.eqvAll]
theorem ints_pl (l : List Int) : plD (.lst (l.map .int)) = true ∧ dle 1 (.lst (l.map .int)) = true := ⟨plDs_map _ _ fun _ _ => rfl, dles_map _ _ _ fun _ _ => rfl⟩
theorem cmp_nil {d : D} (n : Nat) (hn : n ≤ 60) (p : plD d = true) (h : dle n d = true) : comparable d (.lst []) = true := by
  have := dle_pd n d p h
  have e : (pd (.lst [])).plain = true := rfl
  unfold comparable
  simp [pl_pd d p, e]
  omega
theorem pop (l : List Int) (hl : ∀ x ∈ l, 0 ≤ x) (n : Nat) (st : List Ob) (hn : st[n]? = some (.lst (l.map vI))) :
    ∃ (x : Int) (l' : List Int), 0 ≤ x ∧ (∀ y ∈ l', 0 ≤ y) ∧ g__law_pop [.r n] st = .ok (.val (vI x)) ⟨[], st.set n (.lst (l'.map vI))⟩ := by
  have hc := cmp_nil 1 (by omega) (ints_pl l).1 (ints_pl l).2
  have e0 : ∀ b : Bool, b = l.isEmpty → evB (ev2 (fVar 0) (fLst []) (fCmp .eq)) ⟨[some (.v (.r n))], st⟩ = .ok b ⟨[some (.v (.r n))], st⟩ := fun b hb => by
    subst hb
    simp [e_eqD, hn, hc]
  rcases List.eq_nil_or_concat l with rfl | ⟨l', x, rfl⟩
  · refine ⟨0, [], by omega, by simp, ?_⟩
    have hst : st.set n (.lst (List.map vI [])) = st := by
      have hlt := (List.getElem?_eq_some_iff.mp hn).1
      have hv := (List.getElem?_eq_some_iff.mp hn).2
      exact (by rw [← hv]; exact List.set_getElem_self hlt)
    rw [hst]
    have t0 : t__law_pop_0 ⟨[some (.v (.r n))], st⟩ = .ok (.ret (.val (.d (.int 0)))) ⟨[some (.v (.r n))], st⟩ := by
      rw [t__law_pop_0, e_if, e0 true rfl]
      simp
    exact fn_at (n := 1) (b := b__law_pop) (args := [.r n]) (st := st) rfl (seq_end t0) rfl
  · refine ⟨x, l', hl x (by simp), fun y hy => hl y (by simp [hy]), ?_⟩
    have t0 : t__law_pop_0 ⟨[some (.v (.r n))], st⟩ = .ok .nx ⟨[some (.v (.r n))], st⟩ := by
      rw [t__law_pop_0, e_if, e0 false (by simp)]
      simp
    have t1 : t__law_pop_1 ⟨[some (.v (.r n))], st⟩ = .ok (.ret (.val (vI x))) ⟨[some (.v (.r n))], st.set n (.lst (l'.map vI))⟩ := by
      simp [t__law_pop_1, hn]
    exact fn_at (n := 1) (b := b__law_pop) (args := [.r n]) (st := st) rfl ((seq_nx t0).trans (seq_end (r := []) t1)) rfl
def signs : List Nat := sS " !\"#$&'()*+,-./0123456789:;<=>?@ABCDEFGHIJKLMNOPQRSTUVWXYZ[\\]^_`abcdefghijklmnopqrstuvwxyz{|}~"
theorem signs_fn (st : List Ob) : g__law_signs [] st = .ok (.val (.d (.str signs))) ⟨[], st⟩ := by
  have t0 : t__law_signs_0 ⟨[], st⟩ = .ok (.ret (.val (.d (.str signs)))) ⟨[], st⟩ := by simp [t__law_signs_0, signs]
  exact fn_at (n := 0) (b := b__law_signs) (args := []) (st := st) rfl (seq_end (r := []) t0) rfl
theorem signs_len : signs.length = 94 + 1 ∨ signs.length = 94 := by decide +kernel
theorem sub1 : (sS "abA19 ").length = 6 ∧ ∀ c ∈ sS "abA19 ", c ∈ signs := by decide +kernel
theorem sub2 : (sS "abzAZ09 ' ").length = 10 ∧ ∀ c ∈ sS "abzAZ09 ' ", c ∈ signs := by decide +kernel

theorem set_at {st : List Ob} {n : Nat} {o o' : Ob} (h : st[n]? = some o) : (st.set n o')[n]? = some o' := by
  have := (List.getElem?_eq_some_iff.mp h).1
  simp [this]
theorem text_turn (n : Nat) (a1 a2 x6 x5 : Option Sl) (k : Int) (t : List Nat) (ht : t.length ≤ 10000) (l : List Int) (hl : ∀ x ∈ l, 0 ≤ x) (st : List Ob) (hn : st[n]? = some (.lst (l.map vI))) :
    ∃ (c : Nat) (l' : List Int) (y5 y6 : Option Sl), c ∈ signs ∧ (∀ x ∈ l', 0 ≤ x) ∧ lp__law_text_0 ⟨[some (.v (.r n)), a1, a2, sd (.str t), si k, x5, x6], st⟩ =
      .ok .nx ⟨[some (.v (.r n)), a1, a2, sd (.str (t ++ [c])), si k, y5, y6], st.set n (.lst (l'.map vI))⟩ := by
  obtain ⟨x, l', x0, l0, e⟩ := pop l hl n st hn
  have h3 : (3 : Nat) ≤ sizeLine := small _ (by omega)
  have hl1 : signs.length ≤ 95 ∧ 0 < signs.length := by rcases signs_len with h | h <;> omega
  have m3 : x % 3 = 0 ∨ x % 3 = 1 ∨ x % 3 = 2 := by omega
  have hs : ∃ s : List Nat, (0 < s.length ∧ s.length ≤ 1000) ∧ (∀ c ∈ s, c ∈ signs) ∧ atI [D.str signs, .str (sS "abA19 "), .str (sS "abzAZ09 ' ")] (x % 3) = some (.str s) := by
    rcases m3 with h | h | h
    · exact ⟨signs, ⟨hl1.2, by omega⟩, fun c hc => hc, by rw [h]; simp⟩
    · exact ⟨_, ⟨by rw [sub1.1]; omega, by rw [sub1.1]; omega⟩, sub1.2, by rw [h]; simp⟩
    · exact ⟨_, ⟨by rw [sub2.1]; omega, by rw [sub2.1]; omega⟩, sub2.2, by rw [h]; simp⟩
  obtain ⟨s, hs0, hs1, hs2⟩ := hs
  have hm : 0 ≤ x / 3 % (s.length : Int) ∧ x / 3 % (s.length : Int) < (s.length : Int) := ⟨Int.emod_nonneg _ (by omega), Int.emod_lt_of_pos _ (by omega)⟩
  have hlt : (x / 3 % (s.length : Int)).toNat < s.length := by omega
  have hat : atI s (x / 3 % (s.length : Int)) = some s[(x / 3 % (s.length : Int)).toNat] := by rw [atI_pos hm.1 hm.2]; exact List.getElem?_eq_getElem hlt
  have hd : DivB 3 = true := divB (by omega) (by omega)
  have hz : s.length ≤ sizeLine := small _ (by omega)
  have hz2 : t.length + 1 ≤ sizeLine := small _ (by omega)
  refine ⟨s[(x / 3 % (s.length : Int)).toNat], l', si x, sd (.str s), hs1 _ (List.getElem_mem hlt), l0, ?_⟩
  have t0 : sAsg 5 (fCall 1 (evA [(fVar 0)]) g__law_pop) ⟨[some (.v (.r n)), a1, a2, sd (.str t), si k, x5, x6], st⟩ = .ok .nx ⟨[some (.v (.r n)), a1, a2, sd (.str t), si k, si x, x6], st.set n (.lst (l'.map vI))⟩ := by
    simp [e]
  have t1 : sAsg 6 (ev2 (fLst [(fCall 0 (evA []) g__law_signs), (fD (.str (sS "abA19 "))), (fD (.str (sS "abzAZ09 ' ")))]) (ev2 (fVar 5) (fD (.int 3)) (binop .mod)) ixv) ⟨[some (.v (.r n)), a1, a2, sd (.str t), si k, si x, x6], st.set n (.lst (l'.map vI))⟩ = .ok .nx ⟨[some (.v (.r n)), a1, a2, sd (.str t), si k, si x, sd (.str s)], st.set n (.lst (l'.map vI))⟩ := by
    simp [signs_fn, h3, hs2]
  have t2 : sAsg 3 (ev2 (fVar 3) (ev2 (fVar 6) (ev2 (ev2 (fVar 5) (fD (.int 3)) (binop .fdiv)) (fBlt (evA [(fVar 6)]) bLen) (binop .mod)) ixv) (binop .add)) ⟨[some (.v (.r n)), a1, a2, sd (.str t), si k, si x, sd (.str s)], st.set n (.lst (l'.map vI))⟩ = .ok .nx ⟨[some (.v (.r n)), a1, a2, sd (.str (t ++ [s[(x / 3 % (s.length : Int)).toNat]])), si k, si x, sd (.str s)], st.set n (.lst (l'.map vI))⟩ := by
    simp [hd, hz, hs0.1, hat, hz2]
  exact (seq_nx t0).trans ((seq_nx t1).trans ((seq_nx t2).trans (e_seq0 _)))
theorem text_loop (n : Nat) (a1 a2 : Option Sl) : ∀ (ks : List Nat) (x4 x5 x6 : Option Sl) (t : List Nat) (l : List Int) (sto : List Ob), t.length + ks.length ≤ 10000 → (∀ c ∈ t, c ∈ signs) → (∀ x ∈ l, 0 ≤ x) → sto[n]? = some (.lst (l.map vI)) →
    ∃ (u : List Nat) (l' : List Int) (y4 y5 y6 : Option Sl), u.length = t.length + ks.length ∧ (∀ c ∈ u, c ∈ signs) ∧ (∀ x ∈ l', 0 ≤ x) ∧
      sForI (.nm 4) lp__law_text_0 (ks.map fun (k : Nat) => vI k) ⟨[some (.v (.r n)), a1, a2, sd (.str t), x4, x5, x6], sto⟩ = .ok .nx ⟨[some (.v (.r n)), a1, a2, sd (.str u), y4, y5, y6], sto.set n (.lst (l'.map vI))⟩
  | [], x4, x5, x6, t, l, sto, h1, h2, h3, hn => by
    have hst : sto.set n (.lst (List.map vI l)) = sto := by
      have hlt := (List.getElem?_eq_some_iff.mp hn).1
      have hv := (List.getElem?_eq_some_iff.mp hn).2
      rw [← hv]; exact List.set_getElem_self hlt
    exact ⟨t, l, x4, x5, x6, rfl, h2, h3, by rw [hst]; rfl⟩
  | k :: ks, x4, x5, x6, t, l, sto, h1, h2, h3, hn => by
    simp only [List.length_cons] at h1
    obtain ⟨c, l1, y5, y6, c1, c2, e⟩ := text_turn n a1 a2 x6 x5 k t (by omega) l h3 sto hn
    obtain ⟨u, l', z4, z5, z6, u1, u2, u3, u4⟩ := text_loop n a1 a2 ks (si k) y5 y6 (t ++ [c]) l1 (sto.set n (.lst (l1.map vI))) (by simp; omega) (fun d hd => by
      rcases List.mem_append.mp hd with hd | hd
      · exact h2 d hd
      · simp at hd; subst hd; exact c1) c2 (set_at hn)
    refine ⟨u, l', z4, z5, z6, by rw [u1]; simp; omega, u2, u3, ?_⟩
    simp only [List.map_cons, e_forc, e_asgn, List.set_cons_zero, List.set_cons_succ]
    rw [e, forE_nx, u4, List.set_set]
theorem text (most : Nat) (hm : most ≤ 1000) (n : Nat) (l : List Int) (hl : ∀ x ∈ l, 0 ≤ x) (st : List Ob) (hn : st[n]? = some (.lst (l.map vI))) :
    ∃ (t : List Nat) (l' : List Int), t.length ≤ most ∧ (∀ c ∈ t, c ∈ signs) ∧ (∀ x ∈ l', 0 ≤ x) ∧ g__law_text [.r n, vI most] st = .ok (.val (.d (.str t))) ⟨[], st.set n (.lst (l'.map vI))⟩ := by
  obtain ⟨x, l1, x0, l0, e⟩ := pop l hl n st hn
  have hx : 0 ≤ x % ((most : Int) + 1) ∧ x % ((most : Int) + 1) < (most : Int) + 1 := ⟨Int.emod_nonneg _ (by omega), Int.emod_lt_of_pos _ (by omega)⟩
  obtain ⟨m, hmm⟩ : ∃ m : Nat, x % ((most : Int) + 1) = m := ⟨_, (Int.toNat_of_nonneg hx.1).symm⟩
  obtain ⟨u, l', y4, y5, y6, u1, u2, u3, u4⟩ := text_loop n (si most) (si x) (List.range m) none none none [] l1 (st.set n (.lst (l1.map vI))) (by simp; omega) (by simp) l0 (set_at hn)
  refine ⟨u, l', by simp at u1; omega, u2, u3, ?_⟩
  have t0 : t__law_text_0 ⟨[some (.v (.r n)), si most, none, none, none, none, none], st⟩ = .ok .nx ⟨[some (.v (.r n)), si most, si x, none, none, none, none], st.set n (.lst (l1.map vI))⟩ := by simp [t__law_text_0, e]
  have hemp : sS "" = [] := rfl
  have t1 : t__law_text_1 ⟨[some (.v (.r n)), si most, si x, none, none, none, none], st.set n (.lst (l1.map vI))⟩ = .ok .nx ⟨[some (.v (.r n)), si most, si x, sd (.str []), none, none, none], st.set n (.lst (l1.map vI))⟩ := by simp [t__law_text_1, hemp]
  have t2 : t__law_text_2 ⟨[some (.v (.r n)), si most, si x, sd (.str []), none, none, none], st.set n (.lst (l1.map vI))⟩ = .ok .nx ⟨[some (.v (.r n)), si most, si x, sd (.str u), y4, y5, y6], st.set n (.lst (l'.map vI))⟩ := by
    have hr := rngOf_nat (n := m) (by omega) (⟨[some (.v (.r n)), si most, si x, sd (.str []), none, none, none], st.set n (.lst (l1.map vI))⟩)
    have hp : (0 : Int) < (most : Int) + 1 := by omega
    have hsrc : SrcK (evA [(ev2 (fVar 2) (ev2 (fVar 1) (fD (.int 1)) (binop .add)) (binop .mod))]) kRng1 ⟨[some (.v (.r n)), si most, si x, sd (.str []), none, none, none], st.set n (.lst (l1.map vI))⟩ = .ok ((List.range m).map fun (k : Nat) => vI k) ⟨[some (.v (.r n)), si most, si x, sd (.str []), none, none, none], st.set n (.lst (l1.map vI))⟩ := by
      rw [← hr]
      simp [hp, hmm]
    rw [t__law_text_2, e_for, hsrc, Res.bind_ok, u4, List.set_set]
  have t3 : t__law_text_3 ⟨[some (.v (.r n)), si most, si x, sd (.str u), y4, y5, y6], st.set n (.lst (l'.map vI))⟩ = .ok (.ret (.val (.d (.str u)))) ⟨[some (.v (.r n)), si most, si x, sd (.str u), y4, y5, y6], st.set n (.lst (l'.map vI))⟩ := by simp [t__law_text_3]
  exact fn_at (n := 7) (b := b__law_text) (args := [.r n, vI most]) (st := st) rfl ((seq_nx t0).trans ((seq_nx t1).trans ((seq_nx t2).trans (seq_end (r := []) t3)))) rfl

theorem look2 {a b x : D} {g : Vw.Fn} {s s1 s2 : State} {ra rb : RV} {fs : State → Res (List RV)} (h : fs s = .ok [ra, rb] s1) (h1 : pvP s1 ra = some a) (h2 : pvP s1 rb = some b) (hg : g [.d a, .d b] [] = .ok (.val (.d x)) s2) (hx : scal x = true) :
    fLook 2 fs g s = .ok (.val (.d x)) s1 := by
  have e : pvPs s1 [ra, rb] = some [a, b] := by simp [pvPs, h1, h2]
  unfold fLook
  rw [h, Res.bind_ok, e]
  have e2 : g ([a, b].map Val.d) [] = .ok (.val (.d x)) s2 := hg
  simp only [e2, hx, List.length_cons, List.length_nil, if_true]
mutual
def okD : D → Bool
  | .int _ => true
  | .str _ => true
  | .tup l => decide (l.length ≤ 100000) && okDs l
  | .lst l => decide (l.length ≤ 100000) && okDs l
  | _ => false
def okDs : List D → Bool
  | [] => true
  | x :: r => okD x && okDs r
end
theorem okDs_get : ∀ {l : List D} {k : Nat} (h : k < l.length), okDs l = true → okD l[k] = true
  | x :: r, 0, h, p => by
    have p : okD x = true ∧ okDs r = true := by simpa [okDs] using p
    exact p.1
  | x :: r, k + 1, h, p => by
    have p : okD x = true ∧ okDs r = true := by simpa [okDs] using p
    exact okDs_get (l := r) (by simpa using h) p.2
theorem dles_get : ∀ {n : Nat} {l : List D} {k : Nat} (h : k < l.length), dles n l = true → dle n l[k] = true
  | n, x :: r, 0, h, p => by
    have p : dle n x = true ∧ dles n r = true := by simpa [dles] using p
    exact p.1
  | n, x :: r, k + 1, h, p => by
    have p : dle n x = true ∧ dles n r = true := by simpa [dles] using p
    exact dles_get (l := r) (by simpa using h) p.2
theorem al_loop (rec : Vw.Fn) (d : D) (l : List D) (hd : d = .lst l ∨ d = .tup l) (hr : ∀ k (h : k < l.length), ∃ s, rec [.d l[k], .d l[k]] [] = .ok (.val (.d (.bl true))) s) : ∀ (ks : List Nat) (x2 : Option Sl), (∀ k ∈ ks, k < l.length) →
    ∃ y2, sForI (.nm 2) (lp__law_alike_0 rec) (ks.map fun (k : Nat) => vI k) ⟨[sd d, sd d, x2], []⟩ = .ok .nx ⟨[sd d, sd d, y2], []⟩
  | [], x2, _ => ⟨x2, rfl⟩
  | k :: ks, x2, h => by
    have hk := h k (by simp)
    obtain ⟨s, hs⟩ := hr k hk
    have hat : atI l (k : Int) = some l[k] := by rw [atI_pos (by omega) (by omega)]; simp [hk]
    have hev : evA [(ev2 (fVar 0) (fVar 2) ixv), (ev2 (fVar 1) (fVar 2) ixv)] ⟨[sd d, sd d, si k], []⟩ = .ok [.val (.d l[k]), .val (.d l[k])] ⟨[sd d, sd d, si k], []⟩ := by
      rcases hd with rfl | rfl <;> simp [hat]
    have hl := look2 (g := rec) hev (a := l[k]) (b := l[k]) (by rfl) (by rfl) hs rfl
    have hT : fNot (evB (fLook 2 (evA [(ev2 (fVar 0) (fVar 2) ixv), (ev2 (fVar 1) (fVar 2) ixv)]) rec)) ⟨[sd d, sd d, si k], []⟩ = .ok false ⟨[sd d, sd d, si k], []⟩ := by
      rw [e_not, e_evB, e_ev, hl]
      simp
    have key : lp__law_alike_0 rec ⟨[sd d, sd d, si k], []⟩ = .ok .nx ⟨[sd d, sd d, si k], []⟩ := by
      have : sIf (fNot (evB (fLook 2 (evA [(ev2 (fVar 0) (fVar 2) ixv), (ev2 (fVar 1) (fVar 2) ixv)]) rec))) (sSeq [(sRet (fD (.bl false)))]) (sSeq []) ⟨[sd d, sd d, si k], []⟩ = .ok .nx ⟨[sd d, sd d, si k], []⟩ := by
        rw [e_if, hT, Res.bind_ok, if_neg (by simp), e_seq0]
      exact (seq_nx this).trans (e_seq0 _)
    obtain ⟨y2, e⟩ := al_loop rec d l hd hr ks (si k) fun k hk => h k (by simp [hk])
    refine ⟨y2, ?_⟩
    simp only [List.map_cons, e_forc, e_asgn, List.set_cons_zero, List.set_cons_succ]
    rw [key, forE_nx, e]
theorem alike_seq (n : Nat) (d : D) (l : List D) (hd : d = .lst l ∨ d = .tup l) (hz : l.length ≤ 100000) (hr : ∀ k (h : k < l.length), ∃ s, g__law_alike n [.d l[k], .d l[k]] [] = .ok (.val (.d (.bl true))) s) :
    ∃ s, g__law_alike (n + 1) [.d d, .d d] [] = .ok (.val (.d (.bl true))) s := by
  generalize hg : g__law_alike n = rec at hr
  obtain ⟨y2, e⟩ := al_loop rec d l hd hr (List.range l.length) none fun k hk => List.mem_range.mp hk
  have hlen : ∀ x2, evA [(fBlt (evA [(fVar 1)]) bLen)] ⟨[sd d, sd d, x2], []⟩ = .ok [.val (.d (.int l.length))] ⟨[sd d, sd d, x2], []⟩ := fun x2 => by
    rcases hd with rfl | rfl <;> simp
  have t0 : t__law_alike_0 rec ⟨[sd d, sd d, none], []⟩ = .ok .nx ⟨[sd d, sd d, none], []⟩ := by
    rcases hd with rfl | rfl <;> simp [t__law_alike_0, isiB]
  have t1 : t__law_alike_1 rec ⟨[sd d, sd d, none], []⟩ = .ok .nx ⟨[sd d, sd d, none], []⟩ := by
    rcases hd with rfl | rfl <;> simp [t__law_alike_1, isiB]
  have t2 : t__law_alike_2 rec ⟨[sd d, sd d, none], []⟩ = .ok .nx ⟨[sd d, sd d, none], []⟩ := by
    rcases hd with rfl | rfl <;> simp [t__law_alike_2, isiB]
  have t3 : t__law_alike_3 rec ⟨[sd d, sd d, none], []⟩ = .ok .nx ⟨[sd d, sd d, none], []⟩ := by
    rcases hd with rfl | rfl <;> simp [t__law_alike_3]
  have t4 : t__law_alike_4 rec ⟨[sd d, sd d, none], []⟩ = .ok .nx ⟨[sd d, sd d, y2], []⟩ := by
    have hsrc : SrcK (evA [(fBlt (evA [(fVar 1)]) bLen)]) kRng1 ⟨[sd d, sd d, none], []⟩ = .ok ((List.range l.length).map fun (k : Nat) => vI k) ⟨[sd d, sd d, none], []⟩ := by
      rw [e_srcK, hlen, Res.bind_ok, e_rng1, rngOf_nat (by omega)]
    rw [t__law_alike_4, e_for, hsrc, Res.bind_ok, e]
  have t5 : t__law_alike_5 rec ⟨[sd d, sd d, y2], []⟩ = .ok (.ret (.val (.d (.bl true)))) ⟨[sd d, sd d, y2], []⟩ := by simp [t__law_alike_5]
  have hS := (seq_nx t0).trans ((seq_nx t1).trans ((seq_nx t2).trans ((seq_nx t3).trans ((seq_nx t4).trans (seq_end (r := []) t5)))))
  refine ⟨⟨[], []⟩, ?_⟩
  rw [g__law_alike, hg]
  exact fn_at (n := 3) (b := b__law_alike rec) (args := [.d d, .d d]) (st := []) rfl hS rfl
theorem alike_leaf (n : Nat) (d : D) (hd : (∃ i, d = .int i) ∨ ∃ t, d = .str t) : ∃ s, g__law_alike (n + 1) [.d d, .d d] [] = .ok (.val (.d (.bl true))) s := by
  generalize hg : g__law_alike n = rec
  have hp : plD d = true ∧ dle 0 d = true := by rcases hd with ⟨i, rfl⟩ | ⟨t, rfl⟩ <;> exact ⟨rfl, rfl⟩
  have heq := deq_refl 0 (by omega) hp.1 hp.2
  rcases hd with ⟨i, rfl⟩ | ⟨t, rfl⟩
  · have t0 : t__law_alike_0 rec ⟨[sd (.int i), sd (.int i), none], []⟩ = .ok .nx ⟨[sd (.int i), sd (.int i), none], []⟩ := by simp [t__law_alike_0, isiB]
    have t1 : t__law_alike_1 rec ⟨[sd (.int i), sd (.int i), none], []⟩ = .ok (.ret (.val (.d (.bl true)))) ⟨[sd (.int i), sd (.int i), none], []⟩ := by simp [t__law_alike_1, isiB, fNotV]
    refine ⟨⟨[], []⟩, ?_⟩
    rw [g__law_alike, hg]
    exact fn_at (n := 3) (b := b__law_alike rec) (args := [.d (.int i), .d (.int i)]) (st := []) rfl ((seq_nx t0).trans (seq_end t1)) rfl
  · have t0 : t__law_alike_0 rec ⟨[sd (.str t), sd (.str t), none], []⟩ = .ok (.ret (.val (.d (.bl true)))) ⟨[sd (.str t), sd (.str t), none], []⟩ := by simp [t__law_alike_0, isiB, e_eqD, heq]
    refine ⟨⟨[], []⟩, ?_⟩
    rw [g__law_alike, hg]
    exact fn_at (n := 3) (b := b__law_alike rec) (args := [.d (.str t), .d (.str t)]) (st := []) rfl (seq_end t0) rfl
theorem alike : ∀ (n : Nat) (d : D), okD d = true → dle n d = true → ∃ s, g__law_alike (n + 1) [.d d, .d d] [] = .ok (.val (.d (.bl true))) s
  | n, .int i, _, _ => alike_leaf n _ (.inl ⟨i, rfl⟩)
  | n, .str t, _, _ => alike_leaf n _ (.inr ⟨t, rfl⟩)
  | 0, .lst l, _, h => by simp [dle] at h
  | 0, .tup l, _, h => by simp [dle] at h
  | n + 1, .lst l, p, h => by
    have p : l.length ≤ 100000 ∧ okDs l = true := by simpa [okD] using p
    have h : dles n l = true := by simpa [dle] using h
    exact alike_seq (n + 1) _ l (.inl rfl) p.1 fun k hk => alike n l[k] (okDs_get hk p.2) (dles_get hk h)
  | n + 1, .tup l, p, h => by
    have p : l.length ≤ 100000 ∧ okDs l = true := by simpa [okD] using p
    have h : dles n l = true := by simpa [dle] using h
    exact alike_seq (n + 1) _ l (.inr rfl) p.1 fun k hk => alike n l[k] (okDs_get hk p.2) (dles_get hk h)
  | n, .non, p, _ => by simp [okD] at p
  | n, .bl _, p, _ => by simp [okD] at p
  | n, .dic _, p, _ => by simp [okD] at p
  | n, .dit _, p, _ => by simp [okD] at p
  | n, .ins _ _, p, _ => by simp [okD] at p
end Sh
namespace Vw
open PySem L2 PyProof.Rows
def joinV (a : List Nat) (ys : List (List Nat)) : List Nat := (Txt.join (Vw.st a) (ys.map Vw.st)).cps.toList
def bJoin (o : RV) (rs : List RV) (s : State) : Res RV :=
  match rs with
  | [x] => match dv s o, (sq s x).bind strsOf with
    | some (.str a), some ys => if (ys.map (·.length)).sum + ys.length * a.length ≤ 16777216 then okv (.str (joinV a ys)) s else .stuck
    | _, _ => .stuck
  | _ => .stuck
section
variable {C : Cst} {Z : Hp} {loc : List Addr}
/-- a statement that is not reached -/
theorem x_stuck {X : Cx} {st : Stmt} : PS X st (TSt C fun _ => .stuck) := ⟨fun pins s sv H D I ⟨Z, loc, s', r, q⟩ => False.elim q⟩
theorem strsOf_rep : ∀ {l : List Val} {ns : List (List Nat)} {xs : List V}, strsOf l = some ns → RepVs C.cA Z loc l xs → xs = (ns.map Vw.st).map V.str
  | [], ns, xs, e, h => by cases e; exact h
  | .d (.str i) :: r, ns, xs, e, ⟨v, t, e1, q, h⟩ => by
    unfold strsOf at e
    obtain ⟨m, e2, rfl⟩ := Option.map_eq_some_iff.mp e
    rw [e1, strsOf_rep e2 h, show v = _ from q]
    rfl
  | .d .non :: r, ns, xs, e, h => by cases e
  | .d (.bl _) :: r, ns, xs, e, h => by cases e
  | .d (.int _) :: r, ns, xs, e, h => by cases e
  | .d (.tup _) :: r, ns, xs, e, h => by cases e
  | .d (.lst _) :: r, ns, xs, e, h => by cases e
  | .d (.dic _) :: r, ns, xs, e, h => by cases e
  | .d (.dit _) :: r, ns, xs, e, h => by cases e
  | .d (.ins _ _) :: r, ns, xs, e, h => by cases e
  | .r _ :: r, ns, xs, e, h => by cases e
  | .tp _ :: r, ns, xs, e, h => by cases e
theorem bJoin_ok (K : PySem.W.Frag) : MtS C bJoin (fun x xs H Q => ∃ a p, ∃ ys : List Str, x = .str a ∧ xs = [.ref p] ∧ (SqL K H p (ys.map V.str) ∨ SqT K H p (ys.map V.str)) ∧
    (ys.map (·.length)).sum + ys.length * a.length ≤ 16777216 ∧ Q (.str (Txt.join a ys)) H) := by
  intro Z loc s sv H o v rs vs Q r q qs h
  unfold bJoin at h
  split at h
  · obtain ⟨w, t, rfl, st1, q1, q2⟩ := qs
    cases q2
    split at h
    · rename_i a ys e e'
      have qa : v = .str (Vw.st a) := r.dv q e
      obtain ⟨l, e1, e2⟩ := Option.bind_eq_some_iff.mp e'
      obtain ⟨p, xs, rfl, h1, h2⟩ := r.sq (K := K) q1 e1
      rw [strsOf_rep e2 h2] at h1
      split at h
      · rename_i hz
        refine ⟨Vw.st a, p, ys.map Vw.st, qa, rfl, h1, ?_, h.okv r ?_⟩
        · simpa [Vw.st, Str.length, Function.comp_def] using hz
        · show V.str _ = V.str _
          simp [joinV]
      · exact h.elim
    · exact h.elim
  · exact h.elim
end
end Vw
namespace Vw
open PySem L2 PyProof.Rows

def callX (g : Fn) (args : List Val) (s : State) : Res RV :=
  match g args s.st with
  | .ok r s2 => .ok r ⟨s.sg, s2.st⟩
  | .exc x s2 => .exc x ⟨s.sg, s2.st⟩
  | .stuck => .stuck
def fCallX (n : Nat) (fs : State → Res (List RV)) (g : Fn) (s : State) : Res RV := (fs s).bind fun rs s => (capAll rs s).bind fun args s => if args.length = n then callX g args s else .stuck
section
variable {C : Cst} {Z Z' : Hp} {loc loc' : List Addr} {s s' : State} {sv sv' : L2.St} {H H' : Hp}
variable {X : Cx} {e a b c o : Expr} {es : List Expr} {p pos apos : Pos} {f fa fb fc fo fi fv : State → Res RV}
theorem sp_ofX {g : Fn} {n : Nat} {args : List Val} {vs : List V} {Q : VK} (r : SR C Z loc s sv H) (q : RepVs C.cA Z loc args vs) (hn : args.length = n) (h : EPost C Z loc sv (callX g args s) Q) : spV C.cA n g vs H Q (WE C.W sv) := by
  refine ⟨frOf H Z loc, C.H0, Z, loc, args, s.st, r.entry _, q, hn, ?_⟩
  unfold callX at h
  cases e : g args s.st with
  | stuck => rw [e] at h; exact h
  | exc x s1 =>
    rw [e] at h
    exact fun Z' l' H' c d g r' q' => h Z' l' H' c d g (r.back g r') q'
  | ok rv s1 =>
    rw [e] at h
    exact fun Z' l' H' v g r' q' => h Z' l' H' v g (r.back g r') (RVR.back r r' q')
theorem v_callX {k : Nat} {fA : Addr} {fd : FuncData} {ps : List Str} {x : Str} {g : Fn} {fs : State → Res (List RV)} (F : FnOk X.prog X.w X.K X.mg X.base (L2.CX X.prog X.w) k fA fd ps (spV C.cA ps.length g)) (hr : Room k X.A) (hg : Gl X x) (hm : X.mg x = some (.ref fA)) (hk : PySem.W.keepIn X.K (.ref fA) = true)
    (hb : Binds X.K fd ps []) (tk : Takes X C.W) (ha : PA X (e :: es) (TAr C fs)) (hdb : (x == ("__debug__" : Str)) = false) (hs : (e :: es).all notStar = true) :
    PE X (.Call (.Name x p) (e :: es) [] pos) (TEx C (fCallX ps.length fs g)) := by
  have hs' := hs
  simp only [List.all_cons, Bool.and_eq_true] at hs
  refine PE_mono (pe_callS F hr hg hm hk hb (fun σ => passAt tk σ) ha hdb (star_cons hs.1) (star_any hs.2)) fun sv H Q h => (TAr.at h).imp fun vs H1 ⟨Z, loc, s, xs, r, q, h⟩ => ?_
  cases e1 : capAll xs s with
  | stuck => rw [e1] at h; exact h.elim
  | exc x s1 => exact absurd e1 capAll_no
  | ok args s1 =>
    rw [e1] at h
    simp only [Res.bind] at h
    obtain ⟨Z1, g1, r1, q1⟩ := r.capAll q e1
    split at h
    · rename_i hn
      exact sp_ofX r1 q1 hn (EPost.ext h g1)
    · exact h.elim
theorem x_callX {k n : Nat} {fA : Addr} {fd : FuncData} {ps : List Str} {x : Str} {g : Fn} {fs : State → Res (List RV)} {cA : String → Addr} (hC : C.cA = cA) (tk : Takes X C.W) (F : FnOk X.prog X.w X.K X.mg X.base (L2.CX X.prog X.w) k fA fd ps (spV cA n g)) (hr : Room k X.A) (hg : Gl X x) (hm : X.mg x = some (.ref fA)) (hk : PySem.W.keepIn X.K (.ref fA) = true)
    (hb : Binds X.K fd ps []) (hn : ps.length = n) (ha : PA X (e :: es) (TAr C fs)) (hdb : (x == ("__debug__" : Str)) = false) (hs : (e :: es).all notStar = true) :
    PE X (.Call (.Name x p) (e :: es) [] pos) (TEx C (fCallX n fs g)) := by
  subst hn hC
  exact v_callX F hr hg hm hk hb tk ha hdb hs
/-- nothing is let out: for a def whose promise lets nothing out, called in any frame -/
theorem x_fnX {P : Program} {w : World} {K : PySem.W.Frag} {mg : Str → Option Value} {base : Heap} {x qual : Str} {params : Arguments} {body : List Stmt} {scope : Scope} {f : Addr} {fd : FuncData} {N ps : List Str} {cA : String → Addr} {b : State → Res Fl} {k n m : Nat}
    (F : FunD K x qual params body scope [] [] f fd) (S : FnScope N ps scope) (hn : ps.length = n) (hm : N.length = m)
    (hb : ∀ (cdv : Value) (A : Around) (outer : List Env) (s : Shared) (H : Hp) (E : XK) (C : Cst), Room k (A.deeper (envOfC qual scope s.heap.objs.size f cdv)) → C.cA = cA → Takes (cxOf (L2.CX P w) P w K mg base N qual scope f cdv A outer s H E) C.W → PSs (cxOf (L2.CX P w) P w K mg base N qual scope f cdv A outer s H E) body (TSt C b)) :
    FnOk P w K mg base (L2.CX P w) (k + 1) f fd ps (spV cA n (fnV m b)) := by
  subst hn hm
  refine F.ok S spV_len fun cdv A outer s H vs Q E hr h => ?_
  obtain ⟨Fr, H0, Z, loc, args, st, r, q, hl, h⟩ := h
  exact ⟨_, hb cdv A outer s H E (cstE cA Fr H0 E) hr rfl (takes_of rfl rfl rfl rfl), body_post (ps := ps) r q hl h fun _ _ _ z => z⟩
/-- a def that lets nothing out, as one that may -/
theorem spV_E {cA : String → Addr} {n : Nat} {g : Fn} : True := trivial

def sRaise (c : String) (s : State) : Res Fl := .exc ⟨c, none⟩ s
/-- what the written part says of an exception's class -/
structure ExF (K : PySem.W.Frag) (C : Addr) : Prop where
  ei : PySem.W.excIn K C He.veBase "ValueError.__new__" = true
  kC : PySem.W.keepIn K (.ref C) = true
  sB : PySem.W.subIn K (.ref C) (.type "BaseException") = some true
  tC : PySem.W.typeIn K (.ref C) = some (.type "type")
theorem v_raise {x m : Str} {j : Nat} {c : String} {p p2 pos pos' : Pos} (hc : X.calm = true) (tk : Takes X C.W) (F : ExF X.K (C.cA c)) (gC : X.mg x = some (.ref (C.cA c))) (hg : Gl X x) (hdb : (x == ("__debug__" : Str)) = false) :
    PS X (.Raise (some (.Call (.Name x p) [.Constant (.str m) j p2] [] pos)) none pos') (TSt C (sRaise c)) := by
  refine PS_mono (ps_raise hc tk (pmk_own PySem.F.excBase_ValueError F.ei gC F.kC (raises_own F.sB F.tC) hg hdb)) fun D sv H ⟨Z, loc, s, r, h⟩ => ?_
  exact h Z loc sv H _ _ (Ext.refl _ _) r ⟨rfl, rfl⟩
theorem x_raise {x : String} {m : Str} {j : Nat} {cA : String → Addr} {p p2 pos pos' : Pos} (hC : C.cA = cA) (hc : X.calm = true) (tk : Takes X C.W) (F : ExF X.K (cA x)) (gC : X.mg (Str.ofString x) = some (.ref (cA x))) (hg : Gl X (Str.ofString x)) (hdb : ((Str.ofString x) == ("__debug__" : Str)) = false) :
    PS X (.Raise (some (.Call (.Name (Str.ofString x) p) [.Constant (.str m) j p2] [] pos)) none pos') (TSt C (sRaise x)) := by
  subst hC
  exact v_raise hc tk F gC hg hdb
end
end Vw
namespace L2
open PySem PySem.Spec PyProof.Rows
section
variable {X : Cx} {pins : List (Addr × Obj)} {σ : St} {H : Hp} {s : Shared}
/-- an object that stands, new since the entry, is tracked -/
theorem Inv.trackV {a : Addr} {u : HO} (I : Inv X pins σ H s) (na : H a = none) (n0 : X.s_0.heap.get? a = none) (nL : a ≠ X.env.locals) (nC : ∀ x c, X.env.cells.lookup x = some c → c ≠ a)
    (np : ∀ p ∈ X.pn ++ pins, p.1 ≠ a) (ok : ObjOk X.prog X.w (upd H a u) s.heap a u) : Inv X pins σ (upd H a u) s where
  ok := I.ok
  os := I.os
  bare := I.bare
  base := {
    keep := I.base.keep
    slot := I.base.slot
    free := fun b o e n hx => by
      rw [upd_ne (show b ≠ a from fun z => by rw [z, n0] at e; cases e)]
      exact I.base.free b o e n hx
    there := I.base.there
    tups := fun b xs q => by
      have z := I.base.tups b xs q
      rw [upd_ne (ne_of_none z na)]; exact z
    frzs := fun b o v q => by
      have z := I.base.frzs b o v q
      rw [upd_ne (ne_of_none z na)]; exact z
    tbls := fun b ps q => by
      obtain ⟨more, z⟩ := I.base.tbls b ps q
      exact ⟨more, by rw [upd_ne (ne_of_none z na)]; exact z⟩ }
  loc := I.loc
  cell := I.cell
  free := by rw [upd_ne (Ne.symm nL)]; exact I.free
  freeC := fun x c e => by rw [upd_ne (nC x c e)]; exact I.freeC x c e
  pin := fun p hp => by
    obtain ⟨h1, h2, h3⟩ := I.pin p hp
    exact ⟨h1, by rw [upd_ne (np p hp)]; exact h2, h3⟩
  hok := fun b o e => by
    by_cases hb : b = a
    · subst hb
      rw [upd_same] at e
      cases e
      exact ok
    · rw [upd_ne hb] at e
      exact (I.hok b o e).stay (fun c w' hc q => q) (fun c q => by rw [upd_ne (ne_of_none q na)]; exact q) fun c xs q => by rw [upd_ne (ne_of_none q na)]; exact q
  len := I.len
end
end L2
namespace Vw
open PySem L2 PySem.Spec PyProof.Rows
theorem exh_ok {P : Program} {w : World} {H : Hp} {h : Heap} {a : Addr} {cls : Value} {d : Option Addr} {oe : Obj} {vs : Array Value} (e : h.get? a = some oe) (z : Zc cls d oe) (hd : oe.data = .fields vs) : ObjOk P w H h a (ExH cls a d) :=
  ⟨⟨oe, e, z, vs, hd⟩, ⟨oe, e⟩, fun _ _ ⟨o, q, r⟩ k => ⟨o, k o q, r⟩⟩
/-- what 'except x as n: v = n' wishes: slot i is n's, slot j is v's; the exception stays -/
def wKeep (K : PySem.W.Frag) (c : Value) (i j : Nat) (Wout : WX) (D : Ends) : WX := fun cls d σ H =>
  ∃ b, PySem.W.exmOne K cls c = some b ∧ (b = true → ∀ a, H a = none → D.nx (((σ.set i (some (.ref a))).set j (some (.ref a))).set i none) (upd H a (ExH cls a d))) ∧ (b = false → Wout cls d σ H)
section
variable {X : Cx} {x n v : Str} {c : Value} {i j : Nat} {body : List Stmt} {np pos pos' p1 p2 p3 : Pos} {tb : WX → TS} {Wout : WX}
theorem ps_try_keep (hs : X.stack = X.env :: X.outer) (hf : X.env.frame = some X.env.locals) (hex : X.ex = []) (hN : X.N.Nodup) (hi : X.N[i]? = some n) (hj : X.N[j]? = some v) (hij : i ≠ j) (hln : X.env.kindOf n = some .local) (hlv : X.env.kindOf v = some .local) (hc : Names X x c) (tk : Takes X Wout)
    (hb : ∀ (W : WX) (pn : List (Addr × Obj)) (xe : Value → Shared → Prop), Takes (X.tr pn xe) W → PassesOwn (model X.prog X.w) X.A X.env xe → PSs (X.tr pn xe) body (tb W)) 
    (hdn : (n == ("__debug__" : Str)) = false) (hcn : (n == ("__classdict__" : Str)) = false) (hsw : swapsWithSole [.Name v p1] (.Name n p2) p3.line X.env = pure false) (hsw2 : swappedStores [.Name v p1] (.Name n p2) X.env = pure none) :
    PS X (.Try body [.ExceptHandler (some (.Name x np)) (some n) [.Assign [.Name v p1] (.Name n p2) p3] pos'] [] [] pos) (fun D σ H => tb (wKeep X.K c i j Wout D) D σ H) := by
  refine ⟨fun pins s σ H D I h => ?_⟩
  have ok := I.ok
  have hfr : X.A.frames = some (X.env :: X.outer) := by rw [ok.frames, hs]
  have hloc : Loc X.env.scope n := .inl hln
  refine wpAny_Try_except ?_
  refine wpAny_mono ((hb (wKeep X.K c i j Wout D) (X.pn ++ pins) (fun e s₁ => wpAny (model X.prog X.w) X.A (noteFrame e X.env) (fun _ s₂ => wpAny (model X.prog X.w) X.A (setFlight e none) (fun _ s₃ =>
    wpAny (model X.prog X.w) X.A (handleBy e X.env [.ExceptHandler (some (.Name x np)) (some n) [.Assign [.Name v p1] (.Name n p2) p3] pos']) (SP X pins D) X.xe s₃) X.xe s₂) X.xe s₁) (fun u s' xx => ?_) PassesOwn.looking).run [] s σ H D (I.toTry _) h) (fun f s1 hsp => ?_) (fun e s1 he => he)
  · -- the catch
    obtain ⟨a, B, sI, pins', σ', H', cls, d, rfl, J', nb, up, sky, na, os, ag, b, hb1, hyes, hno⟩ := xx
    have J : Inv X pins σ' H' sI := J'.ofTry ok
    have sky' : Sky B (X.env :: X.outer) a (Zc cls d) X.env.locals s'.heap := by rw [← hs]; exact sky
    show wpAny (model X.prog X.w) X.A (noteFrame (.ref a) X.env) _ _ _
    refine Sky.land Zc.steady hfr hf sky' fun h3 fl3 up3 => ?_
    have J3 : Inv X pins σ' H' { s' with heap := h3 } := J.landed nb fl3.1 (up.trans up3) os ag
    obtain ⟨oe3, vs3, he3, hz3, hd3⟩ := fl3.there
    have notFr : ∀ {h : Heap} {o : Obj} {vs : Array Value}, h.FunFrames B (X.env :: X.outer) → h.get? a = some o → o.data = .fields vs → a ∉ frs (X.env :: X.outer) := fun {h o vs} ff e dd hm => by
      obtain ⟨_, o', e', hnf⟩ := ff.mem hm
      rw [e] at e'; cases e'
      exact hnf _ dd
    have nfr := notFr fl3.2.2.1 he3 hd3
    have nL : a ≠ X.env.locals := fun z => nfr (List.mem_filterMap.mpr ⟨X.env, List.mem_cons_self, by rw [hf, z]⟩)
    have nF : a ∉ X.fs := fun hm => by
      obtain ⟨e, he, q⟩ := List.mem_filterMap.mp hm
      exact nfr (List.mem_filterMap.mpr ⟨e, List.mem_cons_of_mem _ he, q⟩)
    have nI : sI.heap.get? a = none := by
      cases e : sI.heap.get? a with
      | none => rfl
      | some o =>
        have z := nb a o e (by rw [hs]; exact nfr)
        rw [fl3.2.1] at z
        cases z
    have n0 : X.s_0.heap.get? a = none := by
      cases e : X.s_0.heap.get? a with
      | none => rfl
      | some o =>
        obtain ⟨o', z⟩ := J.base.there a o e (by rw [hex]; simp)
        rw [nI] at z
        cases z
    have npn : ∀ p ∈ X.pn ++ pins, p.1 ≠ a := fun p hp z => by
      obtain ⟨e, _⟩ := J.pin p hp
      rw [z, nI] at e
      cases e
    have nCl : ∀ x c, X.env.cells.lookup x = some c → c ≠ a := fun x c e z => by
      obtain ⟨w, q⟩ := J.cell x c e
      subst z
      unfold Heap.IsCell at q
      first
        | (obtain ⟨o, q1, _⟩ := q; rw [nI] at q1; cases q1)
        | (rw [nI] at q; cases q)
    have S3 := J3.suite he3 hd3 na nL nF
    refine wpAny_handleBy_cons (codeAny_handlers_test ?_) (by intro q; cases q)
    have LT : PySem.W.Looks (model X.prog X.w) h3 (typeOf (.ref a)) cls := fun A Q E s k q => wpAny_typeOf_ref (k _ _ he3) (by rw [hz3.1]; exact q)
    have LM := PySem.W.exm_one (M := model X.prog X.w) (J3.kIn) LT hb1
    have test : ∀ {Q : Value → Shared → Prop} {E : Value → Shared → Prop}, Q c { s' with heap := h3 } → wpAny (model X.prog X.w) (X.A.mark (some (.ref a))) (eval (.Name x np) X.env) Q E { s' with heap := h3 } := fun {Q E} q => by
      obtain ⟨hg, hdbg, hm | ⟨hm, hv, hnn⟩⟩ := hc
      · exact ld_glob (X := X.suite a ((a, oe3) :: (X.pn ++ pins))) S3 hg hm q hdbg
      · exact ld_blt (X := X.suite a ((a, oe3) :: (X.pn ++ pins))) S3 hg hm hv q hnn hdbg
    refine test (LM.here ?_)
    cases b with
    | true =>
      refine codeAny_handlers_suite_as ?_
      refine HandSPX.lands_againZ fl3 fun h4 fl4 up4 => ?_
      have J4 : Inv X pins σ' H' { s' with heap := h4 } := J.landed nb fl4.1 ((up.trans up3).trans up4) os ag
      obtain ⟨oe4, vs4, he4, hz4, hd4⟩ := fl4.there
      have S4 := J4.suite he4 hd4 na nL nF
      refine store_ok (X := X.suite a ((a, oe4) :: (X.pn ++ pins))) (v := .ref a) S4 hN hi hloc rfl (fun s5 S5 => ?_) (.inr hln)
      have hlen : i < σ'.length := by
        rw [J.len]
        exact (List.getElem?_eq_some_iff.mp hi).1
      have hsu : PSs (X.suite a ((a, oe4) :: (X.pn ++ pins))) [.Assign [.Name v p1] (.Name n p2) p3] (fun D σ H => ∃ w, σ[i]? = some (some w) ∧ D.nx (σ.set j (some w)) H) := by
        refine pss_one (PS_mono (ps_asg (pe_var (i := i) hi (.inl hln) hdn hcn) (pg_name (i := j) hN hj (.inl hlv) (.inr hlv)) hsw hsw2) fun D σ H h => ?_)
        obtain ⟨w, e1, q⟩ := h
        exact ⟨w, e1, q⟩
      refine wpAny_mono (hsu.run [] s5 _ H' { nx := fun σ6 H6 => σ6 = ((σ'.set i (some (.ref a))).set j (some (.ref a))) ∧ H6 = H', rt := fun _ _ => False, bk := fun _ _ => False, ct := fun _ _ => False } S5 ⟨.ref a, by rw [List.getElem?_set_self hlen], rfl, rfl⟩) (fun f s6 hsp => ?_) (fun _ _ z => False.elim z)
      have fin6 : ∀ {σ6 : L2.St} {H6 : Hp}, Inv (X.suite a ((a, oe4) :: (X.pn ++ pins))) [] σ6 H6 s6 → σ6 = ((σ'.set i (some (.ref a))).set j (some (.ref a))) → H6 = H' →
          wpAny (model X.prog X.w) X.A (do bindName X.env n .none; unbindBehindTheSuite X.env n pos') (fun _ s7 => SP X pins D .next s7) X.xe s6 := fun {σ6 H6} S6 e1 e2 => by
        subst e1 e2
        obtain ⟨g6, _⟩ := S6.pin (a, oe4) (List.mem_append_left _ List.mem_cons_self)
        have J6 := (S6.unsuite ok).trackV (u := ExH cls a d) na n0 nL nCl npn (exh_ok g6 hz4 hd4)
        exact gone_ok J6 hN hi hln fun s7 J7 => ⟨_, _, J7, hyes rfl a na⟩
      cases f with
      | next =>
        obtain ⟨σ6, H6, S6, q1, q2⟩ := hsp
        exact fin6 S6 q1 q2
      | brk =>
        obtain ⟨σ6, H6, S6, q6⟩ := hsp
        exact q6.elim
      | cont =>
        obtain ⟨σ6, H6, S6, q6⟩ := hsp
        exact q6.elim
      | ret u =>
        obtain ⟨v6, σ6, H6, S6, r6, q6⟩ := hsp
        exact q6.elim
    | false =>
      show wpAny _ X.A (handleBy (.ref a) X.env []) _ _ _
      refine wpAny_handleBy_nil ?_
      obtain ⟨k1, k2, k3, oe, vs, T, oT, ts', he, hz, hd, h1, hr⟩ := id fl3
      unfold PySem.passOn
      refine wpAny_bind (wpAny_field he hd h1 ?_)
      rw [if_neg (show ¬ ((Value.ref T == Value.none) = true) from by simp)]
      have fin : wpAny (model X.prog X.w) X.A (setFlight (.ref a) X.env.frame) (fun _ s4 => wpAny (model X.prog X.w) X.A (throw (.ref a) : Sem Flow) (SP X pins D) X.xe s4) X.xe { s' with heap := h3 } := by
        rw [hf]
        refine HandSPX.setFlight_upZ fl3 fun h4 hh4 up4 => wpAny_throw (tk _ _ ?_)
        exact ⟨a, B, sI, pins, σ', H', cls, d, rfl, J, nb, (up.trans up3).trans up4, .inr (.inr (by rw [hs]; exact hh4)), na, os, ag, hno rfl⟩
      first
        | exact wpAny_bind (wpAny_pure (wpAny_bind fin))
        | exact wpAny_bind fin
  · cases f with
    | next =>
      obtain ⟨σ', H', J', q⟩ := hsp
      exact wpAny_execs_nil ⟨σ', H', J'.ofTry ok, q⟩
    | brk =>
      obtain ⟨σ', H', J', q⟩ := hsp
      exact ⟨σ', H', J'.ofTry ok, q⟩
    | cont =>
      obtain ⟨σ', H', J', q⟩ := hsp
      exact ⟨σ', H', J'.ofTry ok, q⟩
    | ret u =>
      obtain ⟨v, σ', H', J', r, q⟩ := hsp
      exact ⟨v, σ', H', J'.ofTry ok, r, q⟩
end
end Vw
namespace Vw
open PySem L2 PyProof.Rows

/-- whether a class is under another one -/
def isub (N : List String) (c T : String) : Option Bool := if N.contains c then (if T = "ValueError" then some true else if N.contains T then some (decide (T = "FindError") || decide (c = T)) else none) else none
def excD (x : Exn) : D := .exc x.c x.p.toList
def sTryKeep (N : List String) (T : String) (i j : Nat) (f : State → Res Fl) (s : State) : Res Fl :=
  match f s with
  | .exc x s => match isub N x.c T with
    | some true => .ok .nx { s with sg := ((s.sg.set i none).set j (some (.v (.d (excD x))))).set i none }
    | some false => .exc x s
    | none => .stuck
  | r => r
/-- try: f except T: u (no name) -/
def sTry (N : List String) (T : String) (f u : State → Res Fl) (s : State) : Res Fl :=
  match f s with
  | .exc x s => match isub N x.c T with
    | some true => u s
    | some false => .exc x s
    | none => .stuck
  | r => r
section
variable {C C' : Cst} {Z Z' : Hp} {loc loc' : List Addr} {s s' : State} {sv sv' : L2.St} {H H' : Hp}
theorem SR.w (r : SR C Z loc s sv H) (W : WX) : SR { C with W := W } Z loc s sv H := ⟨r.fr, r.zh, r.zf, r.lk, r.ln, r.nd, r.lh, r.cl, r.vl, r.ow, r.oi, r.ls⟩
theorem SR.unw {W : WX} (r : SR { C with W := W } Z loc s sv H) : SR C Z loc s sv H := ⟨r.fr, r.zh, r.zf, r.lk, r.ln, r.nd, r.lh, r.cl, r.vl, r.ow, r.oi, r.ls⟩
theorem SR.store' (r : SR C Z loc s sv H) (i : Nat) {x : Val} {v : V} (q : RepV C.cA Z loc x v) : SR C Z loc { s with sg := s.sg.set i (some (.v x)) } (sv.set i (some v)) H := by
  by_cases hi : i < sv.length
  · exact r.store hi q
  · have h1 : s.sg.set i (some (.v x)) = s.sg := List.set_eq_of_length_le (by rw [r.ls]; omega)
    have h2 : sv.set i (some v) = sv := List.set_eq_of_length_le (by omega)
    rw [h1, h2]
    exact r
/-- the caught exception is tracked -/
theorem SR.caught (r : SR C Z loc s sv H) {x : Exn} {c : Value} {d : Option Addr} (q : XRep C Z H x c d) {a : Addr} (na : H a = none) :
    Ext Z loc (upd Z a (ExH c a d)) loc ∧ SR C (upd Z a (ExH c a d)) loc s sv (upd H a (ExH c a d)) ∧ RepD C.cA (upd Z a (ExH c a d)) (excD x) (.ref a) := by
  have f := r.free na
  have g := same_upd (o := ExH c a d) f.z
  refine ⟨Ext.z g, (r.grow (same_upd na)).absorb upd_same f, ?_⟩
  obtain ⟨rfl, q⟩ := q
  cases e : x.p with
  | none =>
    rw [e] at q
    exact ⟨a, d, [], rfl, upd_same, .inl ⟨q, rfl⟩, by rw [e]; rfl⟩
  | some p =>
    rw [e] at q
    obtain ⟨dd, v, rfl, q1, q2⟩ := q
    exact ⟨a, _, [v], rfl, upd_same, .inr ⟨dd, v, rfl, rfl, g _ _ q1⟩, by rw [e]; exact ⟨v, [], rfl, RepD.mono g p q2, rfl⟩⟩
end
/-- what the written part says of the clause's class -/
def EM (N : List String) (K : PySem.W.Frag) (cA : String → Addr) (T : String) (cv : Value) : Prop := ∀ c b, isub N c T = some b → PySem.W.exmOne K (.ref (cA c)) cv = some b
section
variable {C : Cst} {X : Cx} {N : List String} {T : String} {x n v : Str} {cv : Value} {i j : Nat} {body suite : List Stmt} {b₀ : Stmt} {np pos pos' p1 p2 p3 : Pos} {f u : State → Res Fl}
theorem v_tryKeep (hs : X.stack = X.env :: X.outer) (hf : X.env.frame = some X.env.locals) (hex : X.ex = []) (hN : X.N.Nodup) (hi : X.N[i]? = some n) (hj : X.N[j]? = some v) (hij : i ≠ j) (hln : X.env.kindOf n = some .local) (hlv : X.env.kindOf v = some .local) (hc : Names X x cv) (em : EM N X.K C.cA T cv) (tk : Takes X C.W)
    (hb : ∀ (C' : Cst) (pn : List (Addr × Obj)) (xe : Value → Shared → Prop), C'.cA = C.cA → Takes (X.tr pn xe) C'.W → PassesOwn (model X.prog X.w) X.A X.env xe → PSs (X.tr pn xe) body (TSt C' f)) 
    (hdn : (n == ("__debug__" : Str)) = false) (hcn : (n == ("__classdict__" : Str)) = false) (hsw : swapsWithSole [.Name v p1] (.Name n p2) p3.line X.env = pure false) (hsw2 : swappedStores [.Name v p1] (.Name n p2) X.env = pure none) :
    PS X (.Try body [.ExceptHandler (some (.Name x np)) (some n) [.Assign [.Name v p1] (.Name n p2) p3] pos'] [] [] pos) (TSt C (sTryKeep N T i j f)) := by
  refine PS_mono (ps_try_keep (tb := fun W => TSt { C with W := W } f) (Wout := C.W) hs hf hex hN hi hj hij hln hlv hc tk (fun W pn xe t po => hb _ pn xe rfl t po) hdn hcn hsw hsw2) fun D sv H ⟨Z, loc, s, r, h⟩ => ?_
  refine ⟨Z, loc, s, r.w _, ?_⟩
  unfold sTryKeep at h
  cases e : f s with
  | stuck => rw [e] at h; exact h
  | ok k s1 =>
    rw [e] at h
    cases k with
    | nx => exact fun Z' l' sv' H' g r' => h Z' l' sv' H' g r'.unw
    | brk => exact fun Z' l' sv' H' g r' => h Z' l' sv' H' g r'.unw
    | cnt => exact fun Z' l' sv' H' g r' => h Z' l' sv' H' g r'.unw
    | ret rv => 
      intro Z' l' sv' H' v g r' q
      refine h Z' l' sv' H' v g r'.unw ?_
      cases rv with
      | val x => exact q
      | own i => exact q
      | new o =>
        obtain ⟨a, q1, q2, q3, q4⟩ := q
        exact ⟨a, q1, q2, q3, ⟨q4.z, q4.f, q4.l, q4.o⟩⟩
  | exc x s1 =>
    rw [e] at h
    intro Z' l' sv' H' c d g r' q
    have q' : XRep C Z' H' x c d := q
    cases eb : isub N x.c T with
    | none => 
      dsimp only at h
      rw [eb] at h
      exact h.elim
    | some b =>
      refine ⟨b, ?_, fun hb => ?_, fun hb => ?_⟩
      · rw [q'.1]; exact em _ _ eb
      · subst hb
        dsimp only at h
        rw [eb] at h
        intro a na
        obtain ⟨g2, r2, q2⟩ := r'.unw.caught q' na
        exact h _ _ _ _ (g.trans g2) (((r2.unset i (some (.ref a))).store' j (x := .d (excD x)) q2).unset i none)
      · subst hb
        dsimp only at h
        rw [eb] at h
        exact h Z' l' sv' H' c d g r'.unw q'
theorem v_try (hs : X.stack = X.env :: X.outer) (hf : X.env.frame = some X.env.locals) (hc : Names X x cv) (em : EM N X.K C.cA T cv) (tk : Takes X C.W)
    (hb : ∀ (C' : Cst) (pn : List (Addr × Obj)) (xe : Value → Shared → Prop), C'.cA = C.cA → Takes (X.tr pn xe) C'.W → PassesOwn (model X.prog X.w) X.A X.env xe → PSs (X.tr pn xe) body (TSt C' f))
    (hsu : ∀ (a : Addr) (oe : Obj) (cls : Value) (d : Option Addr) (pn : List (Addr × Obj)), Zc cls d oe → (∃ vs, oe.data = .fields vs) → PSs (X.suite a ((a, oe) :: pn)) (b₀ :: suite) (TSt C u)) :
    PS X (.Try body [.ExceptHandler (some (.Name x np)) none (b₀ :: suite) pos'] [] [] pos) (TSt C (sTry N T f u)) := by
  refine PS_mono (ps_try_only (tb := fun W => TSt { C with W := W } f) (ts := fun _ _ _ => TSt C u) (Wout := C.W) hs hf hc tk (fun W pn xe t po => hb _ pn xe rfl t po) hsu) fun D sv H ⟨Z, loc, s, r, h⟩ => ?_
  refine ⟨Z, loc, s, r.w _, ?_⟩
  unfold sTry at h
  cases e : f s with
  | stuck => rw [e] at h; exact h
  | ok k s1 =>
    rw [e] at h
    cases k with
    | nx => exact fun Z' l' sv' H' g r' => h Z' l' sv' H' g r'.unw
    | brk => exact fun Z' l' sv' H' g r' => h Z' l' sv' H' g r'.unw
    | cnt => exact fun Z' l' sv' H' g r' => h Z' l' sv' H' g r'.unw
    | ret rv => 
      intro Z' l' sv' H' v g r' q
      refine h Z' l' sv' H' v g r'.unw ?_
      cases rv with
      | val x => exact q
      | own i => exact q
      | new o =>
        obtain ⟨a, q1, q2, q3, q4⟩ := q
        exact ⟨a, q1, q2, q3, ⟨q4.z, q4.f, q4.l, q4.o⟩⟩
  | exc x s1 =>
    rw [e] at h
    intro Z' l' sv' H' c d g r' q
    have q' : XRep C Z' H' x c d := q
    cases eb : isub N x.c T with
    | none => 
      dsimp only at h
      rw [eb] at h
      exact h.elim
    | some b =>
      refine ⟨b, ?_, fun hb => ?_, fun hb => ?_⟩
      · rw [q'.1]; exact em _ _ eb
      · subst hb
        dsimp only at h
        rw [eb] at h
        intro a na
        refine ⟨Z', l', s1, r'.unw, ?_⟩
        cases eu : u s1 with
        | stuck => rw [eu] at h; exact h.elim
        | exc y s2 =>
          rw [eu] at h
          exact fun Z2 l2 sv2 H2 c2 d2 g2 r2 q2 => h Z2 l2 sv2 H2 c2 d2 (g.trans g2) r2 q2
        | ok k s2 =>
          rw [eu] at h
          cases k with
          | nx => exact fun Z2 l2 sv2 H2 g2 r2 => h Z2 l2 sv2 H2 (g.trans g2) r2
          | brk => exact fun Z2 l2 sv2 H2 g2 r2 => h Z2 l2 sv2 H2 (g.trans g2) r2
          | cnt => exact fun Z2 l2 sv2 H2 g2 r2 => h Z2 l2 sv2 H2 (g.trans g2) r2
          | ret rv => exact fun Z2 l2 sv2 H2 v g2 r2 q2 => h Z2 l2 sv2 H2 v (g.trans g2) r2 q2
      · subst hb
        dsimp only at h
        rw [eb] at h
        exact h Z' l' sv' H' c d g r'.unw q'
end
end Vw
namespace Vw
open PySem L2 PyProof.Rows

/-- isinstance(e, T), T a class of exceptions -/
def fIsC (N : List String) (T : String) (f : State → Res RV) (s : State) : Res RV := (ev f s).bind fun r s =>
  match dv s r with
  | some (.exc c _) => match isub N c T with
    | some b => okv (.bl b) s
    | none => .stuck
  | some .non => okv (.bl false) s
  | _ => .stuck
/-- what the written part says of the classes -/
structure ExK (N : List String) (K : PySem.W.Frag) (cA : String → Addr) (T : String) (cv : Value) : Prop where
  ex : ∀ c b, isub N c T = some b → ExcC K (cA c) ∧ PySem.W.kitOne K (.ref (cA c)) cv = some b
  no : PySem.W.kitOne K (.type "NoneType") cv = some false
def rIsX (K : PySem.W.Frag) (c : V) (cv : Value) : List V → Hp → VK → Prop := fun xs H Q =>
  (∃ a D d ws b, xs = [.ref a, c] ∧ H a = some (ExH (.ref D) a d) ∧ XdH H d ws ∧ ExcC K D ∧ PySem.W.kitOne K (.ref D) cv = some b ∧ Q (.bl b) H) ∨ (xs = [.non, c] ∧ PySem.W.kitOne K (.type "NoneType") cv = some false ∧ Q (.bl false) H)
section
variable {C : Cst} {Z Z' Zc : Hp} {loc loc' : List Addr} {s s' : State} {sv sv' : L2.St} {H H' : Hp}
variable {X : Cx} {e a b c o : Expr} {es : List Expr} {p pos apos pt : Pos} {f fa fb fc fo fi fv : State → Res RV} {fs : State → Res (List RV)}
theorem inst_of {P : Program} {w : World} {H : Hp} {h : Heap} {a D : Addr} {d : Option Addr} {ws : List V} (hok : HOk P w H h) (e : H a = some (ExH (.ref D) a d)) (x : XdH H d ws) :
    ∃ oe od, PySem.W.InstAt h a oe D od ∧ ∀ w, ws = [w] → ∃ ob u, od = some ob ∧ PySem.W.lookIn (Str.ofString "place") ob = some (some u) ∧ RelV w u := by
  obtain ⟨⟨oe, ha, hz, vs, hd⟩, _, _⟩ := hok a _ e
  rcases x with ⟨rfl, rfl⟩ | ⟨dd, w, rfl, rfl, hx⟩
  · exact ⟨oe, none, ⟨ha, hz.1, by unfold PySem.W.notCls; rw [hd] <;> rfl, by rw [hz.2]; trivial⟩, fun w h => by cases h⟩
  · obtain ⟨mA, hns, hr⟩ := hok dd _ hx
    obtain ⟨od, ho, hl⟩ := lookIn_ns hns
    obtain ⟨u, hu, ru⟩ := RelO.some_of (v := w) (o := mA "place") (by have := hr (Str.ofString "place"); simpa [List.lookup] using this)
    exact ⟨oe, some od, ⟨ha, hz.1, by unfold PySem.W.notCls; rw [hd] <;> rfl, by rw [hz.2]; exact ho⟩, fun w' h => by
      cases h
      exact ⟨od, u, rfl, by rw [hl, hu], ru⟩⟩
theorem call_isX {c : V} {cv : Value} (hc : ClsV c cv) : CallR X (.builtin "isinstance") (rIsX X.K c cv) := by
  intro pins s σ H xs us Q I r h
  rcases h with ⟨a, D, d, ws, b, rfl, ha, hx, hC, e, q⟩ | ⟨rfl, e, q⟩
  · cases r with
    | cons rx rr =>
      cases rr with
      | cons rt rr =>
        cases rr
        cases rx
        have ec := hc.eq rt
        subst ec
        obtain ⟨oe, od, J, _⟩ := inst_of I.hok ha hx
        have hcl : (PySem.W.clsIn X.K D).isSome = true := by
          obtain ⟨cd, h, _⟩ := PySem.W.any_some hC.hd
          rw [h] <;> rfl
        exact PySem.W.kia_one (PySem.W.kitx_exc (od := od) hcl hC.hg hC.hk hC.hs hC.ha hC.hn hC.ht hC.hm) I.kIn J e (fun z => nomatch z) fun tk => ⟨.bl b, H, I.kept (t' := tk) fun _ _ z => z, rfl, q⟩
  · exact call_isi pins s σ H _ us Q I r ⟨.non, c, .type "NoneType", cv, false, rfl, hc, .base .non, e, q⟩
theorem v_isC {N : List String} {T : String} {c : V} {cv : Value} {tx : Expr} (he : PE X e (TEx C f)) (hg : Gl X "isinstance") (hm : X.mg "isinstance" = none) (hT : PE X tx (tC c)) (hc : ClsV c cv) (E : ExK N X.K C.cA T cv) (hs : notStar e = true) (hs2 : notStar tx = true) :
    PE X (.Call (.Name "isinstance" p) [e, tx] [] pos) (TEx C (fIsC N T f)) := by
  refine PE_mono (pe_callB (call_isX hc) hg hm bb_isinstance (pa_cons he (pa_cons hT pa_nil (star_cons hs2)) (star_cons hs)) (by decide) (by decide) (star_cons hs) (by rw [star_any]; simpa using hs2)) fun sv H Q ⟨Z, loc, s, r, q⟩ => ?_
  refine (TEx.evE r q).imp fun v H1 ⟨Z1, l1, s1, y, g1, r1, st1, q1, h1⟩ => ?_
  show rIsX X.K c cv [v, c] H1 Q
  cases ed : Vw.dv s1 y with
  | none => rw [ed] at h1; exact h1.elim
  | some d =>
    rw [ed] at h1
    have qd := r1.dv q1 ed
    cases d with
    | non => exact .inr ⟨by rw [show v = .non from qd], E.no, h1.okv r1 rfl⟩
    | exc x ps =>
      cases eb : isub N x T with
      | none => dsimp only at h1; rw [eb] at h1; exact h1.elim
      | some b =>
        dsimp only at h1
        rw [eb] at h1
        obtain ⟨a, d, ws, rfl, za, zx, _⟩ := qd
        obtain ⟨e1, e2⟩ := E.ex _ _ eb
        have hZ : Same Z1 Z1 := Same.refl _
        refine .inl ⟨a, C.cA x, d, ws, b, rfl, (r1.zh a _ za).at rfl, ?_, e1, e2, h1.okv r1 rfl⟩
        rcases zx with zx | ⟨dd, w, z1, z2, z3⟩
        · exact .inl zx
        · exact .inr ⟨dd, w, z1, z2, (r1.zh dd _ z3).at rfl⟩
    | _ => exact h1.elim
theorem x_isC {N : List String} {T : String} {cA : String → Addr} (hC : C.cA = cA) (he : PE X e (TEx C f)) (hg : Gl X "isinstance") (hm : X.mg "isinstance" = none) (hg2 : Gl X (Str.ofString T)) (hm2 : X.mg (Str.ofString T) = some (.ref (cA T))) (E : ExK N X.K cA T (.ref (cA T))) (hs : notStar e = true)
    (hd : ((Str.ofString T) == ("__debug__" : Str)) = false) : PE X (.Call (.Name "isinstance" p) [e, .Name (Str.ofString T) pt] [] pos) (TEx C (fIsC N T f)) := by
  subst hC
  exact v_isC he hg hm (pe_glob (v := .ref (C.cA T)) hg2 hm2 rfl hd) (.own _) E hs rfl
theorem x_isVE {N : List String} {cA : String → Addr} (hC : C.cA = cA) (he : PE X e (TEx C f)) (hg : Gl X "isinstance") (hm : X.mg "isinstance" = none) (hg2 : Gl X "ValueError") (hm2 : X.mg "ValueError" = none) (E : ExK N X.K cA "ValueError" (.type "ValueError")) (hs : notStar e = true) :
    PE X (.Call (.Name "isinstance" p) [e, .Name "ValueError" pt] [] pos) (TEx C (fIsC N "ValueError" f)) := by
  subst hC
  exact v_isC he hg hm (pe_bltn (v := .ty "ValueError") hg2 hm2 (by decide +kernel) rfl (by decide) (by decide)) (.ty _) E hs rfl
def fPlace (f : State → Res RV) (s : State) : Res RV := (ev f s).bind fun r s =>
  match dv s r with
  | some (.exc _ [p]) => okv p s
  | _ => .stuck
def tPlace (K : PySem.W.Frag) (te : TE) : TE := fun σ H Q => te σ H fun x H1 => ∃ a D d w, x = .ref a ∧ H1 a = some (ExH (.ref D) a d) ∧ XdH H1 d [w] ∧ XfC K D ∧ PySem.W.findIn K (.ref D) "place" = some none ∧ Q w H1
theorem pe_place {te : TE} (he : PE X e te) (hb : attributeBase e "place" X.env (eval e X.env) = eval e X.env) : PE X (.Attribute e "place" pos) (tPlace X.K te) := by
  refine ⟨fun pins s σ H Q I h => ?_⟩
  refine attr_of hb (thn (he.run pins s σ H _ I h) fun u s1 hh => ?_)
  obtain ⟨x, H1, I1, rx, a, D, d, w, ex, ha, hx, T, hno, q⟩ := hh
  subst ex
  obtain rfl : u = Value.ref a := rx
  obtain ⟨oe, od, J, hw⟩ := inst_of I1.hok ha hx
  obtain ⟨ob, u, rfl, l, ru⟩ := hw w rfl
  exact HandSPX.exc_get I1.kIn J T.ga T.gg T.exC (PySem.W.findObj_own T.hdC hno rfl l) (handed_of ru) ⟨w, H1, I1.tok _, ru, q⟩
end
end Vw
namespace Vw
open PySem L2 PyProof.Rows
def PlF (N : List String) (K : PySem.W.Frag) (cA : String → Addr) : Prop := ∀ c ∈ N, XfC K (cA c) ∧ PySem.W.findIn K (.ref (cA c)) "place" = some none
def fPl (N : List String) (f : State → Res RV) (s : State) : Res RV := (ev f s).bind fun r s =>
  match dv s r with
  | some (.exc c [p]) => if N.contains c then okv p s else .stuck
  | _ => .stuck
/-- what __init__ of such a class does -/
def spPl : Sp := fun vs H Q E => ∃ (K : PySem.W.Frag) (a C : Addr) (v : V), vs = [.ref a, v] ∧ True
/-- raise T(f) -/
def sRaiseP (T : String) (f : State → Res RV) (s : State) : Res Fl := (ev f s).bind fun r s => match cap r s with
  | .ok (.d x) s => .exc ⟨T, some x⟩ s
  | _ => .stuck
section
variable {C : Cst} {Z Z' Zc : Hp} {loc loc' : List Addr} {s s' : State} {sv sv' : L2.St} {H H' : Hp}
variable {X : Cx} {e a b c o : Expr} {es : List Expr} {p p2 pos pos' apos pt : Pos} {f fa fb fc fo fi fv : State → Res RV} {fs : State → Res (List RV)}
theorem x_place {N : List String} {cA : String → Addr} (hC : C.cA = cA) (F : PlF N X.K cA) (he : PE X e (TEx C f)) (hb : attributeBase e "place" X.env (eval e X.env) = eval e X.env) : PE X (.Attribute e "place" pos) (TEx C (fPl N f)) := by
  subst hC
  refine PE_mono (pe_place he hb) fun sv H Q ⟨Z, loc, s, r, q⟩ => ?_
  refine (TEx.evE r q).imp fun v H1 ⟨Z1, l1, s1, y, g1, r1, st1, q1, h1⟩ => ?_
  cases ed : Vw.dv s1 y with
  | none => rw [ed] at h1; exact h1.elim
  | some d =>
    rw [ed] at h1
    have qd := r1.dv q1 ed
    cases d with
    | exc x ps =>
      cases ps with
      | nil => exact h1.elim
      | cons p ps =>
        cases ps with
        | cons _ _ => exact h1.elim
        | nil =>
          dsimp only at h1
          split at h1
          · rename_i hm
            have hm' : x ∈ N := by simpa using hm
            obtain ⟨T, hno⟩ := F x hm'
            obtain ⟨a, d, ws, rfl, za, zx, w, ws', e1, qw, e2⟩ := qd
            cases e2
            subst e1
            refine ⟨a, C.cA x, d, w, rfl, (r1.zh a _ za).at rfl, ?_, T, hno, h1.okv r1 qw⟩
            rcases zx with zx | ⟨dd, w', z1, z2, z3⟩
            · cases zx.2
            · exact .inr ⟨dd, w', z1, z2, (r1.zh dd _ z3).at rfl⟩
          · exact h1.elim
    | _ => exact h1.elim
end
/-- the promise of 'def __init__(self, place): self.place = place' -/
def spI (K : PySem.W.Frag) (C : Addr) : Sp := fun vs H Q E => ∃ (a : Addr) (v : V), vs = [.ref a, v] ∧ OexC K C ∧ PySem.W.findIn K (.ref C) "place" = some none ∧ H a = some (exo a C none) ∧
  ∀ dx, H dx = none → dx ≠ a → Q .non (upd (upd H dx (exd dx [(Str.ofString "place", v)])) a (exo a C (some dx)))
theorem init_ok {P : Program} {w : World} {K : PySem.W.Frag} {mg : Str → Option Value} {base : Heap} {x qual : Str} {params : Arguments} {scope : Scope} {f : Addr} {fd : FuncData} {C : Addr} {q1 q2 q3 q4 : Pos}
    (F : FunD K x qual params [.Assign [.Attribute (.Name "self" q1) "place" q2] (.Name "place" q3) q4] scope [] [] f fd) (S : FnScope ["self", "place"] ["self", "place"] scope) (hs : scope.names.lookup (Str.ofString "self") = some NameKind.local) (hp : scope.names.lookup (Str.ofString "place") = some NameKind.local) :
    FnOk P w K mg base CX0 1 f fd ["self", "place"] (spI K C) := by
  refine F.ok S (fun vs H Q E ⟨a, v, h, _⟩ => by rw [h]; rfl) fun cdv A outer s H vs Q E hr ⟨a, v, hv, T, hno, ha, q⟩ => ?_
  subst hv
  refine ⟨_, pss_one (ps_ost (pe_var (i := 0) rfl (.inl hs)) (pe_var (i := 1) rfl (.inl hp))), ?_⟩
  exact ⟨v, rfl, .ref a, rfl, a, C, rfl, T, hno, .inl ⟨ha, fun dx h1 h2 => q dx h1 h2⟩⟩
structure OinF (P : Program) (w : World) (K : PySem.W.Frag) (mg : Str → Option Value) (base : Heap) (C fI : Addr) (fd : FuncData) : Prop where
  T : OexC K C
  no : PySem.W.findIn K (.ref C) "place" = some none
  iC : PySem.W.findIn K (.ref C) "__init__" = some (some (.ref fI))
  tI : PySem.W.typeIn K (.ref fI) = some (.type "function")
  F : FnOk P w K mg base CX0 1 fI fd ["self", "place"] (spI K C)
  B : Binds K fd ["self", "place"] []
section
variable {C : Cst} {X : Cx} {e : Expr} {p p2 pos pos' : Pos} {f : State → Res RV}
theorem x_raiseP {x : String} {cA : String → Addr} {fI : Addr} {fd : FuncData} (hC : C.cA = cA) (hc : X.calm = true) (tk : Takes X C.W) (hr : Room 2 X.A) (F : OinF X.prog X.w X.K X.mg X.base (cA x) fI fd) (gC : X.mg (Str.ofString x) = some (.ref (cA x))) (hg : Gl X (Str.ofString x)) (he : PE X e (TEx C f))
    (hs : notStar e = true) (hdb : ((Str.ofString x) == ("__debug__" : Str)) = false) :
    PS X (.Raise (some (.Call (.Name (Str.ofString x) p) [e] [] pos)) none pos') (TSt C (sRaiseP x f)) := by
  subst hC
  refine PS_mono (ps_raise hc tk (pmk_oex (dvs := []) (ds := []) F.T F.iC F.tI F.F hr F.B .nil pass0 hg gC (pa_cons he pa_nil (star_cons hs)) hdb (star_cons hs) (by rfl))) fun D sv H ⟨Z, loc, s, r, h⟩ => ?_
  refine TEx.evG (PO := fun Z loc (t : Res Fl) => SPost C Z loc t D) r h (fun Z' l' t g q => q.ext g) (fun y s' q Z' l' H' c d g r' x' => q Z' l' sv H' c d g r' x') (fun z => z) ?_
  · intro v H1 ⟨Z1, l1, s1, y, g1, r1, st1, q1, h1⟩
    cases ec : cap y s1 with
    | stuck => rw [ec] at h1; exact h1.elim
    | exc _ _ => rw [ec] at h1; exact h1.elim
    | ok x1 s2 =>
      rw [ec] at h1
      cases x1 with
      | r n => exact h1.elim
      | tp l => exact h1.elim
      | d d =>
        obtain ⟨Z2, g2, r2, q2⟩ := r1.cap q1 ec
        refine ⟨by simp, fun a na => ⟨a, v, rfl, F.T, F.no, upd_same, fun dx h2 h3 => ⟨rfl, dx, [(Str.ofString "place", v)], upd_same, by rw [upd_ne h3, upd_same], by rw [upd_ne h3] at h2; exact h2, ?_⟩⟩⟩
        have nd : H1 dx = none := by rw [upd_ne h3] at h2; exact h2
        have eH : upd (L2.del (upd (upd (upd H1 a (exo a (C.cA x) none)) dx (exd dx [(Str.ofString "place", v)])) a (exo a (C.cA x) (some dx))) a) dx (.xd [(Str.ofString "place", v)]) = upd H1 dx (.xd [(Str.ofString "place", v)]) := by
          funext b
          by_cases hb : b = dx
          · subst hb; rw [upd_same, upd_same]
          · rw [upd_ne hb, upd_ne hb]
            by_cases hba : b = a
            · subst hba; rw [L2.del_same, na]
            · rw [L2.del_ne hba, upd_ne hba, upd_ne hb, upd_ne hba]
        rw [eH]
        have f3 := r2.free nd
        have g3 := same_upd (o := .xd [(Str.ofString "place", v)]) f3.z
        have r3 := (r2.grow (same_upd (o := .xd [(Str.ofString "place", v)]) nd)).absorb upd_same f3
        exact h1 _ l1 sv _ _ _ (g2.trans (Ext.z g3)) r3 ⟨rfl, dx, v, rfl, upd_same, RepD.mono g3 d q2⟩
end
end Vw
namespace Vw
open PySem L2 PyProof.Rows

theorem ofS_inj {a b : String} (h : Str.ofString a = Str.ofString b) : a = b := by
  rw [Str.ofString_eq_toList, Str.ofString_eq_toList] at h
  have h1 : (a.toList.map Char.toNat) = (b.toList.map Char.toNat) := by
    have := congrArg (fun x : Str => x.cps.toList) h
    simpa using this
  have h2 : a.toList = b.toList := by
    have inj : ∀ (l m : List Char), l.map Char.toNat = m.map Char.toNat → l = m := by
      intro l
      induction l with
      | nil => intro m h; cases m <;> simp at h ⊢
      | cons c l ih =>
        intro m h
        cases m with
        | nil => simp at h
        | cons d m =>
          simp only [List.map_cons, List.cons.injEq] at h
          have : c = d := by
            apply Char.ext
            apply UInt32.toNat_inj.mp
            exact h.1
          rw [this, ih m h.2]
    exact inj _ _ h1
  exact String.toList_inj.mp h2
/-- how a call is let in -/
structure Mode (C : Cst) (X : Cx) where
  CX : CXT
  E : L2.St → XK
  hx : ∀ σ, PassesAt CX X σ (E σ)
  call : Fn → List Val → State → Res RV
  sp : ∀ {Z : Hp} {loc : List Addr} {s : State} {sv : L2.St} {H : Hp} {g : Fn} {n : Nat} {args : List Val} {vs : List V} {Q : VK}, SR C Z loc s sv H → RepVs C.cA Z loc args vs → args.length = n → EPost C Z loc sv (call g args s) Q → spV C.cA n g vs H Q (E sv)
def mR {C : Cst} {X : Cx} : Mode C X := ⟨CX0, fun _ => E0, fun σ pins H s e s' I c => L2.pass0 pins σ H s e s' I c, callR, fun r q hn h => sp_of r q hn h⟩
def mRX {C : Cst} {X : Cx} : Mode C X := ⟨L2.CX X.prog X.w, fun _ => E0, fun σ pins H s e s' I c => L2.passL pins σ H s e s' I c, callR, fun r q hn h => sp_of r q hn h⟩
def mX {C : Cst} {X : Cx} (tk : Takes X C.W) : Mode C X := ⟨L2.CX X.prog X.w, WE C.W, fun σ => passAt tk σ, callX, fun r q hn h => sp_ofX r q hn h⟩
/-- an instance's class -/
def insOf (s : State) (r : RV) : Option (String × List String) :=
  match dv s r with
  | some (.ins c fs) => some (c, fs.map (·.1))
  | some _ => none
  | none => match ob s r with
    | some (.ins c fs) => some (c, fs.map (·.1))
    | _ => none
/-- o.m(..) -/
def fMth (call : Fn → List Val → State → Res RV) (c m : String) (n : Nat) (fo : State → Res RV) (fs : State → Res (List RV)) (g : Fn) (s : State) : Res RV := (ev fo s).bind fun r s =>
  match insOf s r, r with
  | some (c', fl), .val x => if c' = c ∧ fl.contains m = false then (fs s).bind fun rs s => (capAll rs s).bind fun args s => if args.length + 1 = n then call g (x :: args) s else .stuck else .stuck
  | _, _ => .stuck
/-- C(..) -/
def mkE (m : Nat) (r : Res RV) : Res RV :=
  match r with
  | .ok (.val (.d .non)) s => .ok (.val (.r m)) s
  | .exc x s => .exc x s
  | _ => .stuck
def fMk (call : Fn → List Val → State → Res RV) (c : String) (n : Nat) (fs : State → Res (List RV)) (g : Fn) (s : State) : Res RV := (fs s).bind fun rs s => (capAll rs s).bind fun args s =>
  if args.length + 1 = n then mkE s.st.length (call g (.r s.st.length :: args) ⟨s.sg, s.st ++ [.ins c []]⟩) else .stuck
def lkF {α : Type} (fs : List (String × α)) (f : String) : Option α := (fs.find? fun p => decide (p.1 = f)).map (·.2)
def ptF {α : Type} (f : String) (v : α) : List (String × α) → List (String × α)
  | [] => [(f, v)]
  | (g, x) :: r => if g = f then (g, v) :: r else (g, x) :: ptF f v r
/-- o.f -/
def fFld (T : List (String × String)) (f : String) (fo : State → Res RV) (s : State) : Res RV := (ev fo s).bind fun r s =>
  match dv s r with
  | some (.ins c fs) => if T.contains (c, f) then (match lkF fs f with
    | some d => okv d s
    | none => .stuck) else .stuck
  | some _ => .stuck
  | none => match ob s r with
    | some (.ins c fs) => if T.contains (c, f) then (match lkF fs f with
      | some x => .ok (.val x) s
      | none => .stuck) else .stuck
    | _ => .stuck
/-- o.f = v -/
def sFldV (T : List (String × String)) (f : String) (fo fv : State → Res RV) (s : State) : Res Fl := (ev fv s).bind fun v s => (ev fo s).bind fun o s =>
  match cap v s with
  | .ok x s => match ob s o with
    | some (.ins c fs) => if T.contains (c, f) && decide (fs.length < 1000) then .ok .nx (wr o (.ins c (ptF f x fs)) s) else .stuck
    | _ => .stuck
  | _ => .stuck
/-- o.f += v, whole numbers -/
def sFldA (T : List (String × String)) (f : String) (op : Bop) (fo fv : State → Res RV) (s : State) : Res Fl :=
  match augf op with
  | none => .stuck
  | some g => (ev fo s).bind fun o s => match ob s o with
    | some (.ins c fs) => if T.contains (c, f) && decide (fs.length < 1000) then (match lkF fs f with
      | some (.d (.int a)) => (ev fv s).bind fun y s => match dv s y, ob s o with
        | some (.int b), some (.ins c' fs') => if c' = c ∧ fs'.length < 1000 then .ok .nx (wr o (.ins c (ptF f (.d (.int (g a b))) fs')) s) else .stuck
        | _, _ => .stuck
      | _ => .stuck) else .stuck
    | _ => .stuck
/-- what the written part says of the classes' attributes -/
def FldF (K : PySem.W.Frag) (cA : String → Addr) (T : List (String × String)) : Prop := ∀ c f, (c, f) ∈ T → Cls K (cA c) ∧ NoAttr K (cA c) (Str.ofString f)
section
variable {C : Cst} {Z Z' Zc : Hp} {loc loc' : List Addr} {s s' : State} {sv sv' : L2.St} {H H' : Hp}
variable {X : Cx} {e a b c o v : Expr} {es : List Expr} {p p2 pos pos' apos pt : Pos} {f fa fb fc fo fi fv : State → Res RV} {fs : State → Res (List RV)}
theorem lk_rep {T : List (String × String)} : ∀ {fs : List (String × D)} {ws : List (Str × V)} {f : String} {d : D}, RepFs C.cA Z fs ws → lkF fs f = some d → ∃ v, ws.lookup (Str.ofString f) = some v ∧ RepD C.cA Z d v
  | [], ws, f, d, h, e => by cases e
  | (g, x) :: fs, ws, f, d, ⟨v, r, e1, q, t⟩, e => by
    subst e1
    unfold lkF at e
    rw [List.find?_cons] at e
    by_cases hg : g = f
    · subst hg
      simp at e
      subst e
      exact ⟨v, by simp [List.lookup], q⟩
    · simp [hg] at e
      have hne : ((Str.ofString f) == (Str.ofString g)) = false := beq_eq_false_iff_ne.mpr fun z => hg (ofS_inj z.symm)
      obtain ⟨v2, h1, h2⟩ := lk_rep (T := T) (f := f) (d := d) t (by unfold lkF; simpa using e)
      exact ⟨v2, by rw [List.lookup, hne]; exact h1, h2⟩
theorem lkv_rep : ∀ {fs : List (String × Val)} {ws : List (Str × V)} {f : String} {d : Val}, RepVFs C.cA Z loc fs ws → lkF fs f = some d → ∃ v, ws.lookup (Str.ofString f) = some v ∧ RepV C.cA Z loc d v
  | [], ws, f, d, h, e => by cases e
  | (g, x) :: fs, ws, f, d, ⟨v, r, e1, q, t⟩, e => by
    subst e1
    unfold lkF at e
    rw [List.find?_cons] at e
    by_cases hg : g = f
    · subst hg
      simp at e
      subst e
      exact ⟨v, by simp [List.lookup], q⟩
    · simp [hg] at e
      have hne : ((Str.ofString f) == (Str.ofString g)) = false := beq_eq_false_iff_ne.mpr fun z => hg (ofS_inj z.symm)
      obtain ⟨v2, h1, h2⟩ := lkv_rep (f := f) (d := d) t (by unfold lkF; simpa using e)
      exact ⟨v2, by rw [List.lookup, hne]; exact h1, h2⟩
theorem noF_rep : ∀ {fs : List (String × D)} {ws : List (Str × V)} {m : String}, RepFs C.cA Z fs ws → (fs.map (·.1)).contains m = false → ws.lookup (Str.ofString m) = none
  | [], ws, m, h, e => by rw [show ws = _ from h]; rfl
  | (g, x) :: fs, ws, m, ⟨v, r, e1, q, t⟩, e => by
    subst e1
    simp only [List.map_cons, List.contains_cons, Bool.or_eq_false_iff] at e
    have hne : ((Str.ofString m) == (Str.ofString g)) = false := beq_eq_false_iff_ne.mpr fun z => by
      have := ofS_inj z
      have e1 := e.1
      rw [this] at e1
      simp at e1
    rw [List.lookup, hne]
    exact noF_rep t e.2
theorem noFv_rep : ∀ {fs : List (String × Val)} {ws : List (Str × V)} {m : String}, RepVFs C.cA Z loc fs ws → (fs.map (·.1)).contains m = false → ws.lookup (Str.ofString m) = none
  | [], ws, m, h, e => by rw [show ws = _ from h]; rfl
  | (g, x) :: fs, ws, m, ⟨v, r, e1, q, t⟩, e => by
    subst e1
    simp only [List.map_cons, List.contains_cons, Bool.or_eq_false_iff] at e
    have hne : ((Str.ofString m) == (Str.ofString g)) = false := beq_eq_false_iff_ne.mpr fun z => by
      have := ofS_inj z
      have e1 := e.1
      rw [this] at e1
      simp at e1
    rw [List.lookup, hne]
    exact noFv_rep t e.2
theorem pt_rep {f : String} {x : Val} {v : V} (q : RepV C.cA Z loc x v) : ∀ {fs : List (String × Val)} {ws : List (Str × V)}, RepVFs C.cA Z loc fs ws → RepVFs C.cA Z loc (ptF f x fs) (putF (Str.ofString f) v ws)
  | [], ws, h => by rw [show ws = _ from h]; exact ⟨v, [], rfl, q, rfl⟩
  | (g, y) :: fs, ws, ⟨w, r, e1, q1, t⟩ => by
    subst e1
    unfold ptF putF
    by_cases hg : g = f
    · rw [if_pos hg, if_pos (by rw [hg])]
      exact ⟨v, r, rfl, q, t⟩
    · rw [if_neg hg, if_neg (fun z => hg (ofS_inj z))]
      exact ⟨w, _, rfl, q1, pt_rep q t⟩
theorem lenF : ∀ {fs : List (String × Val)} {ws : List (Str × V)}, RepVFs C.cA Z loc fs ws → fs.length = ws.length
  | [], ws, h => by rw [show ws = _ from h]; rfl
  | (g, y) :: fs, ws, ⟨w, r, e1, q1, t⟩ => by rw [e1, List.length_cons, List.length_cons, lenF t]
/-- an instance, read -/
theorem SR.ins (r : SR C Z loc s sv H) {rv : RV} {v : V} {c : String} {fl : List String} {m : String} (q : RVR C Z loc s sv H rv v) (e : insOf s rv = some (c, fl)) (hm : fl.contains m = false) : ∃ a dx ws, v = .ref a ∧ H a = some (.ins (C.cA c) dx ws) ∧ ws.lookup (Str.ofString m) = none := by
  unfold insOf at e
  split at e
  · rename_i c' fs e1
    cases e
    obtain ⟨a, dx, ws, rfl, z, q1⟩ := r.dv q e1
    exact ⟨a, dx, ws, rfl, (r.zh a _ z).at rfl, noF_rep q1 hm⟩
  · cases e
  · split at e
    · rename_i c' fs e1
      cases e
      obtain ⟨a, rfl, _, dx, ws, h1, h2⟩ := r.ob q e1
      exact ⟨a, dx, ws, rfl, h1, noFv_rep h2 hm⟩
    · cases e
/-- o.f -/
theorem v_fld {T : List (String × String)} {n : String} (F : FldF X.K C.cA T) (he : PE X e (TEx C f)) (hb : attributeBase e (Str.ofString n) X.env (eval e X.env) = eval e X.env) : PE X (.Attribute e (Str.ofString n) pos) (TEx C (fFld T n f)) := by
  refine PE_mono (pe_fld he hb) fun sv H Q ⟨Z, loc, s, r, q⟩ => ?_
  refine (TEx.evE r q).imp fun v H1 ⟨Z1, l1, s1, y, g1, r1, st1, q1, h1⟩ => ?_
  split at h1
  · rename_i c fs e1
    split at h1
    · rename_i hT
      split at h1
      · rename_i d e2
        obtain ⟨a, dx, ws, rfl, z, q2⟩ := r1.dv q1 e1
        obtain ⟨w, l, qw⟩ := lk_rep (T := T) q2 e2
        obtain ⟨f1, f2⟩ := F c n (by simpa using hT)
        exact ⟨a, C.cA c, dx, ws, w, rfl, (r1.zh a _ z).at rfl, f1, f2, l, h1.okv r1 qw⟩
      · exact h1.elim
    · exact h1.elim
  · exact h1.elim
  · split at h1
    · rename_i c fs e1
      split at h1
      · rename_i hT
        split at h1
        · rename_i x e2
          obtain ⟨a, rfl, _, dx, ws, z, q2⟩ := r1.ob q1 e1
          obtain ⟨w, l, qw⟩ := lkv_rep q2 e2
          obtain ⟨f1, f2⟩ := F c n (by simpa using hT)
          exact ⟨a, C.cA c, dx, ws, w, rfl, z, f1, f2, l, h1 Z1 l1 H1 w (Ext.refl _ _) r1 qw⟩
        · exact h1.elim
      · exact h1.elim
    · exact h1.elim
/-- o.f = v -/
theorem v_sfld {T : List (String × String)} {n : String} (F : FldF X.K C.cA T) (ho : PE X o (TEx C fo)) (hv : PE X v (TEx C fv)) (hc : notComp v = true) : PS X (.Assign [.Attribute o (Str.ofString n) pos'] v pos) (TSt C (sFldV T n fo fv)) := by
  refine PS_mono (ps_fld ho hv (swap_ok hc)) fun D sv H ⟨Z, loc, s, r, q⟩ => ?_
  refine (TEx.evS r q).imp fun x H1 ⟨Z1, l1, s1, y, g1, r1, st1, q1, h1⟩ => ?_
  refine (TEx.evS r1 h1).imp fun u H2 ⟨Z2, l2, s2, y2, g2, r2, st2, q2, h2⟩ => ?_
  have q1' := q1.mono (s' := s2) (H' := H2) g2 st1
  cases e1 : cap y s2 with
  | stuck => rw [e1] at h2; exact h2.elim
  | exc x s4 => rw [e1] at h2; exact h2.elim
  | ok z s4 =>
    rw [e1] at h2
    dsimp only at h2
    obtain ⟨Z4, g4, r4, q4⟩ := r2.cap q1' e1
    split at h2
    · rename_i c fs e5
      split at h2
      · rename_i hT
        simp only [Bool.and_eq_true, decide_eq_true_eq] at hT
        have q2' := q2.mono (s' := s4) (H' := H2) g4 st2
        obtain ⟨a, rfl, _, dx, ws, hz, qf⟩ := r4.ob q2' e5
        obtain ⟨f1, f2⟩ := F c n (by simpa using hT.1)
        refine ⟨a, C.cA c, dx, ws, rfl, hz, f1, f2, by rw [← lenF qf]; exact hT.2, ?_⟩
        have r5 := r4.write (o' := .ins c (ptF n z fs)) (u := .ins (C.cA c) dx (putF (Str.ofString n) x ws)) q2' e5 rfl (by simp) (fun x w z => by rw [hz] at z; cases z) ⟨dx, _, upd_same, pt_rep q4 qf⟩
        exact SPost.nx (SPost.ext h2 g4) r5
      · exact h2.elim
    · exact h2.elim
/-- o.m(..) -/
theorem pe_methM {M : Mode C X} {k : Nat} {f D : Addr} {fd : FuncData} {ps : List Str} {sp : Sp} {m : Str} {ta : TE} {t : TA} {pl : Sem Bool} (he : PE X o ta) (c : Cls X.K D) (hm : Meth X.K D m f) (F : FnOk X.prog X.w X.K X.mg X.base M.CX k f fd ps sp) (hr : Room k X.A) (hb : Binds X.K fd ps []) (ha : PA X (e :: es) t)
    (hst : starEach (e :: es) X.env = (false, eval e X.env) :: starEach es X.env) (hpl : (backTo pos (starEach es X.env)).any (·.1) = false)
    (ht : eval (.Call (.Attribute o m apos) (e :: es) [] pos) X.env = (do
      let ov ← eval o X.env
      standAt apos.atName
      let (f, first) ← holding [ov] (getMethod ov m pl)
      callWith pos f first (backTo pos (starEach (e :: es) X.env)) (backToKw pos (keywordEach [] X.env)))) :
    PE X (.Call (.Attribute o m apos) (e :: es) [] pos) (fun σ H Q => ta σ H fun x H1 => ∃ a dx fs, x = .ref a ∧ H1 a = some (.ins D dx fs) ∧ fs.lookup m = none ∧ t σ H1 fun vs H2 => sp (x :: vs) H2 Q (M.E σ)) := by
  refine ⟨fun pins s σ H Q I h => ?_⟩
  refine PySem.W.methodCall_KW (pl := pl) (thn (he.run pins s σ H _ I h) fun u s1 ⟨x, H1, I1, rx, a, dx, fs, ex, ea, l, q⟩ => ?_) ht
  subst ex
  obtain rfl : u = Value.ref a := rx
  refine getmeth_ok I1 ea c hm l ?_
  refine PySem.W.callWith_K (first := [.ref a]) (h₀ := X.base) I.ok.mod.kin hm.kp (thn (ha.run pos pins s1 σ H1 _ I1 q) fun us s2 ⟨vs, H2, I2, r, q2⟩ => ⟨I2.kIn, ?_⟩) hst hpl
  exact run_fnS (us := .ref a :: us) (vs := .ref a :: vs) F hr hb (M.hx σ) I2 (.cons rfl r) q2
theorem pe_methM0 {M : Mode C X} {k : Nat} {f D : Addr} {fd : FuncData} {ps : List Str} {sp : Sp} {m : Str} {ta : TE} {pl : Sem Bool} (he : PE X o ta) (c : Cls X.K D) (hm : Meth X.K D m f) (F : FnOk X.prog X.w X.K X.mg X.base M.CX k f fd ps sp) (hr : Room k X.A) (hb : Binds X.K fd ps [])
    (ht : eval (.Call (.Attribute o m apos) [] [] pos) X.env = (do
      let ov ← eval o X.env
      standAt apos.atName
      let (f, first) ← holding [ov] (getMethod ov m pl)
      callWith pos f first (backTo pos (starEach [] X.env)) (backToKw pos (keywordEach [] X.env)))) :
    PE X (.Call (.Attribute o m apos) [] [] pos) (fun σ H Q => ta σ H fun x H1 => ∃ a dx fs, x = .ref a ∧ H1 a = some (.ins D dx fs) ∧ fs.lookup m = none ∧ sp [x] H1 Q (M.E σ)) := by
  refine ⟨fun pins s σ H Q I h => ?_⟩
  refine PySem.W.methodCall_KW (pl := pl) (thn (he.run pins s σ H _ I h) fun u s1 ⟨x, H1, I1, rx, a, dx, fs, ex, ea, l, q⟩ => ?_) ht
  subst ex
  obtain rfl : u = Value.ref a := rx
  refine getmeth_ok I1 ea c hm l ?_
  exact PySem.W.callWith_K0 (first := [.ref a]) I1.kIn hm.kp (run_fnS (us := [.ref a]) (vs := [.ref a]) F hr hb (M.hx σ) I1 (.cons rfl .nil) q)
end
end Vw
namespace Vw
open PySem L2 PyProof.Rows
section
variable {C : Cst} {Z Z' Zc : Hp} {loc loc' : List Addr} {s s' : State} {sv sv' : L2.St} {H H' : Hp}
variable {X : Cx} {e a b c o v : Expr} {es : List Expr} {p p2 pos pos' apos pt : Pos} {f fa fb fc fo fi fv : State → Res RV} {fs : State → Res (List RV)}
/-- the arguments, then what follows -/
theorem TAr.atG {fs : State → Res (List RV)} {k : List RV → State → Res RV} {Q : VK} {R : List V → Hp → Prop} (r : SR C Z loc s sv H) (h : EPost C Z loc sv ((fs s).bind k) Q)
    (hq : ∀ vs H1 Z1 loc1 s1 xs, Ext Z loc Z1 loc1 → SR C Z1 loc1 s1 sv H1 → RVRs C Z1 loc1 s1 sv H1 xs vs → EPost C Z1 loc1 sv (k xs s1) Q → R vs H1) : TAr C fs sv H R := by
  refine ⟨Z, loc, s, r, ?_⟩
  cases e : fs s with
  | stuck => rw [e] at h; exact h
  | exc x s1 => rw [e] at h; exact h
  | ok xs s1 =>
    rw [e] at h
    simp only [Res.bind] at h
    exact fun Z' l' H' vs g r' q' => hq vs H' Z' l' s1 xs g r' q' (EPost.ext h g)
theorem v_mth {M : Mode C X} {k : Nat} {fA : Addr} {fd : FuncData} {ps : List Str} {cl m : String} {g : Fn} {pl : Sem Bool} (he : PE X o (TEx C fo)) (c : Cls X.K (C.cA cl)) (hm : Meth X.K (C.cA cl) (Str.ofString m) fA) (F : FnOk X.prog X.w X.K X.mg X.base M.CX k fA fd ps (spV C.cA ps.length g)) (hr : Room k X.A) (hb : Binds X.K fd ps []) (ha : PA X (e :: es) (TAr C fs))
    (hs : (e :: es).all notStar = true)
    (ht : eval (.Call (.Attribute o (Str.ofString m) apos) (e :: es) [] pos) X.env = (do
      let ov ← eval o X.env
      standAt apos.atName
      let (f, first) ← holding [ov] (getMethod ov (Str.ofString m) pl)
      callWith pos f first (backTo pos (starEach (e :: es) X.env)) (backToKw pos (keywordEach [] X.env)))) :
    PE X (.Call (.Attribute o (Str.ofString m) apos) (e :: es) [] pos) (TEx C (fMth M.call cl m ps.length fo fs g)) := by
  have hs' := hs
  simp only [List.all_cons, Bool.and_eq_true] at hs
  refine PE_mono (pe_methM (M := M) he c hm F hr hb ha (star_cons hs.1) (star_any hs.2) ht) fun sv H Q ⟨Z, loc, s, r, q⟩ => ?_
  refine (TEx.evE r q).imp fun v H1 ⟨Z1, l1, s1, y, g1, r1, st1, q1, h1⟩ => ?_
  split at h1
  · rename_i c' fl x e1
    split at h1
    · rename_i hc
      obtain ⟨a, dx, ws, rfl, hz, hl⟩ := r1.ins q1 e1 hc.2
      rw [hc.1] at hz
      refine ⟨a, dx, ws, rfl, hz, hl, TAr.atG r1 h1 fun vs H2 Z2 l2 s2 xs g2 r2 q2 h2 => ?_⟩
      have q1' : RepV C.cA Z2 l2 x (.ref a) := RepV.mono g2 x q1
      cases e2 : capAll xs s2 with
      | stuck => rw [e2] at h2; exact h2.elim
      | exc x s3 => exact absurd e2 capAll_no
      | ok args s3 =>
        rw [e2] at h2
        simp only [Res.bind] at h2
        obtain ⟨Z3, g3, r3, q3⟩ := r2.capAll q2 e2
        split at h2
        · rename_i hn
          exact M.sp (args := x :: args) r3 ⟨.ref a, vs, rfl, RepV.mono g3 x q1', q3⟩ (by simpa using hn) (EPost.ext h2 g3)
        · exact h2.elim
    · exact h1.elim
  · exact h1.elim
theorem v_mth0 {M : Mode C X} {k : Nat} {fA : Addr} {fd : FuncData} {ps : List Str} {cl m : String} {g : Fn} {pl : Sem Bool} (he : PE X o (TEx C fo)) (c : Cls X.K (C.cA cl)) (hm : Meth X.K (C.cA cl) (Str.ofString m) fA) (F : FnOk X.prog X.w X.K X.mg X.base M.CX k fA fd ps (spV C.cA ps.length g)) (hr : Room k X.A) (hb : Binds X.K fd ps [])
    (ht : eval (.Call (.Attribute o (Str.ofString m) apos) [] [] pos) X.env = (do
      let ov ← eval o X.env
      standAt apos.atName
      let (f, first) ← holding [ov] (getMethod ov (Str.ofString m) pl)
      callWith pos f first (backTo pos (starEach [] X.env)) (backToKw pos (keywordEach [] X.env)))) :
    PE X (.Call (.Attribute o (Str.ofString m) apos) [] [] pos) (TEx C (fMth M.call cl m ps.length fo (evA []) g)) := by
  refine PE_mono (pe_methM0 (M := M) he c hm F hr hb ht) fun sv H Q ⟨Z, loc, s, r, q⟩ => ?_
  refine (TEx.evE r q).imp fun v H1 ⟨Z1, l1, s1, y, g1, r1, st1, q1, h1⟩ => ?_
  split at h1
  · rename_i c' fl x e1
    split at h1
    · rename_i hc
      obtain ⟨a, dx, ws, rfl, hz, hl⟩ := r1.ins q1 e1 hc.2
      rw [hc.1] at hz
      refine ⟨a, dx, ws, rfl, hz, hl, ?_⟩
      simp only [evA, Res.bind, capAll] at h1
      split at h1
      · rename_i hn
        exact M.sp (args := [x]) r1 ⟨.ref a, [], rfl, q1, rfl⟩ (by simpa using hn) h1
      · exact h1.elim
    · exact h1.elim
  · exact h1.elim
theorem pe_makeM {M : Mode C X} {k : Nat} {f D : Addr} {fd : FuncData} {ps : List Str} {sp : Sp} {x : Str} {t : TA} (Mk' : Mk X.K D f) (F : FnOk X.prog X.w X.K X.mg X.base M.CX k f fd ps sp) (hr : Room (k + 1) X.A) (hg : Gl X x) (hm : X.mg x = some (.ref D)) (hb : Binds X.K fd ps [])
    (ha : PA X (e :: es) t) (hdb : (x == ("__debug__" : Str)) = false) (he : starEach (e :: es) X.env = (false, eval e X.env) :: starEach es X.env) (hpl : (backTo pos (starEach es X.env)).any (·.1) = false) :
    PE X (.Call (.Name x p) (e :: es) [] pos) (fun σ H Q => t σ H fun vs H1 => ∀ y dx, H1 y = none → H1 dx = none → dx ≠ y → sp (.ref y :: vs) (upd (upd H1 dx (.own y)) y (.ins D dx [])) (fun v H2 => v = .non ∧ Q (.ref y) H2) (M.E σ)) := by
  refine ⟨fun pins s σ H Q I h => ?_⟩
  refine wpAny_Call_Name_kw (ld_glob I hg hm ?_ hdb)
  refine PySem.W.callWith_K (h₀ := X.base) I.ok.mod.kin Mk'.kp (thn (ha.run pos pins s σ H _ I h) fun us s1 ⟨vs, H1, I1, r, hq⟩ => ⟨I1.kIn, ?_⟩) he hpl
  have hq1 := hq (s1.heap.objs.size + 1) s1.heap.objs.size (I1.hok.fresh (Nat.le_succ _)) (I1.hok.fresh (Nat.le_refl _)) (Nat.ne_of_lt (Nat.lt_succ_self _))
  have I2 := Inv.made (C := D) I1
  have r2 : Vals (V.ref (s1.heap.objs.size + 1) :: vs) (Value.ref (s1.heap.objs.size + 1) :: us) := .cons rfl r
  have hl : (Value.ref (s1.heap.objs.size + 1) :: us ++ []).length = ps.length := by
    have e := r2.length
    rw [F.len _ _ _ _ hq1] at e
    rw [List.append_nil]
    exact e.symm
  have hbb := hb _ (Value.ref (s1.heap.objs.size + 1) :: us) I2.kIn hl
  rw [List.append_nil] at hbb
  refine wpAny_call (make_map (f := f) I1.kIn Mk'.makes Mk'.init (beq_iff_eq.mp Mk'.fn) (codeAny_mono (F.run _ X.stack _ _ ⟨Value.ref (s1.heap.objs.size + 1) :: us, []⟩ (Value.ref (s1.heap.objs.size + 1) :: us) _ _ (M.E σ) (hr.make D us [])
    (I2.env0.make D us []) hbb r2 hq1) fun r s' hq' => ?_))
  cases r with
  | error e => exact M.hx σ pins _ _ e s' I2 hq'
  | ok fl =>
    cases fl with
    | ret u =>
      obtain ⟨v, H', I3, rv, ev, q3⟩ := I2.after hq'
      subst ev
      exact ⟨rv, ⟨V.ref (s1.heap.objs.size + 1), H', I3, rfl, q3⟩⟩
    | next => exact False.elim hq'
    | brk => exact False.elim hq'
    | cont => exact False.elim hq'
theorem pe_makeM0 {M : Mode C X} {k : Nat} {f D : Addr} {fd : FuncData} {ps : List Str} {sp : Sp} {x : Str} (Mk' : Mk X.K D f) (F : FnOk X.prog X.w X.K X.mg X.base M.CX k f fd ps sp) (hr : Room (k + 1) X.A) (hg : Gl X x) (hm : X.mg x = some (.ref D)) (hb : Binds X.K fd ps [])
    (hdb : (x == ("__debug__" : Str)) = false) :
    PE X (.Call (.Name x p) [] [] pos) (fun σ H1 Q => ∀ y dx, H1 y = none → H1 dx = none → dx ≠ y → sp [.ref y] (upd (upd H1 dx (.own y)) y (.ins D dx [])) (fun v H2 => v = .non ∧ Q (.ref y) H2) (M.E σ)) := by
  refine ⟨fun pins s1 σ H1 Q I1 hq => ?_⟩
  refine wpAny_Call_Name_kw (ld_glob I1 hg hm ?_ hdb)
  refine PySem.W.callWith_K0 I1.kIn Mk'.kp ?_
  have hq1 := hq (s1.heap.objs.size + 1) s1.heap.objs.size (I1.hok.fresh (Nat.le_succ _)) (I1.hok.fresh (Nat.le_refl _)) (Nat.ne_of_lt (Nat.lt_succ_self _))
  have I2 := Inv.made (C := D) I1
  have r2 : Vals [V.ref (s1.heap.objs.size + 1)] [Value.ref (s1.heap.objs.size + 1)] := .cons rfl .nil
  have hl : ([Value.ref (s1.heap.objs.size + 1)] ++ []).length = ps.length := by
    have e := r2.length
    rw [F.len _ _ _ _ hq1] at e
    rw [List.append_nil]
    exact e.symm
  have hbb := hb _ [Value.ref (s1.heap.objs.size + 1)] I2.kIn hl
  rw [List.append_nil] at hbb
  refine wpAny_call (make_map (f := f) I1.kIn Mk'.makes Mk'.init (beq_iff_eq.mp Mk'.fn) (codeAny_mono (F.run _ X.stack _ _ ⟨[Value.ref (s1.heap.objs.size + 1)], []⟩ [Value.ref (s1.heap.objs.size + 1)] _ _ (M.E σ) (hr.make D [] [])
    (I2.env0.make D [] []) hbb r2 hq1) fun r s' hq' => ?_))
  cases r with
  | error e => exact M.hx σ pins _ _ e s' I2 hq'
  | ok fl =>
    cases fl with
    | ret u =>
      obtain ⟨v, H', I3, rv, ev, q3⟩ := I2.after hq'
      subst ev
      exact ⟨rv, ⟨V.ref (s1.heap.objs.size + 1), H', I3, rfl, q3⟩⟩
    | next => exact False.elim hq'
    | brk => exact False.elim hq'
    | cont => exact False.elim hq'
theorem mk_sp {M : Mode C X} {cl : String} {n : Nat} {g : Fn} {args : List Val} {vs : List V} {Q : VK} (r : SR C Z loc s sv H) (q : RepVs C.cA Z loc args vs) (hn : args.length + 1 = n)
    (h : EPost C Z loc sv (mkE s.st.length (M.call g (.r s.st.length :: args) ⟨s.sg, s.st ++ [.ins cl []]⟩)) Q) :
    ∀ y dx, H y = none → H dx = none → dx ≠ y → spV C.cA n g (.ref y :: vs) (upd (upd H dx (.own y)) y (.ins (C.cA cl) dx [])) (fun v H2 => v = .non ∧ Q (.ref y) H2) (M.E sv) := by
  intro y dx hy hdx ne
  have hy' : upd H dx (.own y) y = none := by rw [upd_ne (Ne.symm ne)]; exact hy
  have r1 := (r.grow (same_upd (o := .own y) hdx)).grow (same_upd (o := .ins (C.cA cl) dx []) hy')
  have fr : Free C Z loc s sv y := r.free hy
  obtain ⟨g1, r2, q2⟩ := r1.alloc (o := .ins cl []) (by simp) ⟨dx, [], upd_same, rfl⟩ fr
  refine M.sp (args := .r s.st.length :: args) r2 ⟨.ref y, vs, rfl, q2, RepVs.mono g1 args q⟩ (by simpa using hn) ?_
  have h := EPost.ext h g1
  cases e : M.call g (.r s.st.length :: args) ⟨s.sg, s.st ++ [.ins cl []]⟩ with
  | stuck => rw [e] at h; exact h
  | exc x s2 => rw [e] at h; exact h
  | ok rv s2 =>
    rw [e] at h
    cases rv with
    | own i => exact h.elim
    | new o => exact h.elim
    | val x =>
      cases x with
      | r n => exact h.elim
      | tp l => exact h.elim
      | d d =>
        cases d with
        | non =>
          intro Z' l' H' v g' r' q'
          exact ⟨q', h Z' l' H' _ g' r' (RepV.mono g' _ q2)⟩
        | _ => exact h.elim
theorem v_mk {M : Mode C X} {k : Nat} {fA : Addr} {fd : FuncData} {ps : List Str} {cl : String} {g : Fn} (Mk' : Mk X.K (C.cA cl) fA) (F : FnOk X.prog X.w X.K X.mg X.base M.CX k fA fd ps (spV C.cA ps.length g)) (hr : Room (k + 1) X.A) (hg : Gl X (Str.ofString cl)) (hm : X.mg (Str.ofString cl) = some (.ref (C.cA cl))) (hb : Binds X.K fd ps [])
    (ha : PA X (e :: es) (TAr C fs)) (hdb : ((Str.ofString cl) == ("__debug__" : Str)) = false) (hs : (e :: es).all notStar = true) : PE X (.Call (.Name (Str.ofString cl) p) (e :: es) [] pos) (TEx C (fMk M.call cl ps.length fs g)) := by
  have hs' := hs
  simp only [List.all_cons, Bool.and_eq_true] at hs
  refine PE_mono (pe_makeM (M := M) Mk' F hr hg hm hb ha hdb (star_cons hs.1) (star_any hs.2)) fun sv H Q h => (TAr.at h).imp fun vs H1 ⟨Z, loc, s, xs, r, q, h⟩ => ?_
  cases e1 : capAll xs s with
  | stuck => rw [e1] at h; exact h.elim
  | exc x s1 => exact absurd e1 capAll_no
  | ok args s1 =>
    rw [e1] at h
    simp only [Res.bind] at h
    obtain ⟨Z1, g1, r1, q1⟩ := r.capAll q e1
    split at h
    · rename_i hn
      exact mk_sp (M := M) r1 q1 hn (EPost.ext h g1)
    · exact h.elim
theorem v_mk0 {M : Mode C X} {k : Nat} {fA : Addr} {fd : FuncData} {ps : List Str} {cl : String} {g : Fn} (Mk' : Mk X.K (C.cA cl) fA) (F : FnOk X.prog X.w X.K X.mg X.base M.CX k fA fd ps (spV C.cA ps.length g)) (hr : Room (k + 1) X.A) (hg : Gl X (Str.ofString cl)) (hm : X.mg (Str.ofString cl) = some (.ref (C.cA cl))) (hb : Binds X.K fd ps [])
    (hdb : ((Str.ofString cl) == ("__debug__" : Str)) = false) : PE X (.Call (.Name (Str.ofString cl) p) [] [] pos) (TEx C (fMk M.call cl ps.length (evA []) g)) := by
  refine PE_mono (pe_makeM0 (M := M) Mk' F hr hg hm hb hdb) fun sv H Q ⟨Z, loc, s, r, h⟩ => ?_
  unfold fMk at h
  simp only [evA, Res.bind, capAll] at h
  split at h
  · rename_i hn
    exact mk_sp (M := M) (args := []) (vs := []) r rfl hn h
  · exact h.elim
/-- o.f += v -/
theorem v_flda {T : List (String × String)} {n : String} (op : Bop) (F : FldF X.K C.cA T) (ho : PE X o (TEx C fo)) (hv : PE X v (TEx C fv)) : PS X (.AugAssign (.Attribute o (Str.ofString n) pos') op.py v pos) (TSt C (sFldA T n op fo fv)) := by
  cases ha : augf op with
  | none =>
    refine PS_mono ps_never fun D sv H ⟨Z, loc, s, r, q⟩ => ?_
    unfold sFldA at q
    rw [ha] at q
    exact q.elim
  | some g =>
    have hp : InOp X op.py (ipI g) := by
      cases op <;> simp [augf] at ha
      · subst ha; exact ip_add
      · subst ha; exact ip_sub
    refine PS_mono (ps_fldaug ho hv hp) fun D sv H ⟨Z, loc, s, r, q⟩ => ?_
    unfold sFldA at q
    rw [ha] at q
    refine (TEx.evS r q).imp fun u H1 ⟨Z1, l1, s1, y, g1, r1, st1, q1, h1⟩ => ?_
    split at h1
    · rename_i c fs e2
      split at h1
      · rename_i hT
        simp only [Bool.and_eq_true, decide_eq_true_eq] at hT
        split at h1
        · rename_i a e3
          obtain ⟨ad, rfl, _, dx, ws, hz, qf⟩ := r1.ob q1 e2
          obtain ⟨f1, f2⟩ := F c n (by simpa using hT.1)
          obtain ⟨w, l, qw⟩ := lkv_rep qf e3
          refine ⟨ad, C.cA c, dx, ws, w, rfl, hz, f1, f2, l, (TEx.evS r1 h1).imp fun b H2 ⟨Z2, l2, s2, y2, g2, r2, st2, q2, h2⟩ => ?_⟩
          have q1' := q1.mono (s' := s2) (H' := H2) g2 st1
          split at h2
          · rename_i bi c' fs' e4 e5
            split at h2
            · rename_i hc
              obtain ⟨ad', h3, _, dx', ws', hz', qf'⟩ := r2.ob q1' e5
              cases h3
              refine ⟨a, bi, qw, r2.dv q2 e4, dx', ws', ?_, by rw [← lenF qf']; exact hc.2, ?_⟩
              · rw [← hc.1]; exact hz'
              · have r5 := r2.write (o' := .ins c (ptF n (.d (.int (g a bi))) fs')) (u := .ins (C.cA c) dx' (putF (Str.ofString n) (.int (g a bi)) ws')) q1' e5 rfl (by simp) (fun x w z => by rw [hz'] at z; cases z) ⟨dx', _, upd_same, pt_rep (x := .d (.int (g a bi))) rfl qf'⟩
                exact SPost.nx h2 r5
            · exact h2.elim
          · exact h2.elim
        · exact h1.elim
      · exact h1.elim
    · exact h1.elim
end
end Vw
namespace Vw
open PySem L2 PyProof.Rows
section
variable {C : Cst} {X : Cx} {e a b c o v : Expr} {es : List Expr} {p p2 pos pos' apos pt : Pos} {f fa fb fc fo fi fv : State → Res RV} {fs : State → Res (List RV)} {cA : String → Addr}
theorem x_mth {k n : Nat} {fA : Addr} {fd : FuncData} {ps : List Str} {cl m : String} {g : Fn} {pl : Sem Bool} (hC : C.cA = cA) (M : Mode C X) (c : Cls X.K (cA cl)) (hm : Meth X.K (cA cl) (Str.ofString m) fA) (F : FnOk X.prog X.w X.K X.mg X.base M.CX k fA fd ps (spV cA n g)) (hr : Room k X.A) (hb : Binds X.K fd ps []) (hn : ps.length = n) (he : PE X o (TEx C fo)) (ha : PA X (e :: es) (TAr C fs))
    (hs : (e :: es).all notStar = true)
    (ht : eval (.Call (.Attribute o (Str.ofString m) apos) (e :: es) [] pos) X.env = (do
      let ov ← eval o X.env
      standAt apos.atName
      let (f, first) ← holding [ov] (getMethod ov (Str.ofString m) pl)
      callWith pos f first (backTo pos (starEach (e :: es) X.env)) (backToKw pos (keywordEach [] X.env)))) :
    PE X (.Call (.Attribute o (Str.ofString m) apos) (e :: es) [] pos) (TEx C (fMth M.call cl m n fo fs g)) := by
  subst hC hn
  exact v_mth he c hm F hr hb ha hs ht
theorem x_mth0 {k n : Nat} {fA : Addr} {fd : FuncData} {ps : List Str} {cl m : String} {g : Fn} {pl : Sem Bool} (hC : C.cA = cA) (M : Mode C X) (c : Cls X.K (cA cl)) (hm : Meth X.K (cA cl) (Str.ofString m) fA) (F : FnOk X.prog X.w X.K X.mg X.base M.CX k fA fd ps (spV cA n g)) (hr : Room k X.A) (hb : Binds X.K fd ps []) (hn : ps.length = n) (he : PE X o (TEx C fo))
    (ht : eval (.Call (.Attribute o (Str.ofString m) apos) [] [] pos) X.env = (do
      let ov ← eval o X.env
      standAt apos.atName
      let (f, first) ← holding [ov] (getMethod ov (Str.ofString m) pl)
      callWith pos f first (backTo pos (starEach [] X.env)) (backToKw pos (keywordEach [] X.env)))) :
    PE X (.Call (.Attribute o (Str.ofString m) apos) [] [] pos) (TEx C (fMth M.call cl m n fo (evA []) g)) := by
  subst hC hn
  exact v_mth0 he c hm F hr hb ht
theorem x_mk {k n : Nat} {fA : Addr} {fd : FuncData} {ps : List Str} {cl : String} {g : Fn} (hC : C.cA = cA) (M : Mode C X) (Mk' : Mk X.K (cA cl) fA) (F : FnOk X.prog X.w X.K X.mg X.base M.CX k fA fd ps (spV cA n g)) (hr : Room (k + 1) X.A) (hg : Gl X (Str.ofString cl)) (hm : X.mg (Str.ofString cl) = some (.ref (cA cl))) (hb : Binds X.K fd ps []) (hn : ps.length = n)
    (ha : PA X (e :: es) (TAr C fs)) (hdb : ((Str.ofString cl) == ("__debug__" : Str)) = false) (hs : (e :: es).all notStar = true) : PE X (.Call (.Name (Str.ofString cl) p) (e :: es) [] pos) (TEx C (fMk M.call cl n fs g)) := by
  subst hC hn
  exact v_mk Mk' F hr hg hm hb ha hdb hs
theorem x_mk0 {k n : Nat} {fA : Addr} {fd : FuncData} {ps : List Str} {cl : String} {g : Fn} (hC : C.cA = cA) (M : Mode C X) (Mk' : Mk X.K (cA cl) fA) (F : FnOk X.prog X.w X.K X.mg X.base M.CX k fA fd ps (spV cA n g)) (hr : Room (k + 1) X.A) (hg : Gl X (Str.ofString cl)) (hm : X.mg (Str.ofString cl) = some (.ref (cA cl))) (hb : Binds X.K fd ps []) (hn : ps.length = n)
    (hdb : ((Str.ofString cl) == ("__debug__" : Str)) = false) : PE X (.Call (.Name (Str.ofString cl) p) [] [] pos) (TEx C (fMk M.call cl n (evA []) g)) := by
  subst hC hn
  exact v_mk0 Mk' F hr hg hm hb hdb
theorem x_fld {T : List (String × String)} {n : String} (hC : C.cA = cA) (F : FldF X.K cA T) (he : PE X e (TEx C f)) (hb : attributeBase e (Str.ofString n) X.env (eval e X.env) = eval e X.env) : PE X (.Attribute e (Str.ofString n) pos) (TEx C (fFld T n f)) := by
  subst hC
  exact v_fld F he hb
theorem x_sfld {T : List (String × String)} {n : String} (hC : C.cA = cA) (F : FldF X.K cA T) (ho : PE X o (TEx C fo)) (hv : PE X v (TEx C fv)) (hc : notComp v = true) : PS X (.Assign [.Attribute o (Str.ofString n) pos'] v pos) (TSt C (sFldV T n fo fv)) := by
  subst hC
  exact v_sfld F ho hv hc
theorem x_flda_add {T : List (String × String)} {n : String} (hC : C.cA = cA) (F : FldF X.K cA T) (ho : PE X o (TEx C fo)) (hv : PE X v (TEx C fv)) : PS X (.AugAssign (.Attribute o (Str.ofString n) pos') .Add v pos) (TSt C (sFldA T n .add fo fv)) := by
  subst hC
  exact v_flda .add F ho hv
/-- f(..), in a way of its own -/
theorem x_callM {k n : Nat} {fA : Addr} {fd : FuncData} {ps : List Str} {x : Str} {g : Fn} (hC : C.cA = cA) (F : FnOk X.prog X.w X.K X.mg X.base (L2.CX X.prog X.w) k fA fd ps (spV cA n g)) (hr : Room k X.A) (hg : Gl X x) (hm : X.mg x = some (.ref fA)) (hk : PySem.W.keepIn X.K (.ref fA) = true)
    (hb : Binds X.K fd ps []) (hn : ps.length = n) (ha : PA X (e :: es) (TAr C fs)) (hdb : (x == ("__debug__" : Str)) = false) (hs : (e :: es).all notStar = true) :
    PE X (.Call (.Name x p) (e :: es) [] pos) (TEx C (fCall n fs g)) := by
  subst hC hn
  exact v_call F hr hg hm hk hb L2.passL ha hdb hs
end
abbrev AlW : Type := He.AlD × Bool
def obsW (ex : PySem.W.Frag → Bool) (n : Nat) (fa : List He.Fa) (fn : List He.DefD) (g : Addr → Option Obj) : AlW := (He.obsDG n fa fn g, noLst (He.frG g (He.asD g n)) && ex (He.frG g (He.asD g n)))
def hookW (ex : PySem.W.Frag → Bool) (n : Nat) (fa : List He.Fa) (fn : List He.DefD) : PySem.W.Hook where
  α := AlW
  obs := fun s => obsW ex n fa fn s.heap.get?
  val := fun _ => (He.valD fn, true)
  says := fun _ h => ∃ K : PySem.W.Frag, K.In h ∧ He.SaysD fa fn K ∧ noLst K = true ∧ ex K = true
  of := fun _ _ e => ⟨_, He.frG_in, congrArg (fun z : AlW => z.1) e, Bool.and_eq_true_iff.mp (congrArg (fun z : AlW => z.2) e)⟩
  keeps := fun _ _ _ ⟨K, hK, c⟩ k => ⟨K, PySem.W.Frag.In.keeps hK k, c⟩
theorem obsW_eq {ex : PySem.W.Frag → Bool} {n : Nat} {fa : List He.Fa} {fn : List He.DefD} {g : Addr → Option Obj} {s : Shared} (h : ∀ a, g a = s.heap.get? a) : obsW ex n fa fn g = (hookW ex n fa fn).obs s := by
  have e : g = s.heap.get? := funext h
  rw [e] <;> rfl
/-- the classes' addresses by their names -/
def gaS (K : PySem.W.Frag) (x : String) : Addr := He.ga K (Str.ofString x)
def emB (K : PySem.W.Frag) (N : List String) (T : String) : Bool := N.all fun c => match isub N c T with
  | some b => decide (PySem.W.exmOne K (.ref (gaS K c)) (.ref (gaS K T)) = some b)
  | none => true
theorem isub_mem {N : List String} {c T : String} {b : Bool} (h : isub N c T = some b) : c ∈ N := by
  unfold isub at h
  split at h
  · rename_i hc; simpa using hc
  · cases h
theorem emB_ok {K : PySem.W.Frag} {N : List String} {T : String} (h : emB K N T = true) : EM N K (gaS K) T (.ref (gaS K T)) := fun c b e => by
  have := List.all_eq_true.mp h c (isub_mem e)
  rw [e] at this
  exact of_decide_eq_true this
def excB (K : PySem.W.Frag) (D : Addr) : Bool :=
  decide (PySem.W.findIn K (.ref D) "__getattribute__" = some (some (.builtin "BaseException.__getattribute__"))) && (decide (PySem.W.findIn K (.ref D) "__getattr__" = some none) && (decide (PySem.W.subIn K (.ref D) (.type "BaseException") = some true) && (PySem.W.hasDictIn K D &&
  (decide (PySem.W.findIn K (.ref D) "__class__" = some (some (.builtin "object.__class__"))) && (decide (PySem.W.specialIn K (.builtin "object.__class__") "__get__" = some (some (.builtin "getset_descriptor.__get__"))) && (decide (PySem.W.takesIn K (.builtin "object.__class__") = some true) && decide (PySem.W.mroIn K D (.type "object") = some true)))))))
theorem excB_ok {K : PySem.W.Frag} {D : Addr} (h : excB K D = true) : ExcC K D := by
  obtain ⟨h1, h⟩ := Bool.and_eq_true_iff.mp h
  obtain ⟨h2, h⟩ := Bool.and_eq_true_iff.mp h
  obtain ⟨h3, h⟩ := Bool.and_eq_true_iff.mp h
  obtain ⟨h4, h⟩ := Bool.and_eq_true_iff.mp h
  obtain ⟨h5, h⟩ := Bool.and_eq_true_iff.mp h
  obtain ⟨h6, h⟩ := Bool.and_eq_true_iff.mp h
  obtain ⟨h7, h8⟩ := Bool.and_eq_true_iff.mp h
  exact ⟨of_decide_eq_true h1, of_decide_eq_true h2, of_decide_eq_true h3, h4, of_decide_eq_true h5, of_decide_eq_true h6, of_decide_eq_true h7, of_decide_eq_true h8⟩
def clV (K : PySem.W.Frag) (T : String) : Value := if T = "ValueError" then .type "ValueError" else .ref (gaS K T)
def ekB (K : PySem.W.Frag) (N : List String) (T : String) : Bool := decide (PySem.W.kitOne K (.type "NoneType") (clV K T) = some false) && N.all fun c => match isub N c T with
  | some b => excB K (gaS K c) && decide (PySem.W.kitOne K (.ref (gaS K c)) (clV K T) = some b)
  | none => true
theorem ekB_ok {K : PySem.W.Frag} {N : List String} {T : String} (h : ekB K N T = true) : ExK N K (gaS K) T (clV K T) := by
  obtain ⟨h1, h2⟩ := Bool.and_eq_true_iff.mp h
  refine ⟨fun c b e => ?_, of_decide_eq_true h1⟩
  have := List.all_eq_true.mp h2 c (isub_mem e)
  rw [e] at this
  obtain ⟨q1, q2⟩ := Bool.and_eq_true_iff.mp this
  exact ⟨excB_ok q1, of_decide_eq_true q2⟩
def plB (K : PySem.W.Frag) (N : List String) : Bool := N.all fun c => xfB K (gaS K c) && decide (PySem.W.findIn K (.ref (gaS K c)) "place" = some none)
theorem plB_ok {K : PySem.W.Frag} {N : List String} (h : plB K N = true) : PlF N K (gaS K) := fun c hc => by
  obtain ⟨q1, q2⟩ := Bool.and_eq_true_iff.mp (List.all_eq_true.mp h c hc)
  exact ⟨xfB_ok q1, of_decide_eq_true q2⟩
def fldB (K : PySem.W.Frag) (T : List (String × String)) : Bool := T.all fun p => (He.Fa.cls (Str.ofString p.1)).ok K && decide (PySem.W.findIn K (.ref (gaS K p.1)) (Str.ofString p.2) = some none)
theorem fldB_ok {K : PySem.W.Frag} {T : List (String × String)} (h : fldB K T = true) : FldF K (gaS K) T := fun c f hc => by
  obtain ⟨q1, q2⟩ := Bool.and_eq_true_iff.mp (List.all_eq_true.mp h (c, f) hc)
  have q3 := of_decide_eq_true q2
  exact ⟨He.cls_ok q1, q3⟩
def oexB (K : PySem.W.Frag) (C : Addr) : Bool := (match K.lookup C with
    | some ⟨.type "type", _, .cls cd, sl⟩ => (match cd.mro, sl.toList with
      | .ref C' :: bm, [_, _, _, _, some (.builtin n), _] => C' == C && n == "ValueError.__new__" && !cd.hasDel && PySem.HandSPX.refsVE bm && cd.hasDict
      | _, _ => false)
    | _ => false) && (decide (PySem.W.findIn K (.ref C) "__setattr__" = some (some (.builtin "object.__setattr__"))) && (decide (PySem.W.subIn K (.ref C) (.type "BaseException") = some true) && (decide (PySem.W.typeIn K (.ref C) = some (.type "type")) && PySem.W.keepIn K (.ref C))))
theorem oexB_ok {K : PySem.W.Frag} {C : Addr} (h : oexB K C = true) : OexC K C := by
  unfold oexB at h
  obtain ⟨h1, h⟩ := Bool.and_eq_true_iff.mp h
  obtain ⟨h2, h⟩ := Bool.and_eq_true_iff.mp h
  obtain ⟨h3, h⟩ := Bool.and_eq_true_iff.mp h
  obtain ⟨h4, h5⟩ := Bool.and_eq_true_iff.mp h
  refine ⟨?_, of_decide_eq_true h2, of_decide_eq_true h3, of_decide_eq_true h4, h5⟩
  split at h1
  · rename_i dd cd sl ho
    split at h1
    · rename_i C' bm k0 k1 k2 k3 n k5 hm hs
      simp only [Bool.and_eq_true, beq_iff_eq, Bool.not_eq_true'] at h1
      obtain ⟨⟨⟨⟨rfl, rfl⟩, hdel⟩, hv⟩, hd⟩ := h1
      obtain ⟨nm, bs, mro, ns, qn, hdd, sn, sub, ab, col, del⟩ := cd
      dsimp only at hm hdel hd
      subst hm hdel hd
      have hsl : sl = #[k0, k1, k2, k3, some (.builtin "ValueError.__new__"), k5] := by
        obtain ⟨l⟩ := sl
        simp only at hs
        rw [hs]
      subst hsl
      exact ⟨nm, qn, ns, bs, bm, sn, sub, ab, col, dd, k0, k1, k2, k3, k5, ho, hv⟩
    · cases h1
  · cases h1
def oiB (K : PySem.W.Frag) (x : String) : Bool := oexB K (gaS K x) && (decide (PySem.W.findIn K (.ref (gaS K x)) "place" = some none) && (decide (PySem.W.findIn K (.ref (gaS K x)) "__init__" = some (some (.ref (He.ma K (gaS K x) "__init__")))) && decide (PySem.W.typeIn K (.ref (He.ma K (gaS K x) "__init__")) = some (.type "function"))))
def exfB (K : PySem.W.Frag) (x : String) : Bool := (He.Fa.exc (Str.ofString x)).ok K
theorem exfB_ok {K : PySem.W.Frag} {x : String} (h : exfB K x = true) : ExF K (gaS K x) := by
  obtain ⟨a, b, c, d⟩ := He.exc_ok h
  exact ⟨a, b, c, d⟩
end Vw
namespace L2
open PySem PySem.Spec PyProof.Rows
section
variable {X : Cx}
/-- a list, perhaps locked, times an int -/
def rRepD : R2 := fun x y H Q => ∃ l k xs, x = .ref l ∧ y = .int k ∧ Rd H l (.lst xs) ∧ -(2 ^ 63) ≤ k ∧ k < 2 ^ 63 ∧ xs.length * k.toNat ≤ sizeLine ∧
  ∀ p, H p = none → Q (.ref p) (upd H p (.lst (List.replicate k.toNat xs).flatten))
theorem op_repD : OpR X (binaryOp .Mult) rRepD := by
  intro pins s σ H x y v u Q I rx ry h
  obtain ⟨l, k, xs, rfl, rfl, hH, h1, h2, hz, q⟩ := h
  cases rx
  obtain ⟨t, rfl⟩ := ry
  obtain ⟨z, its, n, r, e⟩ := hH.ok I.hok
  have hl := r.length
  have hlen : its.toArray.size * k.toNat ≤ sizeLine := by rw [List.size_toArray, ← hl]; exact hz
  have hcap : ¬ its.toArray.size * k.toNat > (2 ^ 63 - 1) / 8 := by
    have : (sizeLine : Nat) ≤ (2 ^ 63 - 1) / 8 := by decide
    omega
  have hfit : ¬ (!Builtin.List.listFitsIndex k) = true := by
    rw [fitsIndex_both h1 h2]
    exact Bool.false_ne_true
  have hlong : ¬ Builtin.List.listTooLong (its.toArray.size * k.toNat) = true := by
    rw [notLongL hlen]
    exact Bool.false_ne_true
  have hnew : List.foldl (fun x1 x2 => x1 ++ x2) #[] (List.replicate (if its.toArray.isEmpty = true then 0 else k.toNat) its.toArray) = (List.replicate k.toNat its).flatten.toArray := by
    have f0 : ∀ m : Nat, List.foldl (fun x1 x2 => x1 ++ x2) #[] (List.replicate m its.toArray) = (List.replicate m its).flatten.toArray := fun m => by
      have := foldl_rep its m []
      rw [List.nil_append] at this
      exact this
    rw [f0]
    cases its with
    | nil => simp
    | cons a r' => rw [if_neg (by simp)]
  refine wpAny_binaryOp_repeat_ref (T := "list") (U := "int") (by decide) ⟨_, e, rfl⟩ (fun s' => typeIs_int s' k t) noFill_list_mul F.fills_int_mul F.slot_int_rmul repeat_list F.slot_int_index.lookup
    (call_meets F.slot_int_rmul (typeIs_int s k t) F.entry_int_rmul (F.args_int_rmul_2 _ _) (int___rmul___int_list k t l its.toArray n)
      ⟨e, rfl, ⟨_, e, rfl⟩, call_meets F.slot_list_mul ⟨_, e, rfl⟩ F.entry_list_mul (F.args_list_mul_2 _ _) (AutoListH.list___mul___list_int_3 l its.toArray n k t hfit hcap hlong) ⟨e, ?_⟩⟩)
  rw [hnew]
  exact ⟨.ref _, _, I.lnew (t' := s.toks) (r.rep k.toNat) (by rw [PyProof.Rows.lm_len_rep_flat, Nat.mul_comm]; exact hz), rfl, q _ I.fresh⟩
/-- x[::-1], a list or a text -/
def tRevA (K : PySem.W.Frag) (te : TE) : TE := fun σ H Q => te σ H fun x H1 => (∃ a xs, x = .ref a ∧ SqL K H1 a xs ∧ ∀ p, H1 p = none → Q (.ref p) (upd H1 p (.lst xs.reverse))) ∨ (∃ z : Str, x = .str z ∧ z.length ≤ sizeLine ∧ Q (.str ⟨z.cps.toList.reverse.toArray⟩) H1)
theorem slice_rev (z : Str) : (Builtin.Str.strSliceIndices none none (-1) z.length).filterMap (z.cps[·]?) = z.cps.toList.reverse := by
  have e : Builtin.Str.strSliceIndices none none (-1) z.length = sliceRange ((z.length : Int) - 1) (-1) (-1) := rfl
  rw [e, PySem.W.krv_sliceRange, PySem.W.krv_range, List.filterMap_reverse]
  have := PySem.W.krv_all z.cps
  rw [show z.length = z.cps.size from rfl, this]
theorem pe_revA {e : Expr} {te : TE} {k : Nat} {p1 p2 p3 pos : Pos} (he : PE X e te) : PE X (.Subscript e (.Slice none none (some (.UnaryOp .USub (.Constant (.int 1) k p1) p2)) p3) pos) (tRevA X.K te) := by
  refine ⟨fun pins s σ H Q I h => ?_⟩
  refine Subscript_ (thn (he.run pins s σ H _ I h) fun v s1 ⟨x, H1, I1, r1, q1⟩ => ?_)
  have hst : PO X (some (.UnaryOp .USub (.Constant (.int 1) k p1) p2)) (tPart (tUn (rU fun i => .int (-i)) (tC (.int 1)))) := po_some (pe_un un_neg pe_int)
  refine wpAny_Slice (thn (po_none.run pins s1 σ H1 (fun o H2 => o = none ∧ H2 = H1) I1 ⟨rfl, rfl⟩) fun vl s2 ⟨l, H2, I2, pl, el, e2⟩ => ?_)
  subst el e2
  refine thn (po_none.run pins s2 σ H2 (fun o H3 => o = none ∧ H3 = H2) I2 ⟨rfl, rfl⟩) fun vu s3 ⟨u, H3, I3, pu, eu, e3⟩ => ?_
  subst eu e3
  refine thn (hst.run pins s3 σ H3 (fun o H4 => o = some (-1) ∧ H4 = H3) I3 ⟨1, rfl, -1, rfl, rfl, rfl⟩) fun vs s4 ⟨o, H4, I4, ps, eo, e4⟩ => ?_
  subst eo e4
  have I5 : Inv X pins σ H4 { s4 with heap := s4.heap.push { cls := .type "slice", data := .fields #[vl, vu, vs] } } := I4.kept (t' := s4.toks) fun b ob q => Heap.get?_push_of_some _ q
  rcases q1 with ⟨a, xs, ex, hx, q⟩ | ⟨z, ex, hz, q⟩
  · subst ex
    cases r1
    obtain ⟨its, r, ht, hz⟩ := I5.list hx
    have hlen := r.length
    show wpAny (model X.prog X.w) X.A (subscriptTail e (.Slice none none (some (.UnaryOp .USub (.Constant (.int 1) k p1) p2)) p3) (.ref a) (.ref s4.heap.objs.size)) (EP X pins σ Q) X.xe { s4 with heap := s4.heap.push { cls := .type "slice", data := .fields #[vl, vu, vs] } }
    refine tail_any (ops := [.ref a, .ref s4.heap.objs.size]) ht.isList.typeIs (PySem.slot_list_getitem.lookup) ?_ (by with_unfolding_all rfl)
    refine wpAny_getItem_list_slice ht.isList (Heap.IsSliceOf.new _ vl vu vs) pl pu ps (by decide) ?_ (by rw [List.size_toArray]; omega)
    rw [PySem.W.krv_pick]
    refine ⟨.ref _, _, I5.laid (t' := s4.toks) (o := .lst xs.reverse) (fun b ob q => Heap.get?_push_of_some _ q) (Nat.le_refl _) ?_, rfl, q _ (I5.hok.fresh (Nat.le_refl _))⟩
    exact ⟨by rw [List.length_reverse]; exact hz, _, 0, r.reverse, Heap.get?_push_size _ rfl⟩
  · subst ex
    obtain ⟨t, rfl⟩ := r1
    obtain ⟨l, rfl, hl⟩ := IsPart.raw pl
    obtain ⟨u, rfl, hu⟩ := IsPart.raw pu
    obtain ⟨w, rfl, hw⟩ := IsPart.raw ps
    have hl0 : l = none := by cases l <;> simp at hl ⊢
    have hu0 : u = none := by cases u <;> simp at hu ⊢
    subst hl0 hu0
    show wpAny (model X.prog X.w) X.A (subscriptTail e (.Slice none none (some (.UnaryOp .USub (.Constant (.int 1) k p1) p2)) p3) (.str z t) (.ref s4.heap.objs.size)) (EP X pins σ Q) X.xe { s4 with heap := s4.heap.push { cls := .type "slice", data := .fields #[_, _, _] } }
    refine tail_any (ops := [.str z t, .ref s4.heap.objs.size]) (typeIs_str _ _ _) (F.slot_str_getitem.lookup) ?_ (by with_unfolding_all rfl)
    refine wpAny_getItem_str_slice (l := none) (u := none) (st := w) ⟨_, Heap.get?_push_size _ rfl, rfl, rfl⟩ (by rw [hw]; decide) ?_
    unfold sliceMade slicePicked
    rw [hw]
    show Made.post (if ((-1 : Int) == 1 && _) = true then _ else Made.str ⟨((Builtin.Str.strSliceIndices none none (-1) z.length).filterMap (z.cps[·]?)).toArray⟩) _ _
    rw [if_neg (by simp), slice_rev]
    have hzl : (⟨z.cps.toList.reverse.toArray⟩ : Str).length ≤ sizeLine := by
      show (z.cps.toList.reverse.toArray).size ≤ sizeLine
      rw [List.size_toArray, List.length_reverse]
      exact hz
    exact ⟨hzl, .str _, _, I5.tok _, ⟨_, rfl⟩, q⟩
end
end L2
namespace Vw
open PySem L2 PyProof.Rows
/-- fs, so many times -/
def bRep (x y : RV) (s : State) : Res RV :=
  match lv s x, dv s y with
  | some l, some (.int k) => if -(2 ^ 63) ≤ k ∧ k < 2 ^ 63 ∧ l.length * k.toNat ≤ sizeLine then .ok (.new (.lst (List.replicate k.toNat l).flatten)) s else .stuck
  | _, _ => .stuck
def bIsB (x y : RV) (s : State) : Res RV :=
  match dv s x, dv s y with
  | some (.bl a), some (.bl b) => okv (.bl (decide (a = b))) s
  | _, _ => .stuck
def bIsnB (x y : RV) (s : State) : Res RV :=
  match dv s x, dv s y with
  | some (.bl a), some (.bl b) => okv (.bl (!decide (a = b))) s
  | _, _ => .stuck
def fRevS (f : State → Res RV) (s : State) : Res RV := (ev f s).bind fun r s =>
  match dv s r with
  | some (.str t) => if t.length ≤ sizeLine then okv (.str t.reverse) s else .stuck
  | _ => match lv s r with
    | some l => .ok (.new (.lst l.reverse)) s
    | none => .stuck
section
variable {C : Cst} {Z Z' Zc : Hp} {loc loc' : List Addr} {s s' : State} {sv sv' : L2.St} {H H' : Hp}
variable {X : Cx} {e a b c o v : Expr} {es : List Expr} {p p2 pos pos' apos pt : Pos} {f fa fb fc fo fi fv : State → Res RV} {fs : State → Res (List RV)} {cA : String → Addr}
theorem repVs_rep {l : List Val} {xs : List V} (h : RepVs C.cA Z loc l xs) : ∀ n : Nat, RepVs C.cA Z loc (List.replicate n l).flatten (List.replicate n xs).flatten
  | 0 => rfl
  | n + 1 => by
    rw [List.replicate_succ, List.replicate_succ, List.flatten_cons, List.flatten_cons]
    exact repVs_app h (repVs_rep h n)
theorem bRep_ok : OpS C bRep rRepD := by
  intro Z loc s sv H x y u v Q r hx hy h
  unfold bRep at h
  split at h
  · rename_i l k e1 e2
    split at h
    · rename_i hc
      obtain ⟨a, xs, rfl, h1, h2⟩ := r.lv hx e1
      have hk := r.dv hy e2
      refine ⟨a, k, xs, rfl, hk, h1, hc.1, hc.2.1, by rw [← repVs_len h2]; exact hc.2.2, fun p np => h.new r np (by simp) ⟨_, upd_same, repVs_rep h2 _⟩⟩
    · exact h.elim
  · exact h.elim
theorem x_rep (ha : PE X a (TEx C fa)) (hb : PE X b (TEx C fb)) : PE X (.BinOp a .Mult b pos) (TEx C (ev2 fa fb bRep)) := PE_mono (pe_op op_repD ha hb) fun sv H Q h => core2 bRep_ok h
theorem isB_ok : OpS C bIsB rIsB := by
  intro Z loc s sv H x y u v Q r hx hy h
  unfold bIsB at h
  split at h
  · rename_i a b e1 e2
    exact ⟨a, b, r.dv hx e1, r.dv hy e2, h.okv r rfl⟩
  · exact h.elim
theorem isnB_ok : OpS C bIsnB rNotB := by
  intro Z loc s sv H x y u v Q r hx hy h
  unfold bIsnB at h
  split at h
  · rename_i a b e1 e2
    exact ⟨a, b, r.dv hx e1, r.dv hy e2, h.okv r rfl⟩
  · exact h.elim
theorem x_isB (ha : PE X a (TEx C fa)) (hb : PE X b (TEx C fb)) (hm : notSet b = true := by rfl) : PE X (.Compare a [.Is] [b] pos) (TEx C (ev2 fa fb bIsB)) := PE_mono (pe_cmpR op_isBl ha hb (marks_ok hm)) fun sv H Q h => core2 isB_ok h
theorem x_isnB (ha : PE X a (TEx C fa)) (hb : PE X b (TEx C fb)) (hm : notSet b = true := by rfl) : PE X (.Compare a [.IsNot] [b] pos) (TEx C (ev2 fa fb bIsnB)) := PE_mono (pe_cmpR op_notBl ha hb (marks_ok hm)) fun sv H Q h => core2 isnB_ok h
theorem xt_isB (ha : PE X a (TEx C fa)) (hb : PE X b (TEx C fb)) (hm : notSet b = true := by rfl) : PT X (.Compare a [.Is] [b] pos) (TBx C (evB (ev2 fa fb bIsB))) := PT_mono (pt_cmpR op_isBl ha hb (marks_ok hm)) fun sv H Q q => core2 isB_ok (toB q)
theorem xt_isnB (ha : PE X a (TEx C fa)) (hb : PE X b (TEx C fb)) (hm : notSet b = true := by rfl) : PT X (.Compare a [.IsNot] [b] pos) (TBx C (evB (ev2 fa fb bIsnB))) := PT_mono (pt_cmpR op_notBl ha hb (marks_ok hm)) fun sv H Q q => core2 isnB_ok (toB q)
theorem x_revs {k : Nat} {p1 p2 p3 : Pos} (he : PE X e (TEx C f)) (hs : True) : PE X (.Subscript e (.Slice none none (some (.UnaryOp .USub (.Constant (.int 1) k p1) p2)) p3) pos) (TEx C (fRevS f)) := by
  refine PE_mono (pe_revA he) fun sv H Q ⟨Z, loc, s, r, q⟩ => ?_
  refine (TEx.evE r q).imp fun v H1 ⟨Z1, l1, s1, y, g1, r1, st1, q1, h1⟩ => ?_
  split at h1
  · rename_i t e1
    split at h1
    · rename_i hz
      have qv := r1.dv q1 e1
      refine .inr ⟨_, qv, by simpa [Str.length] using hz, ?_⟩
      refine h1.okv r1 ?_
      show V.str _ = V.str _
      simp
    · exact h1.elim
  · split at h1
    · rename_i l e1
      obtain ⟨a, xs, rfl, h2, h3⟩ := r1.lv q1 e1
      exact .inl ⟨a, xs, rfl, .inl h2, fun p np => h1.new r1 np (by simp) ⟨_, upd_same, repVs_rev h3⟩⟩
    · exact h1.elim
theorem x_forW (hC : C.cA = cA) {t : Tg} {tg it : Expr} {b : List Stmt} {sb : State → Res Fl} {src : State → Res (List Val)} (hp : PassesOwn (model X.prog X.w) X.A X.env X.xe) (hc : X.calm = true) (hi : PI X tg it (TSrc C src))
    (hg : ∀ C' : Cst, C'.cA = cA → C'.W = C.W → PG X tg (TTg C' t)) (hb : ∀ C' : Cst, C'.cA = cA → C'.W = C.W → PSs X b (TSt C' sb)) (hs : notSet it = true) : PS X (.For tg it b [] pos) (TSt C (sFor t src sb)) :=
  v_for hp hc hi (fun C' h => hg C' (h.ca.trans hC) h.w) (fun C' h => hb C' (h.ca.trans hC) h.w) hs
theorem x_tryKeep {N : List String} {T : String} {x n v : Str} {cv : Value} {i j : Nat} {body : List Stmt} {np p1 p2 p3 : Pos} {f : State → Res Fl} (hC : C.cA = cA) (hs : X.stack = X.env :: X.outer) (hf : X.env.frame = some X.env.locals) (hex : X.ex = []) (hN : X.N.Nodup) (hi : X.N[i]? = some n) (hj : X.N[j]? = some v) (hij : i ≠ j) (hln : X.env.kindOf n = some .local) (hlv : X.env.kindOf v = some .local) (hc : Names X x cv) (em : EM N X.K cA T cv) (tk : Takes X C.W)
    (hb : ∀ (C' : Cst) (pn : List (Addr × Obj)) (xe : Value → Shared → Prop), C'.cA = cA → Takes (X.tr pn xe) C'.W → PassesOwn (model X.prog X.w) X.A X.env xe → PSs (X.tr pn xe) body (TSt C' f)) 
    (hdn : (n == ("__debug__" : Str)) = false) (hcn : (n == ("__classdict__" : Str)) = false) (hsw : swapsWithSole [.Name v p1] (.Name n p2) p3.line X.env = pure false) (hsw2 : swappedStores [.Name v p1] (.Name n p2) X.env = pure none) :
    PS X (.Try body [.ExceptHandler (some (.Name x np)) (some n) [.Assign [.Name v p1] (.Name n p2) p3] pos'] [] [] pos) (TSt C (sTryKeep N T i j f)) := by
  subst hC
  exact v_tryKeep hs hf hex hN hi hj hij hln hlv hc em tk hb hdn hcn hsw hsw2
theorem x_try {N : List String} {T : String} {x : Str} {cv : Value} {body suite : List Stmt} {b₀ : Stmt} {np : Pos} {f u : State → Res Fl} (hC : C.cA = cA) (hs : X.stack = X.env :: X.outer) (hf : X.env.frame = some X.env.locals) (hc : Names X x cv) (em : EM N X.K cA T cv) (tk : Takes X C.W)
    (hb : ∀ (C' : Cst) (pn : List (Addr × Obj)) (xe : Value → Shared → Prop), C'.cA = cA → Takes (X.tr pn xe) C'.W → PassesOwn (model X.prog X.w) X.A X.env xe → PSs (X.tr pn xe) body (TSt C' f))
    (hsu : ∀ (a : Addr) (oe : Obj) (cls : Value) (d : Option Addr) (pn : List (Addr × Obj)), L2.Zc cls d oe → (∃ vs, oe.data = .fields vs) → PSs (X.suite a ((a, oe) :: pn)) (b₀ :: suite) (TSt C u)) :
    PS X (.Try body [.ExceptHandler (some (.Name x np)) none (b₀ :: suite) pos'] [] [] pos) (TSt C (sTry N T f u)) := by
  subst hC
  exact v_try hs hf hc em tk hb hsu
/-- a suite that is never reached -/
theorem pss_stuck {b₀ : Stmt} {suite : List Stmt} : PSs X (b₀ :: suite) (TSt C (fun _ => .stuck)) := by
  refine ⟨fun pins s sv H D I ⟨_, _, _, _, h⟩ => h.elim⟩
def pairV : Val → Option (K0 × Val)
  | .d (.tup [k, x]) => (key0 k).map fun k => (k, .d x)
  | .tp [.d k, x] => (key0 k).map fun k => (k, x)
  | _ => none
def pairVs : List Val → Option (List (K0 × Val))
  | [] => some []
  | x :: r => match pairV x, pairVs r with
    | some p, some ps => some (p :: ps)
    | _, _ => none
def kmerge {κ α : Type} [DecidableEq κ] (l ps : List (κ × α)) : List (κ × α) := ps.foldl (fun l p => kput l p.1 p.2) l
def bDict (rs : List RV) (s : State) : Res RV :=
  match rs with
  | [x] => match (lv s x).bind pairVs with
    | some ps => .ok (.new (.dic false (kmerge [] ps))) s
    | none => .stuck
  | _ => .stuck
end
/-- what a call lets out, in any world -/
def CXA : CXT := fun outer H s E u s' => ∃ P w, L2.CX P w outer H s E u s'
theorem cxA_no (H : Hp) (s : Shared) (e : Value) (s' : Shared) (h : CXA [] H s (fun _ _ _ => False) e s') : False := by
  obtain ⟨P, w, h⟩ := h
  obtain ⟨_, _, _, _, _, _, _, _, _, _, _, _, z⟩ := h
  exact z.elim
theorem fn_cxA {P : Program} {w : World} {K : PySem.W.Frag} {mg : Str → Option Value} {base : Heap} {k : Nat} {f : Addr} {fd : FuncData} {ps : List Str} {sp : Sp} (F : FnOk P w K mg base (L2.CX P w) k f fd ps sp) : FnOk P w K mg base CXA k f fd ps sp :=
  ⟨F.len, fun A outer s H args us vs Q E hr e0 b r h => codeAny_mono (F.run A outer s H args us vs Q E hr e0 b r h) fun r s' q => by
    cases r with
    | error e => exact ⟨P, w, q⟩
    | ok fl => cases fl <;> exact q⟩
end Vw
namespace Vw
open PySem L2
section
variable {C : Cst} {Z Z' : Hp} {loc loc' : List Addr} {s s' : State} {sv sv' : L2.St} {H H' : Hp}
theorem pairV_ok (K : PySem.W.Frag) (r : SR C Z loc s sv H) {x : Val} {v : V} {p : K0 × Val} (e : pairV x = some p) (q : RepV C.cA Z loc x v) : ∃ a w, v = .ref a ∧ SqT K H a [kV (kz p.1), w] ∧ RepV C.cA Z loc p.2 w := by
  unfold pairV at e
  split at e
  · rename_i k y
    obtain ⟨k0, e1, rfl⟩ := Option.map_eq_some_iff.mp e
    obtain ⟨a, vs, rfl, z, v1, t1, rfl, q1, v2, t2, rfl, q2, rfl⟩ := q
    rw [kV_kz e1 q1] at z
    exact ⟨a, v2, rfl, .inl (.inl ((r.zh a _ z).at rfl)), q2⟩
  · rename_i k y
    obtain ⟨k0, e1, rfl⟩ := Option.map_eq_some_iff.mp e
    obtain ⟨a, vs, rfl, z, v1, t1, rfl, q1, v2, t2, rfl, q2, rfl⟩ := q
    rw [kV_kz e1 q1] at z
    exact ⟨a, v2, rfl, .inl (.inl ((r.zh a _ z).at rfl)), q2⟩
  · cases e
theorem pairVs_ok (K : PySem.W.Frag) (r : SR C Z loc s sv H) : ∀ {l : List Val} {vs : List V} {ps : List (K0 × Val)}, pairVs l = some ps → RepVs C.cA Z loc l vs → ∃ (as : List Addr) (kvs : List (Key × V)), vs = as.map V.ref ∧ Paired (fun p kv => SqT K H p [kV kv.1, kv.2]) as kvs ∧ RepVKs C.cA Z loc ps kvs
  | [], vs, ps, e, h => by
    cases e
    exact ⟨[], [], h, .nil, rfl⟩
  | x :: l, vs, ps, e, ⟨v, t, e0, q, h⟩ => by
    rw [e0]
    unfold pairVs at e
    split at e
    · rename_i p ps' e1 e2
      cases e
      obtain ⟨a, w, rfl, g, qw⟩ := pairV_ok K r e1 q
      obtain ⟨as, kvs, rfl, gs, qs⟩ := pairVs_ok K r e2 h
      exact ⟨a :: as, (kz p.1, w) :: kvs, rfl, .cons g gs, w, kvs, rfl, qw, qs⟩
    · cases e
theorem kmerge_ok : ∀ {ps : List (K0 × Val)} {kvs : List (Key × V)} {l : List (K0 × Val)} {ws : List (Key × V)}, RepVKs C.cA Z loc ps kvs → RepVKs C.cA Z loc l ws → RepVKs C.cA Z loc (kmerge l ps) (mergeK ws kvs)
  | [], kvs, l, ws, h, g => by rw [show kvs = _ from h]; exact g
  | (k, x) :: ps, kvs, l, ws, ⟨v, t, e, q, h⟩, g => by
    rw [e]
    show RepVKs C.cA Z loc (kmerge (kput l k x) ps) (mergeK (putK ws (kz k) v) t)
    exact kmerge_ok h (putKr k g q)
theorem bDict_ok (K : PySem.W.Frag) : BltS C bDict (fun xs H Q => ∃ (a : Addr) (ps : List Addr) (kvs : List (Key × V)), xs = [.ref a] ∧ SqL K H a (ps.map V.ref) ∧ Paired (fun p kv => SqT K H p [kV kv.1, kv.2]) ps kvs ∧
    ∀ p, H p = none → Q (.ref p) (upd H p (.dK (mergeK [] kvs)))) := by
  intro Z loc s sv H rs vs Q r q h
  unfold bDict at h
  split at h
  · rename_i x
    obtain ⟨v, t, rfl, st, q1, q2⟩ := q
    cases q2
    split at h
    · rename_i ps e
      obtain ⟨l, e1, e2⟩ := Option.bind_eq_some_iff.mp e
      obtain ⟨a, xs, rfl, h1, h2⟩ := r.lv q1 e1
      obtain ⟨as, kvs, rfl, g1, g2⟩ := pairVs_ok K r e2 h2
      refine ⟨a, as, kvs, rfl, .inl h1, g1, fun p np => h.new r np (by simp) ⟨_, upd_same, kmerge_ok g2 rfl⟩⟩
    · exact h.elim
  · exact h.elim
def nL (s : State) (x : RV) : Option (List Val) :=
  match x with
  | .new (.lst m) => some m
  | _ => match ob s x with
    | some (.lst m) => some m
    | _ => none
def bExtend (o : RV) (rs : List RV) (s : State) : Res RV :=
  match rs with
  | [x] => match nL s x, ob s o with
    | some m, some (.lst l) => if l.length + m.length ≤ sizeLine then .ok (.val (.d .non)) (wr o (.lst (l ++ m)) s) else .stuck
    | _, _ => .stuck
  | _ => .stuck
theorem nL_ok (r : SR C Z loc s sv H) {x : RV} {v : V} {m : List Val} (q : RVR C Z loc s sv H x v) (e : nL s x = some m) : ∃ a xs, v = .ref a ∧ H a = some (.lst xs) ∧ RepVs C.cA Z loc m xs := by
  unfold nL at e
  split at e
  · cases e
    obtain ⟨a, rfl, ne, ⟨xs, h1, h2⟩, h3⟩ := q
    exact ⟨a, xs, rfl, h1, h2⟩
  · split at e
    · rename_i e1
      cases e
      obtain ⟨a, rfl, _, xs, h1, h2⟩ := r.ob q e1
      exact ⟨a, xs, rfl, h1, h2⟩
    · cases e
theorem bExtend_core {o x : RV} {v w : V} {Q : VK} (r : SR C Z loc s sv H) (q : RVR C Z loc s sv H o v) (q1 : RVR C Z loc s sv H x w) (h : EPost C Z loc sv (bExtend o [x] s) Q) : rExtend v [w] H Q := by
  unfold bExtend at h
  dsimp only at h
  split at h
  · rename_i m l e1 e2
    split at h
    · rename_i hl
      obtain ⟨b, zs, rfl, g1, g2⟩ := nL_ok r q1 e1
      obtain ⟨a, xs, rfl, h1, h2, h3⟩ := r.wlst (l' := l ++ m) q e2
      exact ⟨a, b, xs, zs, rfl, rfl, h1, g1, by rw [← repVs_len h2, ← repVs_len g2]; exact hl, h Z loc _ .non (Ext.refl _ _) (h3 _ (repVs_app h2 g2)) rfl⟩
    · exact h.elim
  · exact h.elim
def fExt (fo fe : State → Res RV) (s : State) : Res RV := (ev fo s).bind fun o s => if tyLst s o then (fe s).bind fun x s => bExtend o [x] s else .stuck
theorem ext_at {fo fe : State → Res RV} {Q : VK} (K : PySem.W.Frag) (h : TEx C (fExt fo fe) sv H Q) :
    TEx C fo sv H fun x H1 => tyV K "list" x H1 ∧ tCons (TEx C fe) tNil sv H1 fun xs H2 => rExtend x xs H2 Q := by
  obtain ⟨Z, loc, s, r, q⟩ := h
  refine (TEx.evE r q).imp fun v H1 ⟨Z1, l1, s1, y, g1, r1, st1, q1, h1⟩ => ?_
  split at h1
  · rename_i ht
    refine ⟨isL_ok K Z1 l1 s1 sv H1 y v r1 q1 ht, ?_⟩
    refine args1 ⟨Z1, l1, s1, r1, ?_⟩
    cases e : fe s1 with
    | stuck => simp only [e, Res.bind] at h1; exact h1
    | exc x s2 => simp only [e, Res.bind] at h1; exact h1
    | ok x s2 =>
      simp only [e, Res.bind] at h1
      exact fun Z' l' H' u g r' q' => bExtend_core r' (RVR.mono g st1 q1) q' (EPost.ext h1 g)
  · exact h1.elim
theorem x_ext {X : Cx} {e o : Expr} {apos pos : Pos} {fo fe : State → Res RV} (ho : PE X o (TEx C fo)) (he : PE X e (TEx C fe)) (hb : abOk o = true) (hs : [e].all notStar = true) (hl : [e].length < 20) (hline : (apos.endLine == pos.line) = true)
    (hss : starEach [e] X.env = (false, eval e X.env) :: starEach [] X.env := by rfl) :
    PE X (.Call (.Attribute o "extend" apos) [e] [] pos) (TEx C (fExt fo fe)) := by
  have hs' := hs
  simp only [List.all_cons, Bool.and_eq_true] at hs'
  exact PE_mono (pe_bm F.plainAttrs_list F.slot_list_extend F.type_list_extend mt_extend ho (pa_cons he pa_nil hss) (ab_ok hb) (few_ok hs hl) hline (star_cons hs'.1) (star_any hs'.2)) fun sv H Q h => ext_at X.K h
def bInt (rs : List RV) (s : State) : Res RV :=
  match rs with
  | [x] => match dv s x with
    | some (.int i) => okv (.int i) s
    | some (.bl k) => okv (.int (if k then 1 else 0)) s
    | _ => .stuck
  | _ => .stuck
theorem bInt_ok : BltS C bInt (fun xs H Q => (∃ i, xs = [.int i] ∧ Q (.int i) H) ∨ ∃ k, xs = [.bl k] ∧ Q (.int (if k then 1 else 0)) H) := by
  intro Z loc s sv H rs vs Q r q h
  unfold bInt at h
  split at h
  · split at h
    · rename_i i e
      obtain ⟨v, rfl, rfl⟩ := dv1 r q e
      exact .inl ⟨i, rfl, h.okv r rfl⟩
    · rename_i k e
      obtain ⟨v, rfl, rfl⟩ := dv1 r q e
      exact .inr ⟨k, rfl, h.okv r rfl⟩
    · exact h.elim
  · exact h.elim
theorem e_bDict (x : RV) (s : State) : bDict [x] s = (match (lv s x).bind pairVs with
    | some ps => .ok (.new (.dic false (kmerge [] ps))) s
    | none => .stuck) := id rfl
@[simp] theorem e_bExtend (o x : RV) (s : State) : bExtend o [x] s = (match nL s x, ob s o with
    | some m, some (.lst l) => if l.length + m.length ≤ sizeLine then .ok (.val (.d .non)) (wr o (.lst (l ++ m)) s) else .stuck
    | _, _ => .stuck) := id rfl
@[simp] theorem e_fExt (fo fe : State → Res RV) (s : State) : fExt fo fe s = (ev fo s).bind fun o s => if tyLst s o then (fe s).bind fun x s => bExtend o [x] s else .stuck := id rfl
@[simp] theorem e_nL (m : List Val) (s : State) : nL s (.new (.lst m)) = some m := id rfl
end
end Vw
namespace Vw
open PySem L2 PyProof.Rows
def frzL (f : Val → Option D) : List Val → Option (List D)
  | [] => some []
  | x :: l => match f x, frzL f l with
    | some d, some ds => some (d :: ds)
    | _, _ => none
def frzF (f : Val → Option D) : List (String × Val) → Option (List (String × D))
  | [] => some []
  | (k, x) :: l => match f x, frzF f l with
    | some d, some ds => some ((k, d) :: ds)
    | _, _ => none
def frzO (f : Val → Option D) : Ob → Option D
  | .lst l => (frzL f l).map .lst
  | .ins c fs => (frzF f fs).map (.ins c)
  | _ => none
def frz : Nat → State → Val → Option D
  | 0, _, v => match v with
    | .d x => some x
    | _ => none
  | n + 1, s, v => match v with
    | .d x => some x
    | .tp l => (frzL (frz n s) l).map .tup
    | .r m => match s.st[m]? with
      | some o => frzO (frz n s) o
      | none => none
def pvQ (n : Nat) (s : State) (r : RV) : Option D :=
  match nrm s r with
  | .val v => frz n s v
  | .own i => match s.sg[i]? with
    | some (some (.own o)) => frzO (frz n s) o
    | _ => none
  | _ => none
def pvQs (n : Nat) (s : State) : List RV → Option (List D)
  | [] => some []
  | r :: rs => match pvQ n s r, pvQs n s rs with
    | some d, some ds => some (d :: ds)
    | _, _ => none
def fLookD (m n : Nat) (fs : State → Res (List RV)) (g : Fn) (s : State) : Res RV := (fs s).bind fun rs s => match pvQs m s rs with
  | some ds => if ds.length = n then (match g (ds.map .d) [] with
    | .ok (.val (.d x)) _ => if scal x then .ok (.val (.d x)) s else .stuck
    | _ => .stuck) else .stuck
  | none => .stuck
def eqQ (n : Nat) (s : State) (x y : RV) : Option Bool :=
  match pvQ n s x, pvQ n s y with
  | some a, some b => if comparable a b then some (deq a b) else none
  | _, _ => none
def fCmpD (n : Nat) (neg : Bool) (x y : RV) (s : State) : Res RV :=
  match eqQ n s x y with
  | some b => okv (.bl (xor neg b)) s
  | none => .stuck
section
variable {C : Cst} {Z Z' Zc : Hp} {loc loc' : List Addr} {s s' : State} {sv sv' : L2.St} {H H' : Hp}
variable {X : Cx} {e a b c o : Expr} {es : List Expr} {p pos apos : Pos} {f fa fb fc fo fi fv : State → Res RV}
theorem GoodZ.add (g : GoodZ Z H Zc) {a : Addr} {u : HO} (z : Z a = none) (h1 : H a = some u) (h4 : isDic u = false) : ∃ Zd, Same Zc Zd ∧ GoodZ Z H Zd ∧ Zd a = some u := by
  cases ez : Zc a with
  | none =>
    refine ⟨upd Zc a u, same_upd ez, ⟨g.up.trans (same_upd ez), fun b w hb => ?_⟩, upd_same⟩
    by_cases hba : b = a
    · subst hba
      rw [upd_same] at hb
      cases hb
      exact .inr ⟨h1, h4⟩
    · rw [upd_ne hba] at hb
      exact g.at_ b w hb
  | some w =>
    have hw : w = u := by
      rcases g.at_ a w ez with q | ⟨q, _⟩
      · rw [z] at q; cases q
      · rw [h1] at q; cases q; rfl
    subst hw
    exact ⟨Zc, Same.refl _, g, ez⟩
/-- f's data are what stands there -/
def Fz (C : Cst) (Z : Hp) (loc : List Addr) (H : Hp) (f : Val → Option D) : Prop := ∀ (Zc : Hp) (x : Val) (v : V) (d : D), GoodZ Z H Zc → RepV C.cA Z loc x v → f x = some d → ∃ Zd, Same Zc Zd ∧ GoodZ Z H Zd ∧ RepD C.cA Zd d v
theorem frzL_ok {f : Val → Option D} (hf : Fz C Z loc H f) : ∀ {Zc : Hp} {l : List Val} {vs : List V} {ds : List D}, GoodZ Z H Zc → RepVs C.cA Z loc l vs → frzL f l = some ds → ∃ Zd, Same Zc Zd ∧ GoodZ Z H Zd ∧ RepDs C.cA Zd ds vs
  | Zc, [], vs, ds, g, h, e => by cases e; exact ⟨Zc, Same.refl _, g, h⟩
  | Zc, x :: l, vs, ds, g, ⟨v, t, e1, q, h⟩, e => by
    unfold frzL at e
    split at e
    · rename_i d ds' e2 e3
      cases e
      obtain ⟨Z1, s1, g1, r1⟩ := hf Zc x v d g q e2
      obtain ⟨Z2, s2, g2, r2⟩ := frzL_ok hf g1 h e3
      exact ⟨Z2, s1.trans s2, g2, v, t, e1, RepD.mono s2 d r1, r2⟩
    · cases e
theorem frzF_ok {f : Val → Option D} (hf : Fz C Z loc H f) : ∀ {Zc : Hp} {l : List (String × Val)} {vs : List (Str × V)} {ds : List (String × D)}, GoodZ Z H Zc → RepVFs C.cA Z loc l vs → frzF f l = some ds → ∃ Zd, Same Zc Zd ∧ GoodZ Z H Zd ∧ RepFs C.cA Zd ds vs
  | Zc, [], vs, ds, g, h, e => by cases e; exact ⟨Zc, Same.refl _, g, h⟩
  | Zc, (k, x) :: l, vs, ds, g, ⟨v, t, e1, q, h⟩, e => by
    unfold frzF at e
    split at e
    · rename_i d ds' e2 e3
      cases e
      obtain ⟨Z1, s1, g1, r1⟩ := hf Zc x v d g q e2
      obtain ⟨Z2, s2, g2, r2⟩ := frzF_ok hf g1 h e3
      exact ⟨Z2, s1.trans s2, g2, v, t, e1, RepD.mono s2 d r1, r2⟩
    · cases e
theorem frzO_ok {f : Val → Option D} (hf : Fz C Z loc H f) {o : Ob} {a : Addr} {d : D} (g : GoodZ Z H Zc) (cell : Cell C.cA Z loc H a o) (z : Z a = none) (e : frzO f o = some d) : ∃ Zd, Same Zc Zd ∧ GoodZ Z H Zd ∧ RepD C.cA Zd d (.ref a) := by
  cases o with
  | lst l =>
    obtain ⟨ds, e1, rfl⟩ := Option.map_eq_some_iff.mp e
    obtain ⟨xs, h1, h2⟩ := cell
    obtain ⟨Z1, s1, g1, r1⟩ := frzL_ok hf g h2 e1
    obtain ⟨Z2, s2, g2, h3⟩ := g1.add z h1 rfl
    exact ⟨Z2, s1.trans s2, g2, a, xs, rfl, .inl h3, RepDs.mono s2 ds r1⟩
  | ins c fs =>
    obtain ⟨ds, e1, rfl⟩ := Option.map_eq_some_iff.mp e
    obtain ⟨dx, xs, h1, h2⟩ := cell
    obtain ⟨Z1, s1, g1, r1⟩ := frzF_ok hf g h2 e1
    obtain ⟨Z2, s2, g2, h3⟩ := g1.add z h1 rfl
    exact ⟨Z2, s1.trans s2, g2, a, dx, xs, rfl, h3, RepFs.mono s2 ds r1⟩
  | dic k l => cases e
  | dit k l => cases e
  | gone => cases e
theorem frz_ok (r : SR C Z loc s sv H) : ∀ n : Nat, Fz C Z loc H (frz n s)
  | 0 => fun Zc x v d g q e => by
    cases x with
    | d y => cases e; exact ⟨Zc, Same.refl _, g, RepD.mono g.up _ q⟩
    | r m => cases e
    | tp l => cases e
  | n + 1 => fun Zc x v d g q e => by
    cases x with
    | d y => cases e; exact ⟨Zc, Same.refl _, g, RepD.mono g.up _ q⟩
    | r m =>
      have e' : (match s.st[m]? with
        | some o => frzO (frz n s) o
        | none => none) = some d := e
      split at e'
      · rename_i o h1
        obtain ⟨a, h2, rfl⟩ := q
        have ne : o ≠ .gone := fun z => by subst z; cases e'
        obtain ⟨c1, c2⟩ := r.cl m a o h2 h1 ne
        exact frzO_ok (frz_ok r n) g c1 c2 e'
      · cases e'
    | tp l =>
      have e' : (frzL (frz n s) l).map D.tup = some d := e
      obtain ⟨ds, e1, rfl⟩ := Option.map_eq_some_iff.mp e'
      obtain ⟨a, vs, rfl, h1, h2⟩ := q
      obtain ⟨Z1, s1, g1, r1⟩ := frzL_ok (frz_ok r n) g h2 e1
      exact ⟨Z1, s1, g1, a, vs, rfl, g1.up _ _ h1, r1⟩
theorem SR.pvQ (r : SR C Z loc s sv H) (n : Nat) (g : GoodZ Z H Zc) {rv : RV} {v : V} {d : D} (h : RVR C Z loc s sv H rv v) (e : Vw.pvQ n s rv = some d) : ∃ Zd, Same Zc Zd ∧ GoodZ Z H Zd ∧ RepD C.cA Zd d v := by
  have q := r.nrm h
  unfold Vw.pvQ at e
  split at e
  · rename_i x e1
    rw [e1] at q
    exact frz_ok r n Zc x v d g q e
  · rename_i i e1
    rw [e1] at q
    split at e
    · rename_i o e2
      obtain ⟨a, h1, h2, h3, h4, _⟩ := r.ow i _ e2
      rw [show sv[i]? = some (some v) from q] at h1
      cases h1
      exact frzO_ok (frz_ok r n) g h3 h4 e
    · cases e
  · cases e
theorem SR.pvQs (r : SR C Z loc s sv H) (n : Nat) : ∀ {Zc : Hp} {rs : List RV} {vs : List V} {ds : List D}, GoodZ Z H Zc → RVRs C Z loc s sv H rs vs → Vw.pvQs n s rs = some ds → ∃ Zd, Same Zc Zd ∧ GoodZ Z H Zd ∧ RepDs C.cA Zd ds vs
  | Zc, [], vs, ds, g, h, e => by cases e; exact ⟨Zc, Same.refl _, g, h⟩
  | Zc, x :: l, vs, ds, g, ⟨v, t, e1, st, q, h⟩, e => by
    unfold Vw.pvQs at e
    split at e
    · rename_i d ds' e2 e3
      cases e
      obtain ⟨Z1, s1, g1, r1⟩ := r.pvQ n g q e2
      obtain ⟨Z2, s2, g2, r2⟩ := SR.pvQs r n g1 h e3
      exact ⟨Z2, s1.trans s2, g2, v, t, e1, RepD.mono s2 d r1, r2⟩
    · cases e
theorem sp_lookD {g : Fn} {m n : Nat} {rs : List RV} {ds : List D} {vs : List V} {Q : VK} (r : SR C Z loc s sv H) (q : RVRs C Z loc s sv H rs vs) (e : pvQs m s rs = some ds) (hn : ds.length = n)
    (h : EPost C Z loc sv (match g (ds.map .d) [] with | .ok (.val (.d x)) _ => if scal x then .ok (.val (.d x)) s else .stuck | _ => .stuck) Q) : spV C.cA n g vs H Q E0 := by
  obtain ⟨Zc, _, gz, q1⟩ := r.pvQs m (GoodZ.refl) q e
  refine ⟨frOf H Zc [], C.H0, Zc, [], ds.map .d, [], r.look gz _, repDs_map q1, by simpa using hn, ?_⟩
  split at h
  · rename_i x s1 e1
    rw [e1]
    split at h
    · rename_i p
      exact fun Z' l' H' v g r' q' => h Z loc H' v (Ext.refl _ _) (r.looked gz g r') (scal_rep (Z := Z) p q')
    · exact h.elim
  · exact h.elim
theorem x_lookD {m : Nat} {CX : CXT} {k n : Nat} {fA : Addr} {fd : FuncData} {ps : List Str} {x : Str} {g : Fn} {fs : State → Res (List RV)} {cA : String → Addr} (hC : C.cA = cA) (F : FnOk X.prog X.w X.K X.mg X.base CX k fA fd ps (spV cA n g)) (hr : Room k X.A) (hg : Gl X x) (hm : X.mg x = some (.ref fA)) (hk : PySem.W.keepIn X.K (.ref fA) = true)
    (hb : Binds X.K fd ps []) (hx : Passes CX X E0) (hn : ps.length = n) (ha : PA X (e :: es) (TAr C fs)) (hdb : (x == ("__debug__" : Str)) = false) (hs : (e :: es).all notStar = true) :
    PE X (.Call (.Name x p) (e :: es) [] pos) (TEx C (fLookD m n fs g)) := by
  subst hn hC
  have hs' := hs
  simp only [List.all_cons, Bool.and_eq_true] at hs
  refine PE_mono (pe_call F hr hg hm hk hb .nil hx ha hdb (star_cons hs.1) (star_any hs.2)) fun sv H Q h => (TAr.at h).imp fun vs H1 ⟨Z, loc, s, xs, r, q, h⟩ => ?_
  rw [List.append_nil]
  split at h
  · rename_i ds e1
    split at h
    · rename_i hn
      exact sp_lookD r q e1 hn h
    · exact h.elim
  · exact h.elim
theorem eqQS (n : Nat) (neg : Bool) : OpS C (fCmpD n neg) (rPl X.K neg) := by
  intro Z loc s sv H x y u v Q r hx hy h
  unfold fCmpD at h
  split at h
  · rename_i b e
    unfold eqQ at e
    split at e
    · rename_i d d' e1 e2
      split at e
      · rename_i hc
        cases e
        simp only [comparable, Bool.and_eq_true, decide_eq_true_eq] at hc
        obtain ⟨Z1, s1, g1, r1⟩ := r.pvQ n (GoodZ.refl) hx e1
        obtain ⟨Z2, s2, g2, r2⟩ := r.pvQ n g1 hy e2
        have L := r.look g2 (fun _ _ _ => False)
        exact ⟨pd d, pd d', pd_dp L d (RepD.mono s2 d r1) hc.1.1, pd_dp L d' r2 hc.1.2, hc.1.1, hc.1.2, hc.2, h.okv r rfl⟩
      · cases e
    · cases e
  · exact h.elim
theorem x_eqD {n : Nat} (hu : X.A.units + 64 < cLine) (ha : PE X a (TEx C fa)) (hb : PE X b (TEx C fb)) (hm : notSet b = true) : PE X (.Compare a [.Eq] [b] pos) (TEx C (ev2 fa fb (fCmpD n false))) := PE_mono (pe_cmpR (h_eq hu) ha hb (marks_ok hm)) fun sv H Q h => core2 (eqQS n false) h
theorem xt_eqD {n : Nat} (hu : X.A.units + 64 < cLine) (ha : PE X a (TEx C fa)) (hb : PE X b (TEx C fb)) (hm : notSet b = true) : PT X (.Compare a [.Eq] [b] pos) (TBx C (evB (ev2 fa fb (fCmpD n false)))) := PT_mono (pt_cmpR (h_eq hu) ha hb (marks_ok hm)) fun sv H Q q => core2 (eqQS n false) (toB q)
theorem x_neD {n : Nat} (hu : X.A.units + 64 < cLine) (ha : PE X a (TEx C fa)) (hb : PE X b (TEx C fb)) (hm : notSet b = true) : PE X (.Compare a [.NotEq] [b] pos) (TEx C (ev2 fa fb (fCmpD n true))) := PE_mono (pe_cmpR (h_ne hu) ha hb (marks_ok hm)) fun sv H Q h => core2 (eqQS n true) h
theorem xt_neD {n : Nat} (hu : X.A.units + 64 < cLine) (ha : PE X a (TEx C fa)) (hb : PE X b (TEx C fb)) (hm : notSet b = true) : PT X (.Compare a [.NotEq] [b] pos) (TBx C (evB (ev2 fa fb (fCmpD n true)))) := PT_mono (pt_cmpR (h_ne hu) ha hb (marks_ok hm)) fun sv H Q q => core2 (eqQS n true) (toB q)
end
end Vw
namespace Vw
open PySem L2 PyProof.Rows
open Classical in
noncomputable def sForSI (n : Nat) (L : List Val) (t : Tg) (b : State → Res Fl) : List Val → State → Res Fl
  | [], s => if s.st[n]? = some (.lst L) then .ok .nx s else .stuck
  | x :: r, s => if s.st[n]? = some (.lst L) then (match asgT t x s with
    | none => .stuck
    | some s => match b s with
      | .ok .nx s => sForSI n L t b r s
      | .ok .cnt s => sForSI n L t b r s
      | .ok .brk s => .ok .nx s
      | r => r) else .stuck
noncomputable def sForS (t : Tg) (f : State → Res RV) (b : State → Res Fl) (s : State) : Res Fl := (ev f s).bind fun rv s =>
  match nrm s rv with
  | .val (.r n) => match s.st[n]? with
    | some (.lst l) => sForSI n l t b l s
    | _ => .stuck
  | _ => .stuck
section
variable {C : Cst} {Z Z' Zc : Hp} {loc loc' : List Addr} {s s' : State} {sv sv' : L2.St} {H H' : Hp}
variable {X : Cx} {p pos apos : Pos} {f : State → Res RV}
theorem walk_len {K : PySem.W.Frag} {a : Addr} {n : Nat} : Walk (Itl K a) n (fun H => ∃ xs, SqL K H a xs ∧ xs.length = n) (fun i H x H' => H' = H ∧ ∀ xs, SqL K H a xs → xs[i]? = some x) :=
  ⟨fun i H hi ⟨xs, q, e⟩ => ⟨xs, xs[i], q, by simp [e, hi]⟩, fun H ⟨xs, q, e⟩ => ⟨xs, q, Nat.le_of_eq e⟩, fun _ _ _ _ _ _ y => y⟩
theorem stays {D : Ends} {n : Nat} {L : List Val} {t : Tg} {sb : State → Res Fl} {l : List Val} (h : SPost C Z loc (sForSI n L t sb l s) D) : s.st[n]? = some (.lst L) := by
  cases l with
  | nil =>
    unfold sForSI at h
    split at h
    · assumption
    · exact h.elim
  | cons x r =>
    unfold sForSI at h
    split at h
    · assumption
    · exact h.elim
theorem loc_ext (g : Ext Z loc Z' loc') {n : Nat} {a : Addr} (h : loc[n]? = some a) : loc'[n]? = some a := by
  obtain ⟨_, m, rfl⟩ := g
  rw [List.getElem?_append_left (List.getElem?_eq_some_iff.mp h).1]
  exact h
theorem at_place (r : SR C Z loc s sv H) {n : Nat} {a : Addr} {L : List Val} (hl : loc[n]? = some a) (h : s.st[n]? = some (.lst L)) : ∃ xs, H a = some (.lst xs) ∧ RepVs C.cA Z loc L xs :=
  (r.cl n a _ hl h (by simp)).1
theorem v_forS {t : Tg} {tg it : Expr} {b : List Stmt} {sb : State → Res Fl} (hp : PassesOwn (model X.prog X.w) X.A X.env X.xe) (hc : X.calm = true) (he : PE X it (TEx C f))
    (hg : PG X tg (TTg C t)) (hb : PSs X b (TSt C sb)) (hs : notSet it = true) : PS X (.For tg it b [] pos) (TSt C (sForS t f sb)) := by
  refine ⟨fun pins t0 sv H D I ⟨Z, loc, s, r, q⟩ => ?_⟩
  refine (ps_for (g := TTg C t) (tb := TSt C sb) hp hc (pi_list he) hg hb (fold_ok hs)).run pins t0 sv H D I ?_
  unfold sForS at q
  cases e : ev f s with
  | stuck => rw [e] at q; exact q.elim
  | exc x s1 => rw [e] at q; exact TEx.evEx r e fun Z' loc' H' c d => q Z' loc' sv H' c d
  | ok rv s1 =>
    rw [e] at q
    simp only [Res.bind] at q
    refine (TEx.evOk r e).imp fun v H1 ⟨Z1, l1, g1, r1, st1, rv1⟩ => ?_
    split at q
    · rename_i n e1
      split at q
      · rename_i L e2
        have q1 := r1.nrm rv1
        rw [e1] at q1
        obtain ⟨a, h2, rfl⟩ := q1
        obtain ⟨xs, h3, h4⟩ := at_place r1 h2 e2
        refine ⟨a, rfl, ⟨xs, .of h3⟩, ?_⟩
        refine for_it (n := L.length) (g := TTg C t) (tb := TSt C sb) (D := D) walk_len (fun i sv H => ∃ Z2 l2 s2, Ext Z1 l1 Z2 l2 ∧ SR C Z2 l2 s2 sv H ∧ SPost C Z2 l2 (sForSI n L t sb (L.drop i) s2) D)
          ⟨Z1, l1, s1, Ext.refl _ _, r1, SPost.ext q g1⟩ ?_ ?_ ?_
        · rintro i sv H _ ⟨Z2, l2, s2, g2, r2, q2⟩
          obtain ⟨ys, h5, h6⟩ := at_place r2 (loc_ext g2 h2) (stays q2)
          exact ⟨ys, .of h5, (repVs_len h6).symm⟩
        · rintro i v sv2 H2 H3 hi ⟨Z2, l2, s2, g2, r2, q2⟩ ⟨rfl, hy⟩
          obtain ⟨ys, h5, h6⟩ := at_place r2 (loc_ext g2 h2) (stays q2)
          have hst := stays q2
          rw [List.drop_eq_getElem_cons hi] at q2
          obtain ⟨v', h7, h8⟩ := repVs_get h6 (show L[i]? = some L[i] by simp [hi])
          rw [hy ys (.of h5)] at h7
          cases h7
          refine ⟨Z2, l2, s2, L[i], r2, h8, ?_⟩
          unfold sForSI at q2
          rw [if_pos hst] at q2
          cases e1 : asgT t L[i] s2 with
          | none => rw [e1] at q2; exact q2
          | some s3 =>
            rw [e1] at q2
            intro sv4 _ r4
            refine ⟨Z2, l2, s3, r4, ?_⟩
            dsimp only at q2
            cases e2 : sb s3 with
            | stuck => rw [e2] at q2; exact q2
            | exc x s5 =>
              rw [e2] at q2
              exact q2
            | ok k s5 =>
              rw [e2] at q2
              cases k with
              | nx => exact fun Z5 l5 sv5 H5 g5 r5 => ⟨Z5, l5, s5, g2.trans g5, r5, SPost.ext q2 g5⟩
              | cnt => exact fun Z5 l5 sv5 H5 g5 r5 => ⟨Z5, l5, s5, g2.trans g5, r5, SPost.ext q2 g5⟩
              | brk => exact fun Z5 l5 sv5 H5 g5 r5 => SPost.nx (SPost.ext q2 g5) r5
              | ret rv => exact q2
        · rintro sv2 H2 ⟨Z2, l2, s2, g2, r2, q2⟩
          have hst := stays q2
          rw [List.drop_length] at q2
          unfold sForSI at q2
          rw [if_pos hst] at q2
          exact SPost.nx q2 r2
      · exact q.elim
    · exact q.elim
end
end Vw
namespace Vw
open PySem L2 PyProof.Rows
def callXE (sg : Slots) (r : Res RV) : Res RV :=
  match r with
  | .ok r s2 => .ok r ⟨sg, s2.st⟩
  | .exc x s2 => .exc x ⟨sg, s2.st⟩
  | .stuck => .stuck
def tryE (N : List String) (T : String) (i j : Nat) (r : Res Fl) : Res Fl :=
  match r with
  | .exc x s => match isub N x.c T with
    | some true => .ok .nx { s with sg := ((s.sg.set i none).set j (some (.v (.d (excD x))))).set i none }
    | some false => .exc x s
    | none => .stuck
  | r => r
def cntE (r : Res Fl) : Res Fl :=
  match r with
  | .ok .cnt s => .ok .nx s
  | r => r
/-- one turn of a loop -/
def trn (t : Tg) (b : State → Res Fl) (v : Val) (s : State) : Res Fl :=
  match asgT t v s with
  | some s => cntE (b s)
  | none => .stuck
section
variable (sg : Slots) (st : List Ob) (s s' : State) (i j n : Nat) (d d' : D) (x y : Val) (o : Ob) (f g h fa fb fc fo : State → Res RV) (fs : State → Res (List RV)) (r r' : RV) (N : List String) (T c : String) (e : Exn) (k : Fl) (gg : Fn) (b : State → Res Fl) (t : Tg) (args : List Val)
@[simp] theorem callXE_ok : callXE sg (.ok r s) = .ok r ⟨sg, s.st⟩ := id rfl
@[simp] theorem callXE_exc : callXE sg (.exc e s) = .exc e ⟨sg, s.st⟩ := id rfl
@[simp] theorem e_callX : callX gg args ⟨sg, st⟩ = callXE sg (gg args st) := id rfl
@[simp] theorem e_fcallX : fCallX n fs gg s = (fs s).bind fun rs s => (capAll rs s).bind fun args s => if args.length = n then callX gg args s else .stuck := id rfl
@[simp] theorem e_raise : sRaise c s = .exc ⟨c, none⟩ s := id rfl
@[simp] theorem e_raiseP : sRaiseP c f s = (ev f s).bind fun r s => match cap r s with
  | .ok (.d x) s => .exc ⟨c, some x⟩ s
  | _ => .stuck := id rfl
@[simp] theorem e_tryKeep : sTryKeep N T i j b s = tryE N T i j (b s) := id rfl
@[simp] theorem tryE_ok : tryE N T i j (.ok k s) = .ok k s := id rfl
theorem tryE_exc : tryE N T i j (.exc e s) = (match isub N e.c T with
    | some true => .ok .nx { s with sg := ((s.sg.set i none).set j (some (.v (.d (excD e))))).set i none }
    | some false => .exc e s
    | none => .stuck) := rfl
@[simp] theorem e_isC : fIsC N T f s = (ev f s).bind fun r s => match dv s r with
  | some (.exc c _) => (match isub N c T with
    | some b => okv (.bl b) s
    | none => .stuck)
  | some .non => okv (.bl false) s
  | _ => .stuck := id rfl
@[simp] theorem e_pl : fPl N f s = (ev f s).bind fun r s => match dv s r with
  | some (.exc c [p]) => if N.contains c then okv p s else .stuck
  | _ => .stuck := id rfl
@[simp] theorem e_bIsB : bIsB r r' s = (match dv s r, dv s r' with
  | some (.bl a), some (.bl b) => okv (.bl (decide (a = b))) s
  | _, _ => .stuck) := id rfl
@[simp] theorem e_bIsnB : bIsnB r r' s = (match dv s r, dv s r' with
  | some (.bl a), some (.bl b) => okv (.bl (!decide (a = b))) s
  | _, _ => .stuck) := id rfl
@[simp] theorem e_bRep : bRep r r' s = (match lv s r, dv s r' with
  | some l, some (.int k) => if -(2 ^ 63) ≤ k ∧ k < 2 ^ 63 ∧ l.length * k.toNat ≤ sizeLine then .ok (.new (.lst (List.replicate k.toNat l).flatten)) s else .stuck
  | _, _ => .stuck) := id rfl
@[simp] theorem e_revS : fRevS f s = (ev f s).bind fun r s => match dv s r with
  | some (.str t) => if t.length ≤ sizeLine then okv (.str t.reverse) s else .stuck
  | _ => match lv s r with
    | some l => .ok (.new (.lst l.reverse)) s
    | none => .stuck := id rfl
@[simp] theorem e_tyNd : tyN s (.val (.d d)) = (match d with
  | .non => some "NoneType" | .bl _ => some "bool" | .int _ => some "int" | .str _ => some "str" | .lst _ => some "list" | .tup _ => some "tuple" | .dic _ => some "dict" | _ => none) := by cases d <;> rfl
@[simp] theorem e_join : bJoin r [r'] s = (match dv s r, (sq s r').bind strsOf with
    | some (.str a), some ys => if (ys.map (·.length)).sum + ys.length * a.length ≤ 16777216 then okv (.str (joinV a ys)) s else .stuck
    | _, _ => .stuck) := id rfl
@[simp] theorem e_inSS : cmpop .isin s (.val (.d (.str a))) (.val (.d (.str b'))) = some (subIn a b') := id rfl
@[simp] theorem e_notin : cmpop .notin s r r' = (inD s r r').map not := id rfl
@[simp] theorem e_isin : cmpop .isin s r r' = inD s r r' := id rfl
@[simp] theorem e_inDS (a b : List Nat) : inD s (.val (.d (.str a))) (.val (.d (.str b))) = some (subIn a b) := id rfl
@[simp] theorem e_isnN : cmpop .isn s (.val (.d d)) (.val (.d .non)) = some (match d with | .non => false | _ => true) := by cases d <;> rfl
@[simp] theorem e_isN : cmpop .is s (.val (.d d)) (.val (.d .non)) = some (match d with | .non => true | _ => false) := by cases d <;> rfl
@[simp] theorem e_tyS (s : State) (r : RV) : tyStr s r = (match dv s r with | some (.str _) => true | _ => false) := id rfl
@[simp] theorem e_indx (o x : List Nat) (s : State) : bIndex (.val (.d (.str o))) [.val (.d (.str x))] s = (match Builtin.Str.occurrences (Vw.st o) (Vw.st x) 0 o.length 1 with | i :: _ => .ok (.val (.d (.int (i : Nat)))) s | [] => .stuck) := id rfl
@[simp] theorem e_mulSI (a : List Nat) (j : Int) : bMul (.val (.d (.str a))) (.val (.d (.int j))) s = if 0 ≤ j ∧ j < 1000000 ∧ a.length * j.toNat ≤ 1000000 then okv (.str (List.replicate j.toNat a).flatten) s else .stuck := id rfl
@[simp] theorem cntE_nx : cntE (.ok .nx s) = .ok .nx s := id rfl
@[simp] theorem cntE_cnt : cntE (.ok .cnt s) = .ok .nx s := id rfl
@[simp] theorem cntE_ret : cntE (.ok (.ret r) s) = .ok (.ret r) s := id rfl
@[simp] theorem cntE_exc : cntE (.exc e s) = .exc e s := id rfl
@[simp] theorem e_trn (v : Val) : trn t b v s = (match asgT t v s with | some s => cntE (b s) | none => .stuck) := id rfl
end
@[simp] theorem eqSS (s : State) (a b : List Nat) : eqD s (.val (.d (.str a))) (.val (.d (.str b))) = some (decide (a = b)) := by
  show (if comparable (.str a) (.str b) then some (deq (.str a) (.str b)) else none) = _
  rw [if_pos (by rfl)]
  show some (Vw.st a == Vw.st b) = _
  by_cases h : a = b
  · subst h; simp
  · have h' : Vw.st a ≠ Vw.st b := fun z => h (by
      have := congrArg (fun x : Str => x.cps.toList) z
      simpa [Vw.st] using this)
    have : (Vw.st a == Vw.st b) = false := beq_eq_false_iff_ne.mpr h'
    rw [this]; simp [h]
def foldO {β γ ρ : Type} (step : β → γ → Sum β ρ) : β → List γ → Sum β ρ
  | x, [] => .inl x
  | x, y :: l => match step x y with
    | .inl x' => foldO step x' l
    | .inr r => .inr r
theorem forc_trn {t : Tg} {b : State → Res Fl} {v : Val} {l : List Val} {s s' : State} (h : trn t b v s = .ok .nx s') : sForI t b (v :: l) s = sForI t b l s' := by
  rw [e_forc]
  rw [e_trn] at h
  cases e : asgT t v s with
  | none => rw [e] at h; cases h
  | some s1 =>
    rw [e] at h
    dsimp only at h ⊢
    cases e2 : b s1 with
    | stuck => rw [e2] at h; cases h
    | exc x s2 => rw [e2] at h; cases h
    | ok k s2 =>
      rw [e2] at h
      cases k with
      | nx => cases h; rfl
      | cnt => cases h; rfl
      | brk => cases h
      | ret r => cases h
theorem forc_end {t : Tg} {b : State → Res Fl} {v : Val} {l : List Val} {s : State} {r : Res Fl} (h : trn t b v s = r) (hr : (∃ rv s', r = .ok (.ret rv) s') ∨ ∃ x s', r = .exc x s') : sForI t b (v :: l) s = r := by
  rw [e_forc]
  rw [e_trn] at h
  cases e : asgT t v s with
  | none => rw [e] at h; subst h; rcases hr with ⟨_, _, h⟩ | ⟨_, _, h⟩ <;> cases h
  | some s1 =>
    rw [e] at h
    dsimp only at h ⊢
    cases e2 : b s1 with
    | stuck => rw [e2] at h; subst h; rcases hr with ⟨_, _, h⟩ | ⟨_, _, h⟩ <;> cases h
    | exc x s2 => rw [e2] at h; exact h
    | ok k s2 =>
      rw [e2] at h
      cases k with
      | nx => subst h; rcases hr with ⟨_, _, h⟩ | ⟨_, _, h⟩ <;> cases h
      | cnt => subst h; rcases hr with ⟨_, _, h⟩ | ⟨_, _, h⟩ <;> cases h
      | brk => subst h; rcases hr with ⟨_, _, h⟩ | ⟨_, _, h⟩ <;> cases h
      | ret r => exact h
theorem for_fold {β γ δ : Type} (E : β → δ → State) (V : γ → Val) (step : β → γ → β) (P : β → List γ → Prop) {t : Tg} {b : State → Res Fl} (turn : ∀ x d y l, P x (y :: l) → P (step x y) l ∧ ∃ d', trn t b (V y) (E x d) = .ok .nx (E (step x y) d')) :
    ∀ (l : List γ) (x : β) (d : δ), P x l → ∃ d', sForI t b (l.map V) (E x d) = .ok .nx (E (l.foldl step x) d')
  | [], x, d, h => ⟨d, rfl⟩
  | y :: l, x, d, h => by
    obtain ⟨h', d', e⟩ := turn x d y l h
    obtain ⟨d2, e2⟩ := for_fold E V step P turn l (step x y) d' h'
    exact ⟨d2, by rw [List.map_cons, forc_trn e]; exact e2⟩
theorem for_foldO {β γ δ ρ : Type} (E : β → δ → State) (V : γ → Val) (step : β → γ → Sum β ρ) (O : ρ → δ → Res Fl) (hO : ∀ r d, (∃ rv s', O r d = .ok (.ret rv) s') ∨ ∃ x s', O r d = .exc x s') (P : β → List γ → Prop) {t : Tg} {b : State → Res Fl}
    (turn : ∀ x d y l, P x (y :: l) → match step x y with
      | .inl x' => P x' l ∧ ∃ d', trn t b (V y) (E x d) = .ok .nx (E x' d')
      | .inr r => ∃ d', trn t b (V y) (E x d) = O r d') :
    ∀ (l : List γ) (x : β) (d : δ), P x l → match foldO step x l with
      | .inl x' => ∃ d', sForI t b (l.map V) (E x d) = .ok .nx (E x' d')
      | .inr r => ∃ d', sForI t b (l.map V) (E x d) = O r d'
  | [], x, d, h => ⟨d, rfl⟩
  | y :: l, x, d, h => by
    have h1 := turn x d y l h
    unfold foldO
    cases e : step x y with
    | inl x' =>
      rw [e] at h1
      obtain ⟨h', d', e1⟩ := h1
      dsimp only
      rw [List.map_cons, forc_trn e1]
      exact for_foldO E V step O hO P turn l x' d' h'
    | inr r =>
      rw [e] at h1
      obtain ⟨d', e1⟩ := h1
      exact ⟨d', by rw [List.map_cons]; exact forc_end e1 (hO r d')⟩
/-- a loop of which only some facts are kept -/
theorem for_inv {β : Type} (E : β → State) (P : β → List Val → Prop) {t : Tg} {b : State → Res Fl} (turn : ∀ x v l, P x (v :: l) → ∃ x', P x' l ∧ trn t b v (E x) = .ok .nx (E x')) :
    ∀ (l : List Val) (x : β), P x l → ∃ x', P x' [] ∧ sForI t b l (E x) = .ok .nx (E x')
  | [], x, h => ⟨x, h, rfl⟩
  | y :: l, x, h => by
    obtain ⟨x', h', e⟩ := turn x y l h
    obtain ⟨x2, h2, e2⟩ := for_inv E P turn l x' h'
    exact ⟨x2, h2, by rw [forc_trn e]; exact e2⟩
def capW (vs : List Nat) (r : Res Val) : Res (Option Val) :=
  match r with
  | .ok y s => .ok (some y) (wipeS vs s)
  | _ => .stuck
def lcTrn (vs : List Nat) (t : Tg) (ft : State → Res Bool) (fe : State → Res RV) (v : Val) (s : State) : Res (Option Val) :=
  match asgT t v (wipeS vs s) with
  | none => .stuck
  | some s => (ft s).bind fun b s => if b = true then (fe s).bind fun r s => capW vs (cap r s) else .ok none (wipeS vs s)
@[simp] theorem e_lcTrn (vs : List Nat) (t : Tg) (ft : State → Res Bool) (fe : State → Res RV) (v : Val) (s : State) : lcTrn vs t ft fe v s = (match asgT t v (wipeS vs s) with
  | none => .stuck
  | some s => (ft s).bind fun b s => if b = true then (fe s).bind fun r s => capW vs (cap r s) else .ok none (wipeS vs s)) := id rfl
@[simp] theorem capW_ok (vs : List Nat) (y : Val) (s : State) : capW vs (.ok y s) = .ok (some y) (wipeS vs s) := id rfl
theorem lc_some {vs : List Nat} {t : Tg} {ft : State → Res Bool} {fe : State → Res RV} {v y : Val} {l acc : List Val} {s s' : State} (h : lcTrn vs t ft fe v s = .ok (some y) s') (ha : acc.length < sizeLine) : lcI vs t ft fe (v :: l) acc s = lcI vs t ft fe l (acc ++ [y]) s' := by
  unfold lcTrn at h
  rw [lcI]
  cases e : asgT t v (wipeS vs s) with
  | none => rw [e] at h; cases h
  | some s1 =>
    rw [e] at h
    dsimp only at h ⊢
    cases e2 : ft s1 with
    | stuck => rw [e2] at h; cases h
    | exc x s2 => rw [e2] at h; cases h
    | ok b s2 =>
      rw [e2, Res.bind_ok] at h
      cases b with
      | false => rw [if_neg (by simp)] at h; cases h
      | true =>
        rw [if_pos rfl] at h
        dsimp only
        cases e3 : fe s2 with
        | stuck => rw [e3] at h; cases h
        | exc x s3 => rw [e3] at h; cases h
        | ok r s3 =>
          rw [e3, Res.bind_ok] at h
          dsimp only
          cases e4 : cap r s3 with
          | stuck => rw [e4] at h; cases h
          | exc x s4 => rw [e4] at h; cases h
          | ok y' s4 =>
            rw [e4] at h
            cases h
            dsimp only
            rw [if_pos ha]
theorem lc_none {vs : List Nat} {t : Tg} {ft : State → Res Bool} {fe : State → Res RV} {v : Val} {l acc : List Val} {s s' : State} (h : lcTrn vs t ft fe v s = .ok none s') : lcI vs t ft fe (v :: l) acc s = lcI vs t ft fe l acc s' := by
  unfold lcTrn at h
  rw [lcI]
  cases e : asgT t v (wipeS vs s) with
  | none => rw [e] at h; cases h
  | some s1 =>
    rw [e] at h
    dsimp only at h ⊢
    cases e2 : ft s1 with
    | stuck => rw [e2] at h; cases h
    | exc x s2 => rw [e2] at h; cases h
    | ok b s2 =>
      rw [e2, Res.bind_ok] at h
      cases b with
      | false => rw [if_neg (by simp)] at h; cases h; rfl
      | true =>
        rw [if_pos rfl] at h
        cases e3 : fe s2 with
        | stuck => rw [e3] at h; cases h
        | exc x s3 => rw [e3] at h; cases h
        | ok r s3 =>
          rw [e3, Res.bind_ok] at h
          cases e4 : cap r s3 with
          | stuck => rw [e4] at h; cases h
          | exc x s4 => rw [e4] at h; cases h
          | ok y' s4 => rw [e4] at h; cases h
/-- no change of the state -/
theorem lc_fm {γ : Type} {vs : List Nat} {t : Tg} {ft : State → Res Bool} {fe : State → Res RV} {s : State} (V : γ → Val) (F : γ → Option Val) : ∀ (l : List γ) (acc : List Val), (∀ y ∈ l, lcTrn vs t ft fe (V y) s = .ok (F y) s) → acc.length + l.length ≤ sizeLine →
    lcI vs t ft fe (l.map V) acc s = .ok (acc ++ l.filterMap F) s
  | [], acc, h, hl => by simp [lcI]
  | y :: l, acc, h, hl => by
    have h1 := h y (by simp)
    simp only [List.length_cons] at hl
    cases e : F y with
    | none =>
      rw [e] at h1
      rw [List.map_cons, lc_none h1, lc_fm V F l acc (fun z hz => h z (by simp [hz])) (by omega), List.filterMap_cons, e]
    | some v =>
      rw [e] at h1
      rw [List.map_cons, lc_some h1 (by omega), lc_fm V F l (acc ++ [v]) (fun z hz => h z (by simp [hz])) (by simp; omega), List.filterMap_cons, e]
      simp
/-- each turn changes the state -/
theorem lc_ex {β : Type} {vs : List Nat} {t : Tg} {ft : State → Res Bool} {fe : State → Res RV} (E : β → State) (P : β → Prop) (G : Val → Prop) : ∀ (l : List Val) (acc : List Val) (x : β), (∀ v x, v ∈ l → P x → ∃ y x', G y ∧ P x' ∧ lcTrn vs t ft fe v (E x) = .ok (some y) (E x')) → acc.length + l.length ≤ sizeLine → P x →
    ∃ ys x', lcI vs t ft fe l acc (E x) = .ok (acc ++ ys) (E x') ∧ ys.length = l.length ∧ (∀ y ∈ ys, G y) ∧ P x'
  | [], acc, x, h, hl, hx => ⟨[], x, by simp [lcI], rfl, by simp, hx⟩
  | v :: l, acc, x, h, hl, hx => by
    obtain ⟨y, x', g, p, e⟩ := h v x (by simp) hx
    simp only [List.length_cons] at hl
    obtain ⟨ys, x2, e2, h2, h3, h4⟩ := lc_ex E P G l (acc ++ [y]) x' (fun w z hw => h w z (by simp [hw])) (by simp; omega) p
    exact ⟨y :: ys, x2, by rw [lc_some e (by omega), e2]; simp, by simp [h2], by simpa using ⟨g, h3⟩, h4⟩
theorem deq_int (i j : Int) : deq (.int i) (.int j) = decide (i = j) := by
  show (i == j) = _
  by_cases h : i = j <;> simp [h]
theorem pds_ints (l : List Int) : PyData.plainAll (pds (l.map .int)) = true ∧ PyData.depthAll (pds (l.map .int)) ≤ 1 := by
  have := plDs_map D.int l (fun _ _ => rfl)
  exact ⟨pl_pds _ this, Nat.le_trans (dles_pd 0 _ this (dles_map 0 D.int l (fun _ _ => rfl))) (by omega)⟩
theorem any_int (l : List Int) (i : Int) : ((l.map D.int).any fun y => deq y (.int i)) = decide (i ∈ l) := by
  induction l with
  | nil => rfl
  | cons a l ih =>
    rw [List.map_cons, List.any_cons, ih, deq_int]
    by_cases h : a = i
    · simp [h]
    · have h' : ¬ i = a := fun z => h z.symm
      simp [h, h']
/-- a whole number in a list of such -/
theorem inD_ints {s : State} {r : RV} {i : Int} {l : List Int} (h1 : dget s r (.val (.d (.int i))) = none) (h2 : (∀ b, dv s r ≠ some (.str b)) ) (h3 : pv' s r = some (.lst (l.map .int))) : inD s (.val (.d (.int i))) r = some (decide (i ∈ l)) := by
  unfold inD
  rw [h1]
  have e1 : dv s (.val (.d (.int i))) = some (.int i) := rfl
  have e2 : pv' s (.val (.d (.int i))) = some (.int i) := rfl
  simp only [e1, e2, h3]
  obtain ⟨p, q⟩ := pds_ints l
  rw [if_pos (by simp [p, pd, PyData.plain, PyData.depth]), any_int]

theorem deq_str (a b : List Nat) : deq (.str a) (.str b) = decide (a = b) := by
  show (Vw.st a == Vw.st b) = _
  by_cases h : a = b
  · subst h; simp
  · have h' : Vw.st a ≠ Vw.st b := fun z => h (by
      have := congrArg (fun x : Str => x.cps.toList) z
      simpa [Vw.st] using this)
    rw [beq_eq_false_iff_ne.mpr h']; simp [h]
theorem deq_bl (a b : Bool) : deq (.bl a) (.bl b) = decide (a = b) := by cases a <;> cases b <;> rfl
/-- x in a list of data -/
def inLd (l : List D) (x : D) : Option Bool := if (pd x).plain && PyData.plainAll (pds l) && decide (min (PyData.depthAll (pds l)) (pd x).depth ≤ 60) then some (l.any fun y => deq y x) else none
def inLv (m : List Val) (x : D) : Option Bool := (toDs m).bind fun l => inLd l x
theorem inLd_map {α : Type} [DecidableEq α] (F : α → D) (l : List α) (x : α) (p : ∀ y, plD (F y) = true) (q : ∀ y, dle 40 (F y) = true) (e : ∀ y z, deq (F y) (F z) = decide (y = z)) : inLd (l.map F) (F x) = some (decide (x ∈ l)) := by
  unfold inLd
  have h1 := plDs_map F l (fun y _ => p y)
  have h2 := dles_pd 40 _ h1 (dles_map 40 F l fun y _ => q y)
  have h3 := dle_pd 40 _ (p x) (q x)
  rw [if_pos (by simp [pl_pd _ (p x), pl_pds _ h1]; omega)]
  congr 1
  induction l with
  | nil => rfl
  | cons a l ih =>
    have h1' := plDs_map F l (fun y _ => p y)
    rw [List.map_cons, List.any_cons, ih h1' (dles_pd 40 _ h1' (dles_map 40 F l fun y _ => q y)), e]
    by_cases h : a = x
    · simp [h]
    · have h' : ¬ x = a := fun z => h z.symm
      simp [h, h']
@[simp] theorem inLd_int (l : List Int) (i : Int) : inLd (l.map .int) (.int i) = some (decide (i ∈ l)) := (inLd_map D.int l i (fun _ => rfl) (fun _ => rfl) deq_int).trans (by congr)
@[simp] theorem inLd_str (l : List (List Nat)) (i : List Nat) : inLd (l.map .str) (.str i) = some (decide (i ∈ l)) := (inLd_map D.str l i (fun _ => rfl) (fun _ => rfl) deq_str).trans (by congr)
@[simp] theorem inLd_bl (l : List Bool) (i : Bool) : inLd (l.map .bl) (.bl i) = some (decide (i ∈ l)) := (inLd_map D.bl l i (fun _ => rfl) (fun _ => rfl) deq_bl).trans (by congr)
theorem inLd_str2 (a b i : List Nat) : inLd [.str a, .str b] (.str i) = some (decide (i = a ∨ i = b)) := by
  have := inLd_str [a, b] i
  simpa using this
@[simp] theorem inLv_vI (l : List Int) (i : Int) : inLv (l.map vI) (.int i) = some (decide (i ∈ l)) := by
  unfold inLv; rw [toDs_vI]; exact inLd_int l i
@[simp] theorem inLv_d (l : List D) (i : D) : inLv (l.map .d) i = inLd l i := by
  unfold inLv; rw [toDs_map]; rfl
def inDO (s : State) (x : RV) (j : Nat) : Option Bool := inD s x (.own j)
@[simp] theorem e_inDl (s : State) (x : D) (l : List D) : inD s (.val (.d x)) (.val (.d (.lst l))) = inLd l x := by
  cases x <;> rfl
@[simp] theorem e_inDo (sg : Slots) (st : List Ob) (x : D) (j : Nat) : inD ⟨sg, st⟩ (.val (.d x)) (.own j) = (match sg[j]? with | some (some (.own (.lst m))) => inLv m x | some (some (.v (.d (.lst l)))) => inLd l x | _ => inDO ⟨sg, st⟩ (.val (.d x)) j) := by
  split
  · rename_i m e
    unfold inD dget dcv dtv
    simp only [e_dvo, e_obo, e_dv, e, e_pv]
    unfold inLv
    cases e3 : toDs m with
    | none => cases x <;> simp
    | some l => cases x <;> simp [inLd]
  · rename_i l e
    unfold inD dget dcv dtv
    simp only [e_dvo, e_obo, e_dv, e, e_pv]
    cases x <;> rfl
  · rfl
theorem subIn1 (c : Nat) (t : List Nat) : subIn [c] t = decide (c ∈ t) := by
  have := PySem.StrLaws.found_one (Vw.st t) c
  unfold subIn
  have e : (Vw.st t).length = t.length := by simp [Vw.st, Str.length]
  rw [← e]
  have e2 : Vw.st [c] = ⟨#[c]⟩ := rfl
  rw [e2]
  rw [this]
  have h : c ∈ (Vw.st t).cps.toList ↔ c ∈ t := by simp [Vw.st]
  by_cases hc : c ∈ t
  · rw [decide_eq_true hc, decide_eq_true (h.mpr hc)]
  · rw [decide_eq_false hc, decide_eq_false (fun z => hc (h.mp z))]

theorem joinV_eq (a : List Nat) (ys : List (List Nat)) : joinV a ys = TL.joinL a ys := by
  unfold joinV
  rw [TL.join_eq]
  have h := TL.tl_join (Vw.st a) (ys.map Vw.st)
  have e1 : TL.tl (Vw.st a) = a := by simp [TL.tl, Vw.st]
  have e2 : (ys.map Vw.st).map TL.tl = ys := by
    rw [List.map_map]
    have : (TL.tl ∘ Vw.st) = (id : List Nat → List Nat) := by funext x; simp [TL.tl, Vw.st]
    rw [this, List.map_id]
  rw [e1, e2] at h
  exact h
theorem joinL_nil : ∀ ys : List (List Nat), TL.joinL [] ys = ys.flatten
  | [] => rfl
  | [x] => by simp [TL.joinL]
  | x :: y :: r => by
    rw [TL.joinL, joinL_nil (y :: r)]
    simp
theorem joinV_nil (ys : List (List Nat)) : joinV [] ys = ys.flatten := by rw [joinV_eq, joinL_nil]
end Vw
namespace Br
open PySem L2 PyProof.Rows Vw
def fT : List (String × String) := [("ByteReader", "row"), ("ByteReader", "at"), ("ByteReader", "signs")]
def t_number_bytes_0 : State → Res Fl := (sAsg 1 (fLst []))
def lp_number_bytes_0 : State → Res Fl := (sSeq [(sExpr (fMt "list" (fVar 1) (evA [(ev2 (ev2 (fVar 0) (fD (.int 128)) (binop .mod)) (fD (.int 128)) (binop .add))]) bAppend tyLst)), (sAsg 0 (ev2 (fVar 0) (fD (.int 128)) (binop .fdiv)))])
def t_number_bytes_1 : State → Res Fl := (sWh wFuel (evB (ev2 (fVar 0) (fD (.int 128)) (fCmp .ge))) lp_number_bytes_0)
def t_number_bytes_2 : State → Res Fl := (sRet (ev2 (fVar 1) (fLst [(fVar 0)]) (binop .add)))
def b_number_bytes : State → Res Fl := (sSeq [t_number_bytes_0, t_number_bytes_1, t_number_bytes_2])
def g_number_bytes : Fn := fnV 2 b_number_bytes
def ce_text_bytes_0 : State → Res RV := (fBlt (evA [(fVar 1)]) bOrd)
def t_text_bytes_0 : State → Res Fl := (sRet (ev2 (fCall 1 (evA [(fBlt (evA [(fVar 0)]) bLen)]) g_number_bytes) (fLc [1] (.nm 1) (sD (fVar 0) itemsOf) fTrue ce_text_bytes_0) (binop .add)))
def b_text_bytes : State → Res Fl := (sSeq [t_text_bytes_0])
def g_text_bytes : Fn := fnV 2 b_text_bytes
def t_places_bytes_0 : State → Res Fl := (sAsg 1 (fLst []))
def t_places_bytes_1 : State → Res Fl := (sAsg 2 (fD (.int 0)))
def lp_places_bytes_0 : State → Res Fl := (sSeq [(sExpr (fExt (fVar 1) (fCall 1 (evA [(ev2 (fVar 3) (fVar 2) (binop .sub))]) g_number_bytes))), (sAsg 2 (fVar 3))])
def t_places_bytes_2 : State → Res Fl := (sFor (.nm 3) (sD (fVar 0) itemsOf) lp_places_bytes_0)
def t_places_bytes_3 : State → Res Fl := (sRet (fVar 1))
def b_places_bytes : State → Res Fl := (sSeq [t_places_bytes_0, t_places_bytes_1, t_places_bytes_2, t_places_bytes_3])
def g_places_bytes : Fn := fnV 4 b_places_bytes
def t_postings_bytes_0 : State → Res Fl := (sAsg 1 (fCall 1 (evA [(fBlt (evA [(fVar 0)]) bLen)]) g_number_bytes))
def t_postings_bytes_1 : State → Res Fl := (sAsg 2 (fD (.int 0)))
def lp_postings_bytes_0 : State → Res Fl := (sSeq [(sExpr (fExt (fVar 1) (ev2 (ev2 (fCall 1 (evA [(ev2 (fVar 3) (fVar 2) (binop .sub))]) g_number_bytes) (fCall 1 (evA [(fBlt (evA [(fVar 4)]) bLen)]) g_number_bytes) (binop .add)) (fCall 1 (evA [(fVar 4)]) g_places_bytes) (binop .add)))), (sAsg 2 (fVar 3))])
def t_postings_bytes_2 : State → Res Fl := (sFor (.tp [(.nm 3), (.nm 4)]) (sD (fVar 0) itemsOf) lp_postings_bytes_0)
def t_postings_bytes_3 : State → Res Fl := (sRet (fVar 1))
def b_postings_bytes : State → Res Fl := (sSeq [t_postings_bytes_0, t_postings_bytes_1, t_postings_bytes_2, t_postings_bytes_3])
def g_postings_bytes : Fn := fnV 5 b_postings_bytes
def t_ByteReader____init___0 : State → Res Fl := (sFldV fT "row" (fVar 0) (fVar 1))
def t_ByteReader____init___1 : State → Res Fl := (sFldV fT "at" (fVar 0) (fD (.int 0)))
def ce_ByteReader____init___0 : State → Res RV := (fTup [(fBlt (evA [(fVar 2)]) bOrd), (fVar 2)])
def t_ByteReader____init___2 : State → Res Fl := (sFldV fT "signs" (fVar 0) (fBlt (evA [(fLc [2] (.nm 2) (sD (fD (.str (sS " !\"#$&'()*+,-./0123456789:;<=>?@ABCDEFGHIJKLMNOPQRSTUVWXYZ[\\]^_`abcdefghijklmnopqrstuvwxyz{|}~"))) itemsOf) fTrue ce_ByteReader____init___0)]) bDict))
def b_ByteReader____init__ : State → Res Fl := (sSeq [t_ByteReader____init___0, t_ByteReader____init___1, t_ByteReader____init___2])
def g_ByteReader____init__ : Fn := fnV 3 b_ByteReader____init__
def t_ByteReader__sure_0 : State → Res Fl := (sIf (fNot (evB (fVar 1))) (sSeq [(sRaise "NoBytes")]) (sSeq []))
def b_ByteReader__sure : State → Res Fl := (sSeq [t_ByteReader__sure_0])
def g_ByteReader__sure : Fn := fnV 2 b_ByteReader__sure
def t_ByteReader__ended_0 : State → Res Fl := (sExpr (fMth callX "ByteReader" "sure" 2 (fVar 0) (evA [(ev2 (fFld fT "at" (fVar 0)) (fBlt (evA [(fFld fT "row" (fVar 0))]) bLen) (fCmp .eq))]) g_ByteReader__sure))
def t_ByteReader__ended_1 : State → Res Fl := (sRet (fVar 1))
def b_ByteReader__ended : State → Res Fl := (sSeq [t_ByteReader__ended_0, t_ByteReader__ended_1])
def g_ByteReader__ended : Fn := fnV 2 b_ByteReader__ended
def t_ByteReader__next_byte_0 : State → Res Fl := (sExpr (fMth callX "ByteReader" "sure" 2 (fVar 0) (evA [(ev2 (fFld fT "at" (fVar 0)) (fBlt (evA [(fFld fT "row" (fVar 0))]) bLen) (fCmp .lt))]) g_ByteReader__sure))
def t_ByteReader__next_byte_1 : State → Res Fl := (sAsg 1 (ev2 (fFld fT "row" (fVar 0)) (fFld fT "at" (fVar 0)) ixv))
def t_ByteReader__next_byte_2 : State → Res Fl := (sExpr (fMth callX "ByteReader" "sure" 2 (fVar 0) (evA [(ev3 (fD (.int 0)) (fVar 1) (fD (.int 255)) (fCmp .le) (fCmp .le))]) g_ByteReader__sure))
def t_ByteReader__next_byte_3 : State → Res Fl := (sFldA fT "at" .add (fVar 0) (fD (.int 1)))
def t_ByteReader__next_byte_4 : State → Res Fl := (sRet (fVar 1))
def b_ByteReader__next_byte : State → Res Fl := (sSeq [t_ByteReader__next_byte_0, t_ByteReader__next_byte_1, t_ByteReader__next_byte_2, t_ByteReader__next_byte_3, t_ByteReader__next_byte_4])
def g_ByteReader__next_byte : Fn := fnV 2 b_ByteReader__next_byte
def t_ByteReader__next_number_0 : State → Res Fl := (sAsg 1 (fLst []))
def t_ByteReader__next_number_1 : State → Res Fl := (sAsg 2 (fMth callX "ByteReader" "next_byte" 1 (fVar 0) (evA []) g_ByteReader__next_byte))
def lp_ByteReader__next_number_0 : State → Res Fl := (sSeq [(sExpr (fMt "list" (fVar 1) (evA [(ev2 (fVar 2) (fD (.int 128)) (binop .sub))]) bAppend tyLst)), (sAsg 2 (fMth callX "ByteReader" "next_byte" 1 (fVar 0) (evA []) g_ByteReader__next_byte))])
def t_ByteReader__next_number_2 : State → Res Fl := (sWh wFuel (evB (ev2 (fVar 2) (fD (.int 128)) (fCmp .ge))) lp_ByteReader__next_number_0)
def t_ByteReader__next_number_3 : State → Res Fl := (sExpr (fMth callX "ByteReader" "sure" 2 (fVar 0) (evA [(fOrV [(ev2 (fVar 2) (fD (.int 0)) (fCmp .gt)), (ev2 (fBlt (evA [(fVar 1)]) bLen) (fD (.int 0)) (fCmp .eq))])]) g_ByteReader__sure))
def lp_ByteReader__next_number_1 : State → Res Fl := (sSeq [(sAsg 2 (ev2 (ev2 (fVar 2) (fD (.int 128)) (binop .mul)) (fVar 3) (binop .add)))])
def t_ByteReader__next_number_4 : State → Res Fl := (sFor (.nm 3) (sD (fVar 1) revOf) lp_ByteReader__next_number_1)
def t_ByteReader__next_number_5 : State → Res Fl := (sRet (fVar 2))
def b_ByteReader__next_number : State → Res Fl := (sSeq [t_ByteReader__next_number_0, t_ByteReader__next_number_1, t_ByteReader__next_number_2, t_ByteReader__next_number_3, t_ByteReader__next_number_4, t_ByteReader__next_number_5])
def g_ByteReader__next_number : Fn := fnV 4 b_ByteReader__next_number
def t_ByteReader__next_rising_0 : State → Res Fl := (sAsg 2 (fLst []))
def lp_ByteReader__next_rising_0 : State → Res Fl := (sSeq [(sAsg 3 (fMth callX "ByteReader" "next_number" 1 (fVar 0) (evA []) g_ByteReader__next_number)), (sExpr (fMth callX "ByteReader" "sure" 2 (fVar 0) (evA [(fOrV [(ev2 (fVar 3) (fD (.int 0)) (fCmp .gt)), (ev2 (fBlt (evA [(fVar 2)]) bLen) (fD (.int 0)) (fCmp .eq))])]) g_ByteReader__sure)), (sExpr (fMt "list" (fVar 2) (evA [(ev2 (fBlt (evA [(fSl (fVar 2) (.ex (fNeg (fD (.int 1)))) .no)]) bSum) (fVar 3) (binop .add))]) bAppend tyLst))])
def t_ByteReader__next_rising_1 : State → Res Fl := (sWh wFuel (evB (ev2 (fBlt (evA [(fVar 2)]) bLen) (fVar 1) (fCmp .lt))) lp_ByteReader__next_rising_0)
def t_ByteReader__next_rising_2 : State → Res Fl := (sRet (fVar 2))
def b_ByteReader__next_rising : State → Res Fl := (sSeq [t_ByteReader__next_rising_0, t_ByteReader__next_rising_1, t_ByteReader__next_rising_2])
def g_ByteReader__next_rising : Fn := fnV 4 b_ByteReader__next_rising
def t_ByteReader__next_postings_0 : State → Res Fl := (sAsg 1 (fMth callX "ByteReader" "next_number" 1 (fVar 0) (evA []) g_ByteReader__next_number))
def t_ByteReader__next_postings_1 : State → Res Fl := (sAsg 2 (fLst []))
def t_ByteReader__next_postings_2 : State → Res Fl := (sAsg 3 (fD (.int 0)))
def lp_ByteReader__next_postings_0 : State → Res Fl := (sSeq [(sAsg 4 (fMth callX "ByteReader" "next_number" 1 (fVar 0) (evA []) g_ByteReader__next_number)), (sExpr (fMth callX "ByteReader" "sure" 2 (fVar 0) (evA [(fOrV [(ev2 (fVar 4) (fD (.int 0)) (fCmp .gt)), (ev2 (fBlt (evA [(fVar 2)]) bLen) (fD (.int 0)) (fCmp .eq))])]) g_ByteReader__sure)), (sAug 3 .add (fVar 4)), (sAsg 5 (fMth callX "ByteReader" "next_number" 1 (fVar 0) (evA []) g_ByteReader__next_number)), (sExpr (fMth callX "ByteReader" "sure" 2 (fVar 0) (evA [(ev2 (fVar 5) (fD (.int 0)) (fCmp .gt))]) g_ByteReader__sure)), (sExpr (fMt "list" (fVar 2) (evA [(fTup [(fVar 3), (fAl (fMth callX "ByteReader" "next_rising" 2 (fVar 0) (evA [(fVar 5)]) g_ByteReader__next_rising))])]) bAppend tyLst))])
def t_ByteReader__next_postings_3 : State → Res Fl := (sWh wFuel (evB (ev2 (fBlt (evA [(fVar 2)]) bLen) (fVar 1) (fCmp .lt))) lp_ByteReader__next_postings_0)
def t_ByteReader__next_postings_4 : State → Res Fl := (sRet (fVar 2))
def b_ByteReader__next_postings : State → Res Fl := (sSeq [t_ByteReader__next_postings_0, t_ByteReader__next_postings_1, t_ByteReader__next_postings_2, t_ByteReader__next_postings_3, t_ByteReader__next_postings_4])
def g_ByteReader__next_postings : Fn := fnV 6 b_ByteReader__next_postings
def t_read_postings_0 : State → Res Fl := (sAsg 1 (fMk callR "ByteReader" 2 (evA [(fVar 0)]) g_ByteReader____init__))
def t_read_postings_1 : State → Res Fl := (sRet (fMth callX "ByteReader" "ended" 2 (fVar 1) (evA [(fAl (fMth callX "ByteReader" "next_postings" 1 (fVar 1) (evA []) g_ByteReader__next_postings))]) g_ByteReader__ended))
def b_read_postings : State → Res Fl := (sSeq [t_read_postings_0, t_read_postings_1])
def g_read_postings : Fn := fnV 2 b_read_postings
def t_ByteReader__next_text_0 : State → Res Fl := (sAsg 1 (fMth callX "ByteReader" "next_number" 1 (fVar 0) (evA []) g_ByteReader__next_number))
def t_ByteReader__next_text_1 : State → Res Fl := (sAsg 2 (fLst []))
def lp_ByteReader__next_text_0 : State → Res Fl := (sSeq [(sAsg 3 (fMth callX "ByteReader" "next_byte" 1 (fVar 0) (evA []) g_ByteReader__next_byte)), (sExpr (fMth callX "ByteReader" "sure" 2 (fVar 0) (evA [(ev2 (fVar 3) (fFld fT "signs" (fVar 0)) (fCmp .isin))]) g_ByteReader__sure)), (sExpr (fMt "list" (fVar 2) (evA [(ev2 (fFld fT "signs" (fVar 0)) (fVar 3) ixv)]) bAppend tyLst))])
def t_ByteReader__next_text_2 : State → Res Fl := (sWh wFuel (evB (ev2 (fBlt (evA [(fVar 2)]) bLen) (fVar 1) (fCmp .lt))) lp_ByteReader__next_text_0)
def t_ByteReader__next_text_3 : State → Res Fl := (sRet (fMt "str" (fD (.str (sS ""))) (evA [(fVar 2)]) bJoin tyStr))
def b_ByteReader__next_text : State → Res Fl := (sSeq [t_ByteReader__next_text_0, t_ByteReader__next_text_1, t_ByteReader__next_text_2, t_ByteReader__next_text_3])
def g_ByteReader__next_text : Fn := fnV 4 b_ByteReader__next_text
def t_read_text_0 : State → Res Fl := (sAsg 1 (fMk callR "ByteReader" 2 (evA [(fVar 0)]) g_ByteReader____init__))
def t_read_text_1 : State → Res Fl := (sRet (fMth callX "ByteReader" "ended" 2 (fVar 1) (evA [(fMth callX "ByteReader" "next_text" 1 (fVar 1) (evA []) g_ByteReader__next_text)]) g_ByteReader__ended))
def b_read_text : State → Res Fl := (sSeq [t_read_text_0, t_read_text_1])
def g_read_text : Fn := fnV 2 b_read_text
theorem wh_yes {n : Nat} {t : State → Res Bool} {b : State → Res Fl} {s s1 s2 : State} (h1 : t s = .ok true s1) (h2 : b s1 = .ok .nx s2) : sWh (n + 1) t b s = sWh n t b s2 := by
  rw [sWh, h1, Res.bind_ok, if_pos rfl, h2]
theorem wh_no {n : Nat} {t : State → Res Bool} {b : State → Res Fl} {s s1 : State} (h1 : t s = .ok false s1) : sWh (n + 1) t b s = .ok .nx s1 := by
  rw [sWh, h1, Res.bind_ok, if_neg (by simp)]
@[simp] theorem e_fMth (call : Fn → List Val → State → Res RV) (c m : String) (n : Nat) (fo : State → Res RV) (fs : State → Res (List RV)) (g : Fn) (s : State) : fMth call c m n fo fs g s = (ev fo s).bind fun r s =>
  match insOf s r, r with
  | some (c', fl), .val x => if c' = c ∧ fl.contains m = false then (fs s).bind fun rs s => (capAll rs s).bind fun args s => if args.length + 1 = n then call g (x :: args) s else .stuck else .stuck
  | _, _ => .stuck := id rfl
@[simp] theorem e_fMk (call : Fn → List Val → State → Res RV) (c : String) (n : Nat) (fs : State → Res (List RV)) (g : Fn) (s : State) : fMk call c n fs g s = (fs s).bind fun rs s => (capAll rs s).bind fun args s =>
  if args.length + 1 = n then mkE s.st.length (call g (.r s.st.length :: args) ⟨s.sg, s.st ++ [.ins c []]⟩) else .stuck := id rfl
@[simp] theorem e_mkE (m : Nat) (s : State) : mkE m (.ok (.val (.d .non)) s) = .ok (.val (.r m)) s := id rfl
@[simp] theorem e_mkX (m : Nat) (x : Exn) (s : State) : mkE m (.exc x s) = .exc x s := id rfl
@[simp] theorem e_insOf (s : State) (n : Nat) : insOf s (.val (.r n)) = (match s.st[n]? with
    | some (.ins c fs) => some (c, fs.map Prod.fst)
    | _ => none) := by
  show (match ob s (.val (.r n)) with
    | some (.ins c fs) => some (c, fs.map Prod.fst)
    | _ => none) = _
  simp only [Vw.ob, nrm]
  cases h : s.st[n]? with
  | none => rfl
  | some o => cases o <;> rfl
@[simp] theorem e_fldR (T : List (String × String)) (f : String) (fo : State → Res RV) (s s' : State) (n : Nat) (c : String) (fs : List (String × Val)) (x : Val) (h : ev fo s = .ok (.val (.r n)) s') (e : s'.st[n]? = some (.ins c fs)) (ht : T.contains (c, f) = true) (hf : lkF fs f = some x) : fFld T f fo s = .ok (.val x) s' := by
  unfold fFld
  rw [h, Res.bind_ok]
  have e1 : dv s' (.val (.r n)) = none := rfl
  have e2 : ob s' (.val (.r n)) = some (.ins c fs) := by simp [Vw.ob, nrm, e]
  rw [e1, e2]
  simp [ht, hf]
  simpa using ht

theorem e_ixr {n : Nat} {l : List Val} {i : Int} {v : Val} {s : State} (h : s.st[n]? = some (.lst l)) (e : atI l i = some v) : ixv (.val (.r n)) (.val (.d (.int i))) s = .ok (.val v) s := by
  have o1 : Vw.ob s (.val (.r n)) = some (.lst l) := by simp [Vw.ob, nrm, h]
  have d1 : dv s (.val (.r n)) = none := rfl
  have d2 : dv s (.val (.d (.int i))) = some (.int i) := rfl
  have l1 : Vw.lv s (.val (.r n)) = some l := by unfold Vw.lv; rw [d1, o1]
  have g : dget s (.val (.r n)) (.val (.d (.int i))) = none := by
    unfold dget dcv dtv
    rw [d1, o1]
  unfold ixv
  rw [g]
  dsimp only
  rw [d1, d2, l1]
  dsimp only
  rw [e]
def nbI (n : Nat) : List Nat := if n < 128 then [] else (n % 128 + 128) :: nbI (n / 128)
termination_by n
def nbZ (n : Nat) : Nat := if n < 128 then n else nbZ (n / 128)
termination_by n
def nbH (n : Nat) : Nat := if n < 128 then n else n % 128 + 128
def nb (n : Nat) : List Nat := nbI n ++ [nbZ n]
theorem nbI_lt {n : Nat} (h : n < 128) : nbI n = [] := by rw [nbI, if_pos h]
theorem nbI_ge {n : Nat} (h : ¬ n < 128) : nbI n = (n % 128 + 128) :: nbI (n / 128) := by rw [nbI, if_neg h]
theorem nbZ_lt {n : Nat} (h : n < 128) : nbZ n = n := by rw [nbZ, if_pos h]
theorem nbZ_ge {n : Nat} (h : ¬ n < 128) : nbZ n = nbZ (n / 128) := by rw [nbZ, if_neg h]
theorem nb_lt {n : Nat} (h : n < 128) : nb n = [n] := by rw [nb, nbI_lt h, nbZ_lt h]; rfl
theorem nb_ge {n : Nat} (h : ¬ n < 128) : nb n = (n % 128 + 128) :: nb (n / 128) := by rw [nb, nbI_ge h, nbZ_ge h]; rfl
theorem nb_hd (n : Nat) : nb n = nbH n :: (nb n).tail := by
  by_cases h : n < 128
  · rw [nb_lt h, nbH, if_pos h]; rfl
  · rw [nb_ge h, nbH, if_neg h]; rfl
theorem nbH_le (n : Nat) : nbH n ≤ 255 := by unfold nbH; split <;> omega
theorem nb_le (n : Nat) : ∀ b ∈ nb n, b ≤ 255 := by
  induction n using Nat.strongRecOn with
  | ind n ih =>
    by_cases h : n < 128
    · rw [nb_lt h]; intro b hb; simp at hb; omega
    · rw [nb_ge h]
      intro b hb
      rcases List.mem_cons.mp hb with rfl | hb
      · omega
      · exact ih _ (by omega) b hb
theorem nbZ_pos (n : Nat) : nbZ n < 128 ∧ (0 < nbZ n ∨ nbI n = []) := by
  induction n using Nat.strongRecOn with
  | ind n ih =>
    by_cases h : n < 128
    · rw [nbZ_lt h, nbI_lt h]; exact ⟨h, .inr rfl⟩
    · obtain ⟨h1, h2⟩ := ih (n / 128) (by omega)
      rw [nbZ_ge h]
      refine ⟨h1, .inl ?_⟩
      rcases h2 with h2 | h2
      · exact h2
      · by_cases h3 : n / 128 < 128
        · rw [nbZ_lt h3]; omega
        · rw [nbI_ge h3] at h2; cases h2
theorem nb_back (n : Nat) : (nbI n).foldr (fun p b => b * 128 + (p - 128)) (nbZ n) = n := by
  induction n using Nat.strongRecOn with
  | ind n ih =>
    by_cases h : n < 128
    · rw [nbZ_lt h, nbI_lt h]; rfl
    · rw [nbZ_ge h, nbI_ge h, List.foldr_cons, ih _ (by omega)]
      omega
theorem nbI_len (n : Nat) : ∀ k, n < 128 ^ k → (nbI n).length ≤ k := by
  induction n using Nat.strongRecOn with
  | ind n ih =>
    intro k hk
    by_cases h : n < 128
    · rw [nbI_lt h]; simp
    · cases k with
      | zero => simp at hk; omega
      | succ k =>
        rw [nbI_ge h, List.length_cons]
        have := ih (n / 128) (by omega) k (by rw [Nat.pow_succ] at hk; omega)
        omega
def vN (b : Nat) : Val := vI (b : Int)
theorem nb_loop (sto : List Ob) : ∀ (fuel n : Nat) (acc : List Val), n < 128 ^ fuel → acc.length + fuel ≤ 2000000 → sWh (fuel + 1) (evB (ev2 (fVar 0) (fD (.int 128)) (fCmp .ge))) lp_number_bytes_0 ⟨[si n, so acc], sto⟩ = .ok .nx ⟨[si (nbZ n), so (acc ++ (nbI n).map vN)], sto⟩ := by
  have hd : DivB 128 = true := divB (by omega) (by omega)
  intro fuel
  induction fuel with
  | zero =>
    intro n acc hn ha
    have h : n < 128 := by simp at hn; omega
    rw [nbI_lt h, nbZ_lt h]
    refine (wh_no (s1 := ⟨[si n, so acc], sto⟩) ?_).trans (by simp)
    have : ¬ (128 : Int) ≤ n := by omega
    simp [this]
  | succ fuel ih =>
    intro n acc hn ha
    by_cases h : n < 128
    · rw [nbI_lt h, nbZ_lt h]
      refine (wh_no (s1 := ⟨[si n, so acc], sto⟩) ?_).trans (by simp)
      have : ¬ (128 : Int) ≤ n := by omega
      simp [this]
    · have z : acc.length < sizeLine := small' _ (by omega)
      have t1 : evB (ev2 (fVar 0) (fD (.int 128)) (fCmp .ge)) ⟨[si n, so acc], sto⟩ = .ok true ⟨[si n, so acc], sto⟩ := by
        have : (128 : Int) ≤ n := by omega
        simp [this]
      have t2 : lp_number_bytes_0 ⟨[si n, so acc], sto⟩ = .ok .nx ⟨[si ((n / 128 : Nat) : Int), so (acc ++ [vN (n % 128 + 128)])], sto⟩ := by
        simp [lp_number_bytes_0, hd, z, vN]
      rw [wh_yes t1 t2, ih (n / 128) _ (by rw [Nat.pow_succ] at hn; omega) (by simp; omega), nbI_ge h, nbZ_ge h]
      simp
theorem pow_mono {n k : Nat} (h : n < 128 ^ k) (hk : k ≤ 999999) : n < 128 ^ 999999 := Nat.lt_of_lt_of_le h (Nat.pow_le_pow_right (by omega) hk)
theorem number_bytes (n k : Nat) (h : n < 128 ^ k) (hk : k ≤ 100000) (sto : List Ob) : g_number_bytes [vN n] sto = .ok (.new (.lst ((nb n).map vN))) ⟨[], sto⟩ := by
  have hl := nbI_len n k h
  have z : ((nbI n).map vN).length + 1 ≤ sizeLine := small _ (by simp; omega)
  have e := nb_loop sto 999999 n [] (pow_mono h (by omega)) (by simp)
  have t0 : t_number_bytes_0 ⟨[si n, none], sto⟩ = .ok .nx ⟨[si n, so []], sto⟩ := by simp [t_number_bytes_0]
  have t1 : t_number_bytes_1 ⟨[si n, so []], sto⟩ = .ok .nx ⟨[si (nbZ n), so ((nbI n).map vN)], sto⟩ := e
  have t2 : t_number_bytes_2 ⟨[si (nbZ n), so ((nbI n).map vN)], sto⟩ = .ok (.ret (.new (.lst ((nb n).map vN)))) ⟨[si (nbZ n), so ((nbI n).map vN)], sto⟩ := by
    have z' : (nbI n).length + 1 ≤ sizeLine := by simpa using z
    have z1 : (1 : Nat) ≤ sizeLine := small _ (by omega)
    have add : bAdd (.own 1) (.val (.d (.lst [.int (nbZ n)]))) ⟨[si (nbZ n), so ((nbI n).map vN)], sto⟩ = .ok (.new (.lst ((nb n).map vN))) ⟨[si (nbZ n), so ((nbI n).map vN)], sto⟩ := by
      unfold bAdd
      simp [z', nb, vN]
    simp [t_number_bytes_2, z1, add]
  exact fn_at (n := 2) (b := b_number_bytes) (args := [vN n]) (st := sto) rfl ((seq_nx t0).trans ((seq_nx t1).trans (seq_end (r := []) t2))) rfl

def SIGNS : List Nat := sS " !\"#$&'()*+,-./0123456789:;<=>?@ABCDEFGHIJKLMNOPQRSTUVWXYZ[\\]^_`abcdefghijklmnopqrstuvwxyz{|}~"
def SG : List (K0 × D) := kmerge [] (SIGNS.map fun (c : Nat) => (K0.i (c : Int), D.str [c]))
def rdr (n k : Nat) : Ob := .ins "ByteReader" [("row", .r n), ("at", vN k), ("signs", .d (.dic SG))]
theorem sure (m : Nat) (sto : List Ob) : g_ByteReader__sure [.r m, .d (.bl true)] sto = .ok (.val (.d .non)) ⟨[], sto⟩ := by
  rw [g_ByteReader__sure, fnV_eq, b_ByteReader__sure]
  simp [t_ByteReader__sure_0]
theorem lkF_row (n k : Nat) : lkF [("row", Val.r n), ("at", vN k), ("signs", .d (.dic SG))] "row" = some (.r n) := rfl
theorem lkF_at (n k : Nat) : lkF [("row", Val.r n), ("at", vN k), ("signs", .d (.dic SG))] "at" = some (vN k) := rfl
theorem fT_row : fT.contains ("ByteReader", "row") = true := by decide
theorem fT_at : fT.contains ("ByteReader", "at") = true := by decide
theorem fT_signs : fT.contains ("ByteReader", "signs") = true := by decide
theorem fld_row (n k m : Nat) (sg : Slots) (sto : List Ob) (h0 : sg[0]? = some (some (.v (.r m)))) (hm : sto[m]? = some (rdr n k)) : fFld fT "row" (fVar 0) ⟨sg, sto⟩ = .ok (.val (.r n)) ⟨sg, sto⟩ :=
  e_fldR fT "row" (fVar 0) _ ⟨sg, sto⟩ m _ _ _ (by simp [h0]) hm fT_row (lkF_row n k)
theorem fld_at (n k m : Nat) (sg : Slots) (sto : List Ob) (h0 : sg[0]? = some (some (.v (.r m)))) (hm : sto[m]? = some (rdr n k)) : fFld fT "at" (fVar 0) ⟨sg, sto⟩ = .ok (.val (vN k)) ⟨sg, sto⟩ :=
  e_fldR fT "at" (fVar 0) _ ⟨sg, sto⟩ m _ _ _ (by simp [h0]) hm fT_at (lkF_at n k)
theorem next_byte (n m k b : Nat) (l : List Nat) (sto : List Ob) (hn : sto[n]? = some (.lst (l.map vN))) (hm : sto[m]? = some (rdr n k)) (hl : l.length ≤ 1000000) (hk : l[k]? = some b) (hb : b ≤ 255) :
    g_ByteReader__next_byte [.r m] sto = .ok (.val (vN b)) ⟨[], sto.set m (rdr n (k + 1))⟩ := by
  have hkl : k < l.length := (List.getElem?_eq_some_iff.mp hk).1
  have hat : atI (l.map vN) (k : Int) = some (vN b) := by
    rw [atI_pos (by omega) (by simp; omega)]
    simp [hk]
  have f1 := fun x => fld_row n k m [some (.v (.r m)), x] sto rfl hm
  have f2 := fun x => fld_at n k m [some (.v (.r m)), x] sto rfl hm
  have sr := sure m sto
  have z1 : l.length ≤ sizeLine := small _ (by omega)
  have t0 : t_ByteReader__next_byte_0 ⟨[some (.v (.r m)), none], sto⟩ = .ok .nx ⟨[some (.v (.r m)), none], sto⟩ := by
    simp [t_ByteReader__next_byte_0, f1, f2, sr, hm, hn, rdr, vN, hkl]
  have t1 : t_ByteReader__next_byte_1 ⟨[some (.v (.r m)), none], sto⟩ = .ok .nx ⟨[some (.v (.r m)), si b], sto⟩ := by
    have e1 := e_ixr (s := ⟨[some (.v (.r m)), none], sto⟩) hn hat
    simp only [vN] at e1
    simp [t_ByteReader__next_byte_1, f1, f2, vN, e1]
  have t2 : t_ByteReader__next_byte_2 ⟨[some (.v (.r m)), si b], sto⟩ = .ok .nx ⟨[some (.v (.r m)), si b], sto⟩ := by
    have h1 : (0 : Int) ≤ b := by omega
    have h2 : (b : Int) ≤ 255 := by omega
    simp [t_ByteReader__next_byte_2, ev3, sr, hm, rdr, h1, h2]
  have t3 : t_ByteReader__next_byte_3 ⟨[some (.v (.r m)), si b], sto⟩ = .ok .nx ⟨[some (.v (.r m)), si b], sto.set m (rdr n (k + 1))⟩ := by
    unfold t_ByteReader__next_byte_3 sFldA
    have fT' : ("ByteReader", "at") ∈ fT := by decide
    simp [augf, Vw.ob, nrm, hm, rdr, fT', lkF_at, vN]
    simp [lkF, ptF, vN]
  have t4 : t_ByteReader__next_byte_4 ⟨[some (.v (.r m)), si b], sto.set m (rdr n (k + 1))⟩ = .ok (.ret (.val (vN b))) ⟨[some (.v (.r m)), si b], sto.set m (rdr n (k + 1))⟩ := by
    simp [t_ByteReader__next_byte_4, vN]
  exact fn_at (n := 2) (b := b_ByteReader__next_byte) (args := [.r m]) (st := sto) rfl ((seq_nx t0).trans ((seq_nx t1).trans ((seq_nx t2).trans ((seq_nx t3).trans (seq_end (r := []) t4))))) rfl

theorem set2 (sto : List Ob) (m : Nat) (a b : Ob) : (sto.set m a).set m b = sto.set m b := by simp
theorem nn_loop (n m : Nat) (l : List Nat) (hl : l.length ≤ 1000000) (hnm : n ≠ m) (post : List Nat) : ∀ (fuel x k : Nat) (acc : List Val) (sto : List Ob), sto[n]? = some (.lst (l.map vN)) → sto[m]? = some (rdr n k) → x < 128 ^ fuel → acc.length + fuel ≤ 2000000 → l.drop k = (nb x).tail ++ post →
    sWh (fuel + 1) (evB (ev2 (fVar 2) (fD (.int 128)) (fCmp .ge))) lp_ByteReader__next_number_0 ⟨[some (.v (.r m)), so acc, si (nbH x), none], sto⟩ = .ok .nx ⟨[some (.v (.r m)), so (acc ++ (nbI x).map fun b => vN (b - 128)), si (nbZ x), none], sto.set m (rdr n (k + (nbI x).length))⟩ := by
  intro fuel
  have base : ∀ (fuel x k : Nat) (acc : List Val) (sto : List Ob), sto[m]? = some (rdr n k) → x < 128 → sWh (fuel + 1) (evB (ev2 (fVar 2) (fD (.int 128)) (fCmp .ge))) lp_ByteReader__next_number_0 ⟨[some (.v (.r m)), so acc, si (nbH x), none], sto⟩ = .ok .nx ⟨[some (.v (.r m)), so (acc ++ (nbI x).map fun b => vN (b - 128)), si (nbZ x), none], sto.set m (rdr n (k + (nbI x).length))⟩ := by
    intro fuel x k acc sto hm h
    rw [nbI_lt h, nbZ_lt h, nbH, if_pos h]
    have hs : sto.set m (rdr n k) = sto := List.ext_getElem? fun i => by
      rw [List.getElem?_set]
      split
      · rename_i e; subst e; rw [hm]; split
        · rfl
        · rename_i h2; rw [List.getElem?_eq_none (by omega)] at hm; cases hm
      · rfl
    refine (wh_no (s1 := ⟨[some (.v (.r m)), so acc, si x, none], sto⟩) ?_).trans (by simp [hs])
    have : ¬ (128 : Int) ≤ x := by omega
    simp [this]
  induction fuel with
  | zero =>
    intro x k acc sto hn hm hx ha hd
    exact base 0 x k acc sto hm (by simp at hx; omega)
  | succ fuel ih =>
    intro x k acc sto hn hm hx ha hd
    by_cases h : x < 128
    · exact base (fuel + 1) x k acc sto hm h
    · have z : acc.length < sizeLine := small' _ (by omega)
      rw [nb_ge h, List.tail_cons, nb_hd] at hd
      have hk : l[k]? = some (nbH (x / 128)) := by
        have := congrArg (fun y => y[0]?) hd
        simpa using this
      have hd' : l.drop (k + 1) = (nb (x / 128)).tail ++ post := by
        have := congrArg List.tail hd
        simpa using this
      have nbk := next_byte n m k _ l sto hn hm hl hk (nbH_le _)
      have eH : nbH x = x % 128 + 128 := by rw [nbH, if_neg h]
      have t1 : evB (ev2 (fVar 2) (fD (.int 128)) (fCmp .ge)) ⟨[some (.v (.r m)), so acc, si (nbH x), none], sto⟩ = .ok true ⟨[some (.v (.r m)), so acc, si (nbH x), none], sto⟩ := by
        have : (128 : Int) ≤ (nbH x : Nat) := by omega
        simp [this]
      have t2 : lp_ByteReader__next_number_0 ⟨[some (.v (.r m)), so acc, si (nbH x), none], sto⟩ = .ok .nx ⟨[some (.v (.r m)), so (acc ++ [vN (x % 128)]), si (nbH (x / 128)), none], sto.set m (rdr n (k + 1))⟩ := by
        have e0 : ((nbH x : Nat) : Int) - 128 = ((x % 128 : Nat) : Int) := by omega
        simp only [vN] at nbk
        simp [lp_ByteReader__next_number_0, z, vN, e0, hm, nbk, rdr]
      have hm' : m < sto.length := by
        by_cases h2 : m < sto.length
        · exact h2
        · rw [List.getElem?_eq_none (by omega)] at hm; cases hm
      rw [wh_yes t1 t2, ih (x / 128) (k + 1) _ _ (by rw [List.getElem?_set_ne (Ne.symm hnm)]; exact hn) (by rw [List.getElem?_set_self hm']) (by rw [Nat.pow_succ] at hx; omega) (by simp; omega) hd', nbI_ge h, nbZ_ge h, set2]
      have e3 : k + 1 + (nbI (x / 128)).length = k + ((nbI (x / 128)).length + 1) := by omega
      simp [e3]

theorem lt_of_get {sto : List Ob} {m : Nat} {o : Ob} (hm : sto[m]? = some o) : m < sto.length := by
  by_cases h2 : m < sto.length
  · exact h2
  · rw [List.getElem?_eq_none (by omega)] at hm; cases hm
theorem toDs_vN : ∀ l : List Nat, toDs (l.map vN) = some (l.map fun (p : Nat) => D.int (p : Int))
  | [] => rfl
  | c :: l => by rw [List.map_cons, vN, toDs, toDs_vN l]; rfl
theorem fold_ge : ∀ (l : List Nat) (b : Nat), b ≤ l.foldl (fun b p => b * 128 + p) b
  | [], b => Nat.le_refl _
  | p :: l, b => Nat.le_trans (by omega) (fold_ge l (b * 128 + p))
theorem log_lt {n e : Nat} (h : n < 128 ^ e) (he : 0 < e) : n.log2 < 7 * e := by
  by_cases h0 : n = 0
  · subst h0; simp; omega
  · rw [Nat.log2_lt h0, Nat.pow_mul]; exact h
theorem mulB128 {n e : Nat} (h : n < 128 ^ e) (he : e ≤ 100000) : MulB (n : Int) 128 = true := by
  refine decide_eq_true ?_
  have h1 : ((n : Int).natAbs).log2 ≤ 7 * 100000 := by
    rw [Int.natAbs_natCast]
    by_cases h0 : 0 < e
    · have := log_lt h h0; omega
    · have : n = 0 := by rw [show e = 0 by omega] at h; simpa using h
      subst this; simp
  have h2 : ((128 : Int).natAbs).log2 = 7 := by decide
  omega
theorem next_number (n m k x e : Nat) (l post : List Nat) (sto : List Ob) (hn : sto[n]? = some (.lst (l.map vN))) (hm : sto[m]? = some (rdr n k)) (hnm : n ≠ m) (hl : l.length ≤ 1000000) (hx : x < 128 ^ e) (he : e ≤ 100000) (hd : l.drop k = nb x ++ post) :
    g_ByteReader__next_number [.r m] sto = .ok (.val (vN x)) ⟨[], sto.set m (rdr n (k + (nb x).length))⟩ := by
  have hml := lt_of_get hm
  have hd0 := hd
  rw [nb_hd, List.cons_append] at hd0
  have hk : l[k]? = some (nbH x) := by
    have := congrArg (fun y => y[0]?) hd0
    simpa using this
  have hd' : l.drop (k + 1) = (nb x).tail ++ post := by
    have := congrArg List.tail hd0
    simpa using this
  have nbk := next_byte n m k _ l sto hn hm hl hk (nbH_le _)
  have hil := nbI_len x e hx
  let sto1 := sto.set m (rdr n (k + 1))
  let sto2 := sto.set m (rdr n (k + (nb x).length))
  have hm1 : sto1[m]? = some (rdr n (k + 1)) := by simp only [sto1]; rw [List.getElem?_set_self hml]
  have hn1 : sto1[n]? = some (.lst (l.map vN)) := by simp only [sto1]; rw [List.getElem?_set_ne (Ne.symm hnm)]; exact hn
  have hm2 : sto2[m]? = some (rdr n (k + (nb x).length)) := by simp only [sto2]; rw [List.getElem?_set_self hml]
  let P : List Nat := (nbI x).map (· - 128)
  let rm : Option Sl := some (.v (.r m))
  have t0 : t_ByteReader__next_number_0 ⟨[rm, none, none, none], sto⟩ = .ok .nx ⟨[rm, so [], none, none], sto⟩ := by simp [t_ByteReader__next_number_0]
  have t1 : t_ByteReader__next_number_1 ⟨[rm, so [], none, none], sto⟩ = .ok .nx ⟨[rm, so [], si (nbH x), none], sto1⟩ := by
    simp only [vN] at nbk
    simp [t_ByteReader__next_number_1, rm, hm, nbk, rdr, sto1, vN]
  have t2 : t_ByteReader__next_number_2 ⟨[rm, so [], si (nbH x), none], sto1⟩ = .ok .nx ⟨[rm, so (P.map vN), si (nbZ x), none], sto2⟩ := by
    have h := nn_loop n m l hl hnm post 999999 x (k + 1) [] sto1 hn1 hm1 (pow_mono hx (by omega)) (by simp) hd'
    have e1 : k + 1 + (nbI x).length = k + (nb x).length := by simp [nb]; omega
    rw [e1] at h
    have e2 : sto1.set m (rdr n (k + (nb x).length)) = sto2 := by simp [sto1, sto2]
    rw [e2] at h
    have e3 : ([] : List Val) ++ (nbI x).map (fun b => vN (b - 128)) = P.map vN := by simp [P]
    rw [e3] at h
    exact h
  have hPl : P.length ≤ 100000 := by simp [P]; omega
  have t3 : t_ByteReader__next_number_3 ⟨[rm, so (P.map vN), si (nbZ x), none], sto2⟩ = .ok .nx ⟨[rm, so (P.map vN), si (nbZ x), none], sto2⟩ := by
    have sr := sure m sto2
    have z1 : P.length ≤ sizeLine := small _ (by omega)
    rcases (nbZ_pos x).2 with h | h
    · have h' : (0 : Int) < (nbZ x : Nat) := by omega
      simp [t_ByteReader__next_number_3, rm, hm2, rdr, sr, h]
    · have h' : P = [] := by simp [P, h]
      by_cases h2 : 0 < nbZ x
      · simp [t_ByteReader__next_number_3, rm, hm2, rdr, sr, h2]
      · simp [t_ByteReader__next_number_3, rm, hm2, rdr, sr, h2, h']
  have t4 : ∃ d2, t_ByteReader__next_number_4 ⟨[rm, so (P.map vN), si (nbZ x), none], sto2⟩ = .ok .nx ⟨[rm, sd (.lst (P.map fun (p : Nat) => D.int (p : Int))), si x, d2], sto2⟩ := by
    have hsrc : sD (fVar 1) revOf ⟨[rm, so (P.map vN), si (nbZ x), none], sto2⟩ = .ok (P.reverse.map vN) ⟨[rm, sd (.lst (P.map fun (p : Nat) => D.int (p : Int))), si (nbZ x), none], sto2⟩ := by
      have hD : toDs (P.map vN) = some (P.map fun (p : Nat) => D.int (p : Int)) := toDs_vN P
      simp [hD, revOf, vN]
    obtain ⟨d2, h⟩ := for_fold (fun (b : Nat) (d : Option Sl) => (⟨[rm, sd (.lst (P.map fun (p : Nat) => D.int (p : Int))), si b, d], sto2⟩ : State)) vN (fun b p => b * 128 + p) (fun b l => l.foldl (fun b p => b * 128 + p) b = x) (t := .nm 3) (b := lp_ByteReader__next_number_1)
      (fun b d p l hb => ⟨hb, si p, by
        have hm := mulB128 (n := b) (e := e) (Nat.lt_of_le_of_lt (Nat.le_trans (fold_ge (p :: l) b) (Nat.le_of_eq hb)) hx) he
        simp [lp_ByteReader__next_number_1, vN, hm]⟩) P.reverse (nbZ x) none (by rw [List.foldl_reverse, List.foldr_map]; exact nb_back x)
    have ev : P.reverse.foldl (fun b p => b * 128 + p) (nbZ x) = x := by
      rw [List.foldl_reverse, List.foldr_map]
      exact nb_back x
    rw [ev] at h
    refine ⟨d2, ?_⟩
    rw [t_ByteReader__next_number_4, e_for, hsrc, Res.bind_ok]
    exact h
  obtain ⟨d2, t4⟩ := t4
  have t5 : t_ByteReader__next_number_5 ⟨[rm, sd (.lst (P.map fun (p : Nat) => D.int (p : Int))), si x, d2], sto2⟩ = .ok (.ret (.val (vN x))) ⟨[rm, sd (.lst (P.map fun (p : Nat) => D.int (p : Int))), si x, d2], sto2⟩ := by
    simp [t_ByteReader__next_number_5, vN]
  exact fn_at (n := 4) (b := b_ByteReader__next_number) (args := [.r m]) (st := sto) rfl ((seq_nx t0).trans ((seq_nx t1).trans ((seq_nx t2).trans ((seq_nx t3).trans ((seq_nx t4).trans (seq_end (r := []) t5)))))) rfl
theorem pairsOf : ∀ l : List Nat, pairVs (l.map fun (c : Nat) => .d (.tup [.int (c : Int), .str [c]])) = some (l.map fun (c : Nat) => (K0.i (c : Int), Val.d (.str [c])))
  | [] => rfl
  | c :: l => by rw [List.map_cons, pairVs, pairsOf l]; rfl
def SV : List (K0 × Val) := kmerge [] (SIGNS.map fun (c : Nat) => (K0.i (c : Int), Val.d (D.str [c])))
theorem sg_sv : (Ob.dic false SV).toD = some (.dic SG) := by rfl
@[simp] theorem e_bOrd (c : Nat) (s : State) : bOrd [.val (.d (.str [c]))] s = okv (.int (c : Int)) s := id rfl
theorem init (m n : Nat) (sto : List Ob) (hm : sto[m]? = some (.ins "ByteReader" [])) :
    g_ByteReader____init__ [.r m, .r n] sto = .ok (.val (.d .non)) ⟨[], sto.set m (rdr n 0)⟩ := by
  have hml := lt_of_get hm
  let rm : Option Sl := some (.v (.r m))
  let rn : Option Sl := some (.v (.r n))
  have fTr : ("ByteReader", "row") ∈ fT := by decide
  have fTa : ("ByteReader", "at") ∈ fT := by decide
  have fTs : ("ByteReader", "signs") ∈ fT := by decide
  have t0 : t_ByteReader____init___0 ⟨[rm, rn, none], sto⟩ = .ok .nx ⟨[rm, rn, none], sto.set m (.ins "ByteReader" [("row", .r n)])⟩ := by
    unfold t_ByteReader____init___0 sFldV
    simp [rm, rn, Vw.ob, nrm, hm, fTr, wr, ptF]
  have t1 : t_ByteReader____init___1 ⟨[rm, rn, none], sto.set m (.ins "ByteReader" [("row", .r n)])⟩ = .ok .nx ⟨[rm, rn, none], sto.set m (.ins "ByteReader" [("row", .r n), ("at", vN 0)])⟩ := by
    unfold t_ByteReader____init___1 sFldV
    simp [rm, rn, Vw.ob, nrm, hml, fTa, wr, ptF, vN]
  have t2 : t_ByteReader____init___2 ⟨[rm, rn, none], sto.set m (.ins "ByteReader" [("row", .r n), ("at", vN 0)])⟩ = .ok .nx ⟨[rm, rn, none], sto.set m (rdr n 0)⟩ := by
    have hc : ∀ st : List Ob, (fLc [2] (.nm 2) (sD (fD (.str SIGNS)) itemsOf) fTrue ce_ByteReader____init___0) ⟨[rm, rn, none], st⟩ = .ok (.new (.lst (SIGNS.map fun (c : Nat) => .d (.tup [.int (c : Int), .str [c]])))) ⟨[rm, rn, none], st⟩ := by
      intro st
      have zl : SIGNS.length ≤ 100 := by decide +kernel
      have z : SIGNS.length ≤ sizeLine := small _ (by omega)
      have h := lc_fm (vs := [2]) (t := .nm 2) (ft := fTrue) (fe := ce_ByteReader____init___0) (s := ⟨[rm, rn, none], st⟩) (fun (c : Nat) => .d (.str [c])) (fun (c : Nat) => some (.d (.tup [.int (c : Int), .str [c]]))) SIGNS [] (fun c _ => by
        simp [ce_ByteReader____init___0, rm, rn, (small _ (by omega) : (2 : Nat) ≤ sizeLine)]) (by simpa using z)
      simp [z, h, rm, rn]
    rw [show t_ByteReader____init___2 = sFldV fT "signs" (fVar 0) (fBlt (evA [(fLc [2] (.nm 2) (sD (fD (.str SIGNS)) itemsOf) fTrue ce_ByteReader____init___0)]) bDict) from rfl]
    unfold sFldV
    have hp : pairVs (SIGNS.map (Val.d ∘ fun (c : Nat) => D.tup [.int (c : Int), .str [c]])) = some (SIGNS.map fun (c : Nat) => (K0.i (c : Int), Val.d (.str [c]))) := pairsOf SIGNS
    have hset : ∀ s, Vw.settle (.new (.dic false (kmerge [] (SIGNS.map fun (c : Nat) => (K0.i (c : Int), Val.d (.str [c])))))) s = .ok (.val (.d (.dic SG))) s := fun s => by
      unfold Vw.settle
      dsimp only
      rw [show (Ob.dic false (kmerge [] (SIGNS.map fun (c : Nat) => (K0.i (c : Int), Val.d (.str [c]))))).toD = some (.dic SG) from sg_sv]
    have hcap' : ∀ s, Vw.cap (.val (.d (.dic SG))) s = .ok (.d (.dic SG)) s := fun s => rfl
    simp [hc, -e_lc, rm, rn, e_bDict, fTs, hp, hset, hcap', Vw.ob, nrm, hml, wr, ptF, rdr, vN]
  have tt := (seq_nx t0).trans ((seq_nx t1).trans ((seq_nx t2).trans (rfl : sSeq [] ⟨[rm, rn, none], sto.set m (rdr n 0)⟩ = .ok .nx ⟨[rm, rn, none], sto.set m (rdr n 0)⟩)))
  rw [g_ByteReader____init__, fnV_eq]
  show fnE (b_ByteReader____init__ ⟨[rm, rn, none], sto⟩) = _
  rw [show b_ByteReader____init__ ⟨[rm, rn, none], sto⟩ = .ok .nx ⟨[rm, rn, none], sto.set m (rdr n 0)⟩ from tt]
  rfl
theorem ended (n m k : Nat) (l : List Nat) (v : Val) (sto : List Ob) (hn : sto[n]? = some (.lst (l.map vN))) (hm : sto[m]? = some (rdr n k)) (hl : l.length ≤ 1000000) (hk : k = l.length) :
    g_ByteReader__ended [.r m, v] sto = .ok (.val v) ⟨[], sto⟩ := by
  have f1 := fun x => fld_row n k m [some (.v (.r m)), x] sto rfl hm
  have f2 := fun x => fld_at n k m [some (.v (.r m)), x] sto rfl hm
  have sr := sure m sto
  have z1 : l.length ≤ sizeLine := small _ (by omega)
  have t0 : t_ByteReader__ended_0 ⟨[some (.v (.r m)), some (.v v)], sto⟩ = .ok .nx ⟨[some (.v (.r m)), some (.v v)], sto⟩ := by
    simp [t_ByteReader__ended_0, f1, f2, sr, hm, hn, rdr, vN, hk]
  have t1 : t_ByteReader__ended_1 ⟨[some (.v (.r m)), some (.v v)], sto⟩ = .ok (.ret (.val v)) ⟨[some (.v (.r m)), some (.v v)], sto⟩ := by
    simp [t_ByteReader__ended_1]
  exact fn_at (n := 2) (b := b_ByteReader__ended) (args := [.r m, v]) (st := sto) rfl ((seq_nx t0).trans (seq_end (r := []) t1)) rfl
end Br

namespace Br
open PySem L2 PyProof.Rows Vw
theorem add_dd (a b : List Nat) (s : State) (h : a.length + b.length ≤ 1000000) : bAdd (.val (.d (.lst (a.map fun (x : Nat) => D.int (x : Int))))) (.val (.d (.lst (b.map fun (x : Nat) => D.int (x : Int))))) s = .ok (.new (.lst ((a ++ b).map vN))) s := by
  have z : a.length + b.length ≤ sizeLine := small _ (by omega)
  unfold bAdd
  simp [z, vN, Function.comp_def]
  rfl
theorem e_addB (x y : RV) (s : State) : binop .add x y s = bAdd x y s := by simp
theorem lsD (a : List Nat) (s : State) : Vw.settle (.new (.lst (a.map vN))) s = .ok (.val (.d (.lst (a.map fun (x : Nat) => D.int (x : Int))))) s := by
  unfold Vw.settle
  dsimp only
  rw [show (Ob.lst (a.map vN)).toD = some (.lst (a.map fun (x : Nat) => D.int (x : Int))) by simp [Ob.toD, toDs_vN]]
theorem text_bytes (t : List Nat) (ht : t.length ≤ 1000) (sto : List Ob) : g_text_bytes [.d (.str t)] sto = .ok (.new (.lst ((nb t.length ++ t).map vN))) ⟨[], sto⟩ := by
  have hx : t.length < 128 ^ 2 := by omega
  have hn := number_bytes t.length 2 hx (by omega) sto
  have hl := nbI_len t.length 2 hx
  have hl' : (nb t.length).length ≤ 3 := by simp [nb]; omega
  have z : t.length ≤ sizeLine := small _ (by omega)
  have h := lc_fm (vs := [1]) (t := .nm 1) (ft := fTrue) (fe := ce_text_bytes_0) (s := ⟨[sd (.str t), none], sto⟩) (fun (c : Nat) => .d (.str [c])) (fun (c : Nat) => some (vN c)) t [] (fun c _ => by
    simp [ce_text_bytes_0, vN]) (by simpa using z)
  have e1 : ev (fCall 1 (evA [(fBlt (evA [(fVar 0)]) bLen)]) g_number_bytes) ⟨[sd (.str t), none], sto⟩ = .ok (.val (.d (.lst ((nb t.length).map fun (x : Nat) => D.int (x : Int))))) ⟨[sd (.str t), none], sto⟩ := by
    have hn' : g_number_bytes [vI t.length] sto = .ok (.new (.lst ((nb t.length).map vN))) ⟨[], sto⟩ := hn
    have := lsD (nb t.length) ⟨[sd (.str t), none], sto⟩
    simp [z, hn']
    exact this
  have e2 : ev (fLc [1] (.nm 1) (sD (fVar 0) itemsOf) fTrue ce_text_bytes_0) ⟨[sd (.str t), none], sto⟩ = .ok (.val (.d (.lst (t.map fun (x : Nat) => D.int (x : Int))))) ⟨[sd (.str t), none], sto⟩ := by
    have := lsD t ⟨[sd (.str t), none], sto⟩
    simp [z, h]
    exact this
  have t0 : t_text_bytes_0 ⟨[sd (.str t), none], sto⟩ = .ok (.ret (.new (.lst ((nb t.length ++ t).map vN)))) ⟨[sd (.str t), none], sto⟩ := by
    have := add_dd (nb t.length) t ⟨[sd (.str t), none], sto⟩ (by omega)
    simp only [t_text_bytes_0, sRet, ev2, e1, e2, Res.bind_ok, e_addB]
    rw [this]
    rfl
  exact fn_at (n := 2) (b := b_text_bytes) (args := [.d (.str t)]) (st := sto) rfl (seq_end (r := []) t0) rfl
def dB : Nat → List Nat → List Nat
  | _, [] => []
  | a, p :: l => nb (p - a) ++ dB p l
def Inc : Nat → List Nat → Prop
  | _, [] => True
  | a, p :: l => a ≤ p ∧ p < 128 ^ 50 ∧ Inc p l
theorem nb_len {n : Nat} (h : n < 128 ^ 50) : (nb n).length ≤ 51 := by
  have := nbI_len n 50 h
  simp [nb]
  omega
theorem dB_len : ∀ (l : List Nat) (a : Nat), Inc a l → (dB a l).length ≤ 51 * l.length
  | [], a, h => by simp [dB]
  | p :: l, a, h => by
    have h1 := dB_len l p h.2.2
    have h2 := nb_len (n := p - a) (by have := h.2.1; omega)
    simp [dB]
    omega
theorem place_turn (x0 : Option Sl) (acc : List Nat) (a p : Nat) (h : a ≤ p) (hp : p < 128 ^ 50) (hz : acc.length ≤ 100000) (x3 : Option Sl) (sto : List Ob) :
    trn (.nm 3) lp_places_bytes_0 (vN p) ⟨[x0, so (acc.map vN), si a, x3], sto⟩ = .ok .nx ⟨[x0, so ((acc ++ nb (p - a)).map vN), si p, si p], sto⟩ := by
  have hn := number_bytes (p - a) 50 (by omega) (by omega) sto
  have hl := nb_len (n := p - a) (by omega)
  have e : (p : Int) - (a : Int) = ((p - a : Nat) : Int) := by omega
  have hn' : g_number_bytes [vI ((p - a : Nat) : Int)] sto = .ok (.new (.lst ((nb (p - a)).map vN))) ⟨[], sto⟩ := hn
  have z : acc.length + (nb (p - a)).length ≤ sizeLine := small _ (by omega)
  simp [lp_places_bytes_0, vN, e, hn', z]
theorem places_bytes (l : List Nat) (h : Inc 0 l) (hl : l.length ≤ 1000) (sto : List Ob) : g_places_bytes [.d (.lst (l.map fun (p : Nat) => .int (p : Int)))] sto = .ok (.new (.lst ((dB 0 l).map vN))) ⟨[], sto⟩ := by
  let x0 : Option Sl := sd (.lst (l.map fun (p : Nat) => .int (p : Int)))
  have t0 : t_places_bytes_0 ⟨[x0, none, none, none], sto⟩ = .ok .nx ⟨[x0, so [], none, none], sto⟩ := by simp [t_places_bytes_0]
  have t1 : t_places_bytes_1 ⟨[x0, so [], none, none], sto⟩ = .ok .nx ⟨[x0, so [], si 0, none], sto⟩ := by simp [t_places_bytes_1]
  obtain ⟨d2, hf⟩ := for_fold (fun (x : List Nat × Nat) (d : Option Sl) => (⟨[x0, so (x.1.map vN), si x.2, d], sto⟩ : State)) vN (fun x p => (x.1 ++ nb (p - x.2), p)) (fun x l => Inc x.2 l ∧ x.1.length + 51 * l.length ≤ 100000) (t := .nm 3) (b := lp_places_bytes_0)
    (fun x d p l ⟨h1, h2⟩ => by
      have hn := nb_len (n := p - x.2) (by have := h1.2.1; omega)
      simp only [List.length_cons] at h2
      exact ⟨⟨h1.2.2, by simp; omega⟩, si p, place_turn x0 x.1 x.2 p h1.1 h1.2.1 (by omega) d sto⟩) l ([], 0) none ⟨h, by simp; omega⟩
  have hfold : ∀ (l : List Nat) (x : List Nat × Nat), (l.foldl (fun x p => (x.1 ++ nb (p - x.2), p)) x).1 = x.1 ++ dB x.2 l := fun l => by
    induction l with
    | nil => intro x; simp [dB]
    | cons p l ih => intro x; rw [List.foldl_cons, ih]; simp [dB]
  have t2 : ∃ z, t_places_bytes_2 ⟨[x0, so [], si 0, none], sto⟩ = .ok .nx ⟨[x0, so ((dB 0 l).map vN), z, d2], sto⟩ := by
    have hsrc : sD (fVar 0) itemsOf ⟨[x0, so [], si 0, none], sto⟩ = .ok (l.map vN) ⟨[x0, so [], si 0, none], sto⟩ := by
      simp [x0, vN]
    have e := hfold l ([], 0)
    simp only [List.nil_append] at e
    generalize l.foldl (fun x p => (x.1 ++ nb (p - x.2), p)) (([] : List Nat), 0) = F at hf e
    rw [← e]
    refine ⟨si F.2, ?_⟩
    rw [t_places_bytes_2, e_for, hsrc, Res.bind_ok]
    exact hf
  obtain ⟨z, t2⟩ := t2
  have t3 : t_places_bytes_3 ⟨[x0, so ((dB 0 l).map vN), z, d2], sto⟩ = .ok (.ret (.own 1)) ⟨[x0, so ((dB 0 l).map vN), z, d2], sto⟩ := by
    simp [t_places_bytes_3]
  exact fn_at (n := 4) (b := b_places_bytes) (args := [.d (.lst (l.map fun (p : Nat) => .int (p : Int)))]) (st := sto) rfl ((seq_nx t0).trans ((seq_nx t1).trans ((seq_nx t2).trans (seq_end (r := []) t3)))) rfl
abbrev Po := List (Nat × List Nat)
def poD (p : Nat × List Nat) : D := .tup [.int (p.1 : Int), .lst (p.2.map fun (x : Nat) => .int (x : Int))]
def pB : Nat → Po → List Nat
  | _, [] => []
  | a, p :: l => nb (p.1 - a) ++ nb p.2.length ++ dB 0 p.2 ++ pB p.1 l
def IncP : Nat → Po → Prop
  | _, [] => True
  | a, p :: l => a ≤ p.1 ∧ p.1 < 128 ^ 50 ∧ (Inc 0 p.2 ∧ p.2.length ≤ 100) ∧ IncP p.1 l
theorem post_turn (x0 : Option Sl) (acc : List Nat) (a : Nat) (p : Nat × List Nat) (h : a ≤ p.1) (hp : p.1 < 128 ^ 50) (hi : Inc 0 p.2) (hl : p.2.length ≤ 100) (hz : acc.length ≤ 100000) (x3 x4 : Option Sl) (sto : List Ob) :
    trn (.tp [.nm 3, .nm 4]) lp_postings_bytes_0 (.d (poD p)) ⟨[x0, so (acc.map vN), si a, x3, x4], sto⟩ = .ok .nx ⟨[x0, so ((acc ++ (nb (p.1 - a) ++ nb p.2.length ++ dB 0 p.2)).map vN), si p.1, si p.1, sd (.lst (p.2.map fun (x : Nat) => .int (x : Int)))], sto⟩ := by
  obtain ⟨m, ps⟩ := p
  simp only at h hp hi hl ⊢
  let G : Slots := [x0, so (acc.map vN), si a, si m, sd (.lst (ps.map fun (x : Nat) => .int (x : Int)))]
  have hn := number_bytes (m - a) 50 (by omega) (by omega) sto
  have hn2 := number_bytes ps.length 50 (by omega) (by omega) sto
  have hl1 := nb_len (n := m - a) (by omega)
  have hl2 := nb_len (n := ps.length) (by omega)
  have hl3 := dB_len ps 0 hi
  have hn3 := places_bytes ps hi (by omega) sto
  have e : (m : Int) - (a : Int) = ((m - a : Nat) : Int) := by omega
  have hn' : g_number_bytes [vI ((m - a : Nat) : Int)] sto = .ok (.new (.lst ((nb (m - a)).map vN))) ⟨[], sto⟩ := hn
  have hn2' : g_number_bytes [vI (ps.length : Int)] sto = .ok (.new (.lst ((nb ps.length).map vN))) ⟨[], sto⟩ := hn2
  have zp : ps.length ≤ sizeLine := small _ (by omega)
  have z1 : ((nb (m - a)).map vN).length + ((nb ps.length).map vN).length ≤ sizeLine := small _ (by simp; omega)
  have hs1 := lsD (nb (m - a)) ⟨G, sto⟩
  have hs2 := lsD (nb ps.length) ⟨G, sto⟩
  have hs3 := lsD (dB 0 ps) ⟨G, sto⟩
  have hs4 := lsD (nb (m - a) ++ nb ps.length) ⟨G, sto⟩
  have a1 := add_dd (nb (m - a)) (nb ps.length) ⟨G, sto⟩ (by omega)
  have a2 := add_dd (nb (m - a) ++ nb ps.length) (dB 0 ps) ⟨G, sto⟩ (by simp; omega)
  have e1 : ev (fCall 1 (evA [(ev2 (fVar 3) (fVar 2) (binop .sub))]) g_number_bytes) ⟨G, sto⟩ = .ok (.val (.d (.lst ((nb (m - a)).map fun (x : Nat) => D.int (x : Int))))) ⟨G, sto⟩ := by
    simp only [G] at hs1 ⊢
    simp [e, hn']
    exact hs1
  have e2 : ev (fCall 1 (evA [(fBlt (evA [(fVar 4)]) bLen)]) g_number_bytes) ⟨G, sto⟩ = .ok (.val (.d (.lst ((nb ps.length).map fun (x : Nat) => D.int (x : Int))))) ⟨G, sto⟩ := by
    simp only [G] at hs2 ⊢
    simp [zp, hn2']
    exact hs2
  have e3 : ev (fCall 1 (evA [(fVar 4)]) g_places_bytes) ⟨G, sto⟩ = .ok (.val (.d (.lst ((dB 0 ps).map fun (x : Nat) => D.int (x : Int))))) ⟨G, sto⟩ := by
    simp only [G] at hs3 ⊢
    simp [hn3]
    exact hs3
  have e4 : (ev2 (ev2 (fCall 1 (evA [(ev2 (fVar 3) (fVar 2) (binop .sub))]) g_number_bytes) (fCall 1 (evA [(fBlt (evA [(fVar 4)]) bLen)]) g_number_bytes) (binop .add)) (fCall 1 (evA [(fVar 4)]) g_places_bytes) (binop .add)) ⟨G, sto⟩ = .ok (.new (.lst ((nb (m - a) ++ nb ps.length ++ dB 0 ps).map vN))) ⟨G, sto⟩ := by
    have e5 : ev (ev2 (fCall 1 (evA [(ev2 (fVar 3) (fVar 2) (binop .sub))]) g_number_bytes) (fCall 1 (evA [(fBlt (evA [(fVar 4)]) bLen)]) g_number_bytes) (binop .add)) ⟨G, sto⟩ = .ok (.val (.d (.lst ((nb (m - a) ++ nb ps.length).map fun (x : Nat) => D.int (x : Int))))) ⟨G, sto⟩ := by
      rw [e_ev, ev2, e1, Res.bind_ok, e2, Res.bind_ok, e_addB, a1, Res.bind_ok]
      exact hs4
    rw [ev2, e5, Res.bind_ok, e3, Res.bind_ok, e_addB, a2]
  have z5 : acc.length + ((nb (m - a)).length + ((nb ps.length).length + (dB 0 ps).length)) ≤ sizeLine := small _ (by omega)
  have u0 : sExpr (fExt (fVar 1) (ev2 (ev2 (fCall 1 (evA [(ev2 (fVar 3) (fVar 2) (binop .sub))]) g_number_bytes) (fCall 1 (evA [(fBlt (evA [(fVar 4)]) bLen)]) g_number_bytes) (binop .add)) (fCall 1 (evA [(fVar 4)]) g_places_bytes) (binop .add))) ⟨G, sto⟩ = .ok .nx ⟨[x0, so ((acc ++ (nb (m - a) ++ nb ps.length ++ dB 0 ps)).map vN), si a, si m, sd (.lst (ps.map fun (x : Nat) => .int (x : Int)))], sto⟩ := by
    have e0 : ev (fVar 1) ⟨G, sto⟩ = .ok (.own 1) ⟨G, sto⟩ := by simp [G]
    have et : tyLst ⟨G, sto⟩ (.own 1) = true := by simp [G]
    rw [e_expr, e_fExt, e0, Res.bind_ok, et, if_pos rfl, e4, Res.bind_ok]
    simp [G, z5]
  have hb : lp_postings_bytes_0 ⟨G, sto⟩ = .ok .nx ⟨[x0, so ((acc ++ (nb (m - a) ++ nb ps.length ++ dB 0 ps)).map vN), si m, si m, sd (.lst (ps.map fun (x : Nat) => .int (x : Int)))], sto⟩ :=
    (seq_nx u0).trans (seq_nx (r := []) (by simp))
  simp only [G] at hb
  have ha : asgT (.tp [.nm 3, .nm 4]) (.d (poD (m, ps))) ⟨[x0, so (acc.map vN), si a, x3, x4], sto⟩ = some ⟨[x0, so (acc.map vN), si a, si m, sd (.lst (ps.map fun (x : Nat) => .int (x : Int)))], sto⟩ := by
    simp [poD]
  rw [e_trn, ha]
  dsimp only
  rw [hb]
  rfl
theorem pB_len : ∀ (l : Po) (a : Nat), IncP a l → (pB a l).length ≤ 6000 * l.length
  | [], a, h => by simp [pB]
  | p :: l, a, h => by
    have h1 := pB_len l p.1 h.2.2.2
    have h2 := nb_len (n := p.1 - a) (by have := h.2.1; omega)
    have h3 := nb_len (n := p.2.length) (by have := h.2.2.1.2; omega)
    have h4 := dB_len p.2 0 h.2.2.1.1
    have h5 := h.2.2.1.2
    simp [pB]
    omega
theorem postings_bytes (l : Po) (h : IncP 0 l) (hl : l.length ≤ 10) (sto : List Ob) : g_postings_bytes [.d (.lst (l.map poD))] sto = .ok (.new (.lst ((nb l.length ++ pB 0 l).map vN))) ⟨[], sto⟩ := by
  let x0 : Option Sl := sd (.lst (l.map poD))
  have hn := number_bytes l.length 50 (by omega) (by omega) sto
  have hn' : g_number_bytes [vI (l.length : Int)] sto = .ok (.new (.lst ((nb l.length).map vN))) ⟨[], sto⟩ := hn
  have hl1 := nb_len (n := l.length) (by omega)
  have zl : l.length ≤ sizeLine := small _ (by omega)
  have t0 : t_postings_bytes_0 ⟨[x0, none, none, none, none], sto⟩ = .ok .nx ⟨[x0, so ((nb l.length).map vN), none, none, none], sto⟩ := by simp [t_postings_bytes_0, x0, zl, hn']
  have t1 : t_postings_bytes_1 ⟨[x0, so ((nb l.length).map vN), none, none, none], sto⟩ = .ok .nx ⟨[x0, so ((nb l.length).map vN), si 0, none, none], sto⟩ := by simp [t_postings_bytes_1]
  obtain ⟨d2, hf⟩ := for_fold (fun (x : List Nat × Nat) (d : Option Sl × Option Sl) => (⟨[x0, so (x.1.map vN), si x.2, d.1, d.2], sto⟩ : State)) (fun p => .d (poD p)) (fun x p => (x.1 ++ (nb (p.1 - x.2) ++ nb p.2.length ++ dB 0 p.2), p.1)) (fun x l => IncP x.2 l ∧ x.1.length + 6000 * l.length ≤ 100000) (t := .tp [.nm 3, .nm 4]) (b := lp_postings_bytes_0)
    (fun x d p l ⟨h1, h2⟩ => by
      have h2' := nb_len (n := p.1 - x.2) (by have := h1.2.1; omega)
      have h3 := nb_len (n := p.2.length) (by have := h1.2.2.1.2; omega)
      have h4 := dB_len p.2 0 h1.2.2.1.1
      have h5 := h1.2.2.1.2
      simp only [List.length_cons] at h2
      exact ⟨⟨h1.2.2.2, by simp; omega⟩, (si p.1, sd (.lst (p.2.map fun (x : Nat) => .int (x : Int)))), post_turn x0 x.1 x.2 p h1.1 h1.2.1 h1.2.2.1.1 h1.2.2.1.2 (by omega) d.1 d.2 sto⟩) l (nb l.length, 0) (none, none) ⟨h, by simp; omega⟩
  have hfold : ∀ (l : Po) (x : List Nat × Nat), (l.foldl (fun x p => (x.1 ++ (nb (p.1 - x.2) ++ nb p.2.length ++ dB 0 p.2), p.1)) x).1 = x.1 ++ pB x.2 l := fun l => by
    induction l with
    | nil => intro x; simp [pB]
    | cons p l ih => intro x; rw [List.foldl_cons, ih]; simp [pB]
  have t2 : ∃ z, t_postings_bytes_2 ⟨[x0, so ((nb l.length).map vN), si 0, none, none], sto⟩ = .ok .nx ⟨[x0, so ((nb l.length ++ pB 0 l).map vN), z, d2.1, d2.2], sto⟩ := by
    have hsrc : sD (fVar 0) itemsOf ⟨[x0, so ((nb l.length).map vN), si 0, none, none], sto⟩ = .ok (l.map fun p => .d (poD p)) ⟨[x0, so ((nb l.length).map vN), si 0, none, none], sto⟩ := by
      simp [x0]
    have e := hfold l (nb l.length, 0)
    simp only at e
    generalize l.foldl (fun x p => (x.1 ++ (nb (p.1 - x.2) ++ nb p.2.length ++ dB 0 p.2), p.1)) (nb l.length, 0) = F at hf e
    rw [← e]
    refine ⟨si F.2, ?_⟩
    rw [t_postings_bytes_2, e_for, hsrc, Res.bind_ok]
    exact hf
  obtain ⟨z, t2⟩ := t2
  have t3 : t_postings_bytes_3 ⟨[x0, so ((nb l.length ++ pB 0 l).map vN), z, d2.1, d2.2], sto⟩ = .ok (.ret (.own 1)) ⟨[x0, so ((nb l.length ++ pB 0 l).map vN), z, d2.1, d2.2], sto⟩ := by
    simp [t_postings_bytes_3]
  exact fn_at (n := 5) (b := b_postings_bytes) (args := [.d (.lst (l.map poD))]) (st := sto) rfl ((seq_nx t0).trans ((seq_nx t1).trans ((seq_nx t2).trans (seq_end (r := []) t3)))) rfl
end Br
namespace Br
open PySem L2 PyProof.Rows Vw
def LastOf (f : List Nat) (a : Nat) : Prop := (f = [] ∧ a = 0) ∨ ∃ g, f = g ++ [a]
def IncS : Nat → List Nat → Prop
  | _, [] => True
  | a, p :: l => a < p ∧ p < 128 ^ 50 ∧ IncS p l
def Stp (f : List Nat) (a : Nat) : List Nat → Prop
  | [] => True
  | p :: l => (f = [] ∨ a < p) ∧ a ≤ p ∧ p < 128 ^ 50 ∧ IncS p l
theorem Stp.next {f g : List Nat} {a p : Nat} {l : List Nat} (h : Stp f a (p :: l)) : Stp g p l := by
  cases l with
  | nil => trivial
  | cons q l => exact ⟨.inr h.2.2.2.1, Nat.le_of_lt h.2.2.2.1, h.2.2.2.2.1, h.2.2.2.2.2⟩
theorem wh_succ {n : Nat} {t : State → Res Bool} {b : State → Res Fl} {s s1 s2 : State} (h : 0 < n) (h1 : t s = .ok true s1) (h2 : b s1 = .ok .nx s2) : sWh n t b s = sWh (n - 1) t b s2 := by
  obtain ⟨k, rfl⟩ : ∃ k, n = k + 1 := ⟨n - 1, by omega⟩
  exact wh_yes h1 h2
theorem cutL_lastV {α : Type} (P : List α) (z : α) : cutL (P ++ [z]) (some (-1)) none = [z] := by
  unfold cutL HT.sIx
  have e : ((-1 : Int) + ((P ++ [z]).length : Nat)).toNat = P.length := by simp; omega
  simp only [show (-1 : Int) < 0 from by omega, if_true, e]
  simp
theorem bS0 (s : State) : bSum [.val (.d (.lst []))] s = okv (.int 0) s := rfl
theorem bS1 (a : Int) (s : State) : bSum [.val (.d (.lst [.int a]))] s = okv (.int a) s := by
  show okv (.int (List.sum [a])) s = _
  simp
theorem nr_loop (n m : Nat) (l : List Nat) (hl : l.length ≤ 1000000) (hnm : n ≠ m) (post : List Nat) : ∀ (q f : List Nat) (a k fuel : Nat) (x3 : Option Sl) (sto : List Ob), q.length ≤ fuel → f.length + q.length ≤ 1000 → LastOf f a → Stp f a q → sto[n]? = some (.lst (l.map vN)) → sto[m]? = some (rdr n k) → l.drop k = dB a q ++ post →
    ∃ x3', sWh (fuel + 1) (evB (ev2 (fBlt (evA [(fVar 2)]) bLen) (fVar 1) (fCmp .lt))) lp_ByteReader__next_rising_0 ⟨[some (.v (.r m)), si ((f.length + q.length : Nat) : Int), so (f.map vN), x3], sto⟩ = .ok .nx ⟨[some (.v (.r m)), si ((f.length + q.length : Nat) : Int), so ((f ++ q).map vN), x3'], sto.set m (rdr n (k + (dB a q).length))⟩ := by
  intro q
  induction q with
  | nil =>
    intro f a k fuel x3 sto hf hz hlast hst hn hm hd
    have hs : sto.set m (rdr n k) = sto := List.ext_getElem? fun i => by
      rw [List.getElem?_set]
      split
      · rename_i e; subst e; rw [hm]; split
        · rfl
        · rename_i h2; rw [List.getElem?_eq_none (by omega)] at hm; cases hm
      · rfl
    have z : f.length ≤ sizeLine := small _ (by simp at hz; omega)
    refine ⟨x3, (wh_no (s1 := ⟨[some (.v (.r m)), si ((f.length + 0 : Nat) : Int), so (f.map vN), x3], sto⟩) ?_).trans (by simp [hs, dB])⟩
    simp [z]
  | cons p q ih =>
    intro f a k fuel x3 sto hf hz hlast hst hn hm hd
    simp only [List.length_cons] at hf hz
    obtain ⟨h1, h2, h3, h4⟩ := hst
    have hml := lt_of_get hm
    have z : f.length ≤ sizeLine := small _ (by omega)
    have z' : f.length < sizeLine := small' _ (by omega)
    have hd1 : l.drop k = nb (p - a) ++ (dB p q ++ post) := by rw [hd, dB, List.append_assoc]
    have hd2 : l.drop (k + (nb (p - a)).length) = dB p q ++ post := by
      rw [← List.drop_drop, hd1, List.drop_left]
    have nn := next_number n m k (p - a) 50 l (dB p q ++ post) sto hn hm hnm hl (by omega) (by omega) hd1
    let rm : Option Sl := some (.v (.r m))
    let N : Int := ((f.length + (q.length + 1) : Nat) : Int)
    let sto1 := sto.set m (rdr n (k + (nb (p - a)).length))
    have hm1 : sto1[m]? = some (rdr n (k + (nb (p - a)).length)) := by simp only [sto1]; rw [List.getElem?_set_self hml]
    have hn1 : sto1[n]? = some (.lst (l.map vN)) := by simp only [sto1]; rw [List.getElem?_set_ne (Ne.symm hnm)]; exact hn
    have t1 : evB (ev2 (fBlt (evA [(fVar 2)]) bLen) (fVar 1) (fCmp .lt)) ⟨[rm, si N, so (f.map vN), x3], sto⟩ = .ok true ⟨[rm, si N, so (f.map vN), x3], sto⟩ := by
      have : (f.length : Int) < N := by simp only [N]; omega
      simp [z, this]
    have u0 : sAsg 3 (fMth callX "ByteReader" "next_number" 1 (fVar 0) (evA []) g_ByteReader__next_number) ⟨[rm, si N, so (f.map vN), x3], sto⟩ = .ok .nx ⟨[rm, si N, so (f.map vN), si ((p - a : Nat) : Int)], sto1⟩ := by
      simp only [vN] at nn
      simp [rm, hm, nn, rdr, sto1]
    have u1 : sExpr (fMth callX "ByteReader" "sure" 2 (fVar 0) (evA [(fOrV [(ev2 (fVar 3) (fD (.int 0)) (fCmp .gt)), (ev2 (fBlt (evA [(fVar 2)]) bLen) (fD (.int 0)) (fCmp .eq))])]) g_ByteReader__sure) ⟨[rm, si N, so (f.map vN), si ((p - a : Nat) : Int)], sto1⟩ = .ok .nx ⟨[rm, si N, so (f.map vN), si ((p - a : Nat) : Int)], sto1⟩ := by
      have sr := sure m sto1
      by_cases hp : 0 < p - a
      · have hp' : (0 : Int) < ((p - a : Nat) : Int) := by omega
        simp [rm, hm1, rdr, sr, hp]
      · rcases h1 with h1 | h1
        · subst h1
          simp [rm, hm1, rdr, sr, hp]
        · omega
    have u2 : sExpr (fMt "list" (fVar 2) (evA [(ev2 (fBlt (evA [(fSl (fVar 2) (.ex (fNeg (fD (.int 1)))) .no)]) bSum) (fVar 3) (binop .add))]) bAppend tyLst) ⟨[rm, si N, so (f.map vN), si ((p - a : Nat) : Int)], sto1⟩ = .ok .nx ⟨[rm, si N, so ((f ++ [p]).map vN), si ((p - a : Nat) : Int)], sto1⟩ := by
      rcases hlast with ⟨rfl, rfl⟩ | ⟨g, rfl⟩
      · have hc : cutL ([] : List Val) (some (-1)) none = [] := rfl
        have z0 : (0 : Nat) < sizeLine := z'
        simp [hc, vN, bS0, z0]
      · have hc := cutL_lastV (g.map vN) (vI (a : Int))
        have e : (a : Int) + ((p - a : Nat) : Int) = p := by omega
        simp at z'
        simp [vN, hc, bS1, e, z']
    have t2 : lp_ByteReader__next_rising_0 ⟨[rm, si N, so (f.map vN), x3], sto⟩ = .ok .nx ⟨[rm, si N, so ((f ++ [p]).map vN), si ((p - a : Nat) : Int)], sto1⟩ := (seq_nx u0).trans ((seq_nx u1).trans (seq_nx (r := []) u2))
    obtain ⟨x3', hih⟩ := ih (f ++ [p]) p (k + (nb (p - a)).length) (fuel - 1) (si ((p - a : Nat) : Int)) sto1 (by omega) (by simp; omega) (.inr ⟨f, rfl⟩) (Stp.next (f := f) (a := a) ⟨h1, h2, h3, h4⟩) hn1 hm1 hd2
    refine ⟨x3', ?_⟩
    have eN : (((f ++ [p]).length + q.length : Nat) : Int) = N := by simp [N]; omega
    rw [eN] at hih
    show sWh (fuel + 1) _ _ ⟨[rm, si N, so (f.map vN), x3], sto⟩ = _
    rw [wh_yes t1 t2, show fuel = fuel - 1 + 1 by omega, hih]
    have e5 : sto1.set m (rdr n (k + (nb (p - a)).length + (dB p q).length)) = sto.set m (rdr n (k + (dB a (p :: q)).length)) := by
      simp only [sto1, set2, dB, List.length_append, Nat.add_assoc]
    rw [e5]
    simp [N]
theorem next_rising (n m k : Nat) (q l post : List Nat) (sto : List Ob) (hl : l.length ≤ 1000000) (hnm : n ≠ m) (hq : Stp [] 0 q) (hql : q.length ≤ 1000) (hn : sto[n]? = some (.lst (l.map vN))) (hm : sto[m]? = some (rdr n k)) (hd : l.drop k = dB 0 q ++ post) :
    g_ByteReader__next_rising [.r m, vN q.length] sto = .ok (.new (.lst (q.map vN))) ⟨[], sto.set m (rdr n (k + (dB 0 q).length))⟩ := by
  obtain ⟨x3, h⟩ := nr_loop n m l hl hnm post q [] 0 k 999999 none sto (by omega) (by simp; omega) (.inl ⟨rfl, rfl⟩) hq hn hm hd
  simp only [List.length_nil, Nat.zero_add, List.nil_append] at h
  let rm : Option Sl := some (.v (.r m))
  have t0 : t_ByteReader__next_rising_0 ⟨[rm, si q.length, none, none], sto⟩ = .ok .nx ⟨[rm, si q.length, so [], none], sto⟩ := by simp [t_ByteReader__next_rising_0]
  have t1 : t_ByteReader__next_rising_1 ⟨[rm, si q.length, so [], none], sto⟩ = .ok .nx ⟨[rm, si q.length, so (q.map vN), x3], sto.set m (rdr n (k + (dB 0 q).length))⟩ := h
  have t2 : t_ByteReader__next_rising_2 ⟨[rm, si q.length, so (q.map vN), x3], sto.set m (rdr n (k + (dB 0 q).length))⟩ = .ok (.ret (.own 2)) ⟨[rm, si q.length, so (q.map vN), x3], sto.set m (rdr n (k + (dB 0 q).length))⟩ := by
    simp [t_ByteReader__next_rising_2]
  exact fn_at (n := 4) (b := b_ByteReader__next_rising) (args := [.r m, vN q.length]) (st := sto) rfl ((seq_nx t0).trans ((seq_nx t1).trans (seq_end (r := []) t2))) rfl
def okS (c : Nat) : Bool := match kget SG (.i (c : Int)) with
  | some (.str [x]) => x == c
  | _ => false
theorem okS_all : ∀ c ∈ SIGNS, okS c = true ∧ c ≤ 255 := by decide +kernel
theorem kget_sg {c : Nat} (h : c ∈ SIGNS) : kget SG (.i (c : Int)) = some (.str [c]) := by
  have := (okS_all c h).1
  unfold okS at this
  split at this
  · rename_i x e
    rw [e, show x = c by simpa using this]
  · cases this
theorem kget_map {κ α β : Type} [DecidableEq κ] (F : α → β) (k : κ) : ∀ l : List (κ × α), kget (l.map fun p => (p.1, F p.2)) k = (kget l k).map F
  | [] => rfl
  | (j, x) :: l => by
    have ih := kget_map F k l
    unfold kget at ih ⊢
    rw [List.map_cons, List.find?_cons, List.find?_cons]
    by_cases h : j = k
    · simp [h]
    · simp only [h, decide_false]
      exact ih
theorem dget_sg {c : Nat} (h : c ∈ SIGNS) (s : State) : dget s (.val (.d (.dic SG))) (.val (.d (.int (c : Int)))) = some (some (.d (.str [c]))) := by
  have e := kget_map (fun x : D => Val.d x) (K0.i (c : Int)) SG
  rw [kget_sg h] at e
  show some (kget (SG.map fun p => (p.1, Val.d p.2)) (.i (c : Int))) = _
  rw [e]
  rfl
theorem lkF_signs (n k : Nat) : lkF [("row", Val.r n), ("at", vN k), ("signs", .d (.dic SG))] "signs" = some (.d (.dic SG)) := rfl
theorem fld_signs (n k m : Nat) (sg : Slots) (sto : List Ob) (h0 : sg[0]? = some (some (.v (.r m)))) (hm : sto[m]? = some (rdr n k)) : fFld fT "signs" (fVar 0) ⟨sg, sto⟩ = .ok (.val (.d (.dic SG))) ⟨sg, sto⟩ :=
  e_fldR fT "signs" (fVar 0) _ ⟨sg, sto⟩ m _ _ _ (by simp [h0]) hm fT_signs (lkF_signs n k)
theorem nt_loop (n m : Nat) (l : List Nat) (hl : l.length ≤ 1000000) (hnm : n ≠ m) (post : List Nat) : ∀ (q f : List Nat) (k fuel : Nat) (x3 : Option Sl) (sto : List Ob), q.length ≤ fuel → f.length + q.length ≤ 1000 → (∀ c ∈ q, c ∈ SIGNS) → sto[n]? = some (.lst (l.map vN)) → sto[m]? = some (rdr n k) → l.drop k = q ++ post →
    ∃ x3', sWh (fuel + 1) (evB (ev2 (fBlt (evA [(fVar 2)]) bLen) (fVar 1) (fCmp .lt))) lp_ByteReader__next_text_0 ⟨[some (.v (.r m)), si ((f.length + q.length : Nat) : Int), so (f.map fun c => .d (.str [c])), x3], sto⟩ = .ok .nx ⟨[some (.v (.r m)), si ((f.length + q.length : Nat) : Int), so ((f ++ q).map fun c => .d (.str [c])), x3'], sto.set m (rdr n (k + q.length))⟩ := by
  intro q
  induction q with
  | nil =>
    intro f k fuel x3 sto hf hz hs hn hm hd
    have hs : sto.set m (rdr n k) = sto := List.ext_getElem? fun i => by
      rw [List.getElem?_set]
      split
      · rename_i e; subst e; rw [hm]; split
        · rfl
        · rename_i h2; rw [List.getElem?_eq_none (by omega)] at hm; cases hm
      · rfl
    have z : f.length ≤ sizeLine := small _ (by simp at hz; omega)
    refine ⟨x3, (wh_no (s1 := ⟨[some (.v (.r m)), si ((f.length + 0 : Nat) : Int), so (f.map fun c => .d (.str [c])), x3], sto⟩) ?_).trans (by simp [hs])⟩
    simp [z]
  | cons c q ih =>
    intro f k fuel x3 sto hf hz hs hn hm hd
    simp only [List.length_cons] at hf hz
    have hc := hs c (by simp)
    have hml := lt_of_get hm
    have z : f.length ≤ sizeLine := small _ (by omega)
    have z' : f.length < sizeLine := small' _ (by omega)
    have hk : l[k]? = some c := by
      have := congrArg (fun y => y[0]?) hd
      simpa using this
    have hd2 : l.drop (k + 1) = q ++ post := by
      have := congrArg List.tail hd
      simpa using this
    have nbk := next_byte n m k c l sto hn hm hl hk (okS_all c hc).2
    let rm : Option Sl := some (.v (.r m))
    let N : Int := ((f.length + (q.length + 1) : Nat) : Int)
    let F : List Val := f.map fun c => .d (.str [c])
    let sto1 := sto.set m (rdr n (k + 1))
    have hm1 : sto1[m]? = some (rdr n (k + 1)) := by simp only [sto1]; rw [List.getElem?_set_self hml]
    have hn1 : sto1[n]? = some (.lst (l.map vN)) := by simp only [sto1]; rw [List.getElem?_set_ne (Ne.symm hnm)]; exact hn
    have t1 : evB (ev2 (fBlt (evA [(fVar 2)]) bLen) (fVar 1) (fCmp .lt)) ⟨[rm, si N, so F, x3], sto⟩ = .ok true ⟨[rm, si N, so F, x3], sto⟩ := by
      have : (f.length : Int) < N := by simp only [N]; omega
      simp [F, z, this]
    have u0 : sAsg 3 (fMth callX "ByteReader" "next_byte" 1 (fVar 0) (evA []) g_ByteReader__next_byte) ⟨[rm, si N, so F, x3], sto⟩ = .ok .nx ⟨[rm, si N, so F, si c], sto1⟩ := by
      simp only [vN] at nbk
      simp [rm, hm, nbk, rdr, sto1]
    have fs := fld_signs n (k + 1) m [rm, si N, so F, si c] sto1 rfl hm1
    have sr := sure m sto1
    have u1 : sExpr (fMth callX "ByteReader" "sure" 2 (fVar 0) (evA [(ev2 (fVar 3) (fFld fT "signs" (fVar 0)) (fCmp .isin))]) g_ByteReader__sure) ⟨[rm, si N, so F, si c], sto1⟩ = .ok .nx ⟨[rm, si N, so F, si c], sto1⟩ := by
      have hin : inD ⟨[rm, si N, so F, si c], sto1⟩ (.val (.d (.int (c : Int)))) (.val (.d (.dic SG))) = some true := by
        unfold inD
        rw [dget_sg hc]
        rfl
      simp only [rm] at fs hin
      simp [rm, hm1, rdr, sr, fs, hin]
    have u2 : sExpr (fMt "list" (fVar 2) (evA [(ev2 (fFld fT "signs" (fVar 0)) (fVar 3) ixv)]) bAppend tyLst) ⟨[rm, si N, so F, si c], sto1⟩ = .ok .nx ⟨[rm, si N, so ((f ++ [c]).map fun c => .d (.str [c])), si c], sto1⟩ := by
      have hix : ixv (.val (.d (.dic SG))) (.val (.d (.int (c : Int)))) ⟨[rm, si N, so F, si c], sto1⟩ = .ok (.val (.d (.str [c]))) ⟨[rm, si N, so F, si c], sto1⟩ := by
        unfold ixv
        rw [dget_sg hc]
      simp only [rm] at fs hix
      simp [rm, fs, hix, F, z']
    have t2 : lp_ByteReader__next_text_0 ⟨[rm, si N, so F, x3], sto⟩ = .ok .nx ⟨[rm, si N, so ((f ++ [c]).map fun c => .d (.str [c])), si c], sto1⟩ := (seq_nx u0).trans ((seq_nx u1).trans (seq_nx (r := []) u2))
    obtain ⟨x3', hih⟩ := ih (f ++ [c]) (k + 1) (fuel - 1) (si c) sto1 (by omega) (by simp; omega) (fun d hd => hs d (by simp [hd])) hn1 hm1 hd2
    refine ⟨x3', ?_⟩
    have eN : (((f ++ [c]).length + q.length : Nat) : Int) = N := by simp [N]; omega
    rw [eN] at hih
    show sWh (fuel + 1) _ _ ⟨[rm, si N, so F, x3], sto⟩ = _
    rw [wh_yes t1 t2, show fuel = fuel - 1 + 1 by omega, hih]
    have e5 : sto1.set m (rdr n (k + 1 + q.length)) = sto.set m (rdr n (k + (c :: q).length)) := by
      simp only [sto1, set2, List.length_cons]
      congr 2
      omega
    rw [e5]
    simp [N]
theorem strsOf_map {l : List Nat} : strsOf (l.map fun c => .d (.str [c])) = some (l.map fun c => [c]) := by
  induction l with
  | nil => rfl
  | cons c l ih =>
    rw [List.map_cons, List.map_cons]
    show (strsOf (l.map fun c => .d (.str [c]))).map ([c] :: ·) = _
    rw [ih]; rfl
theorem flat1 : ∀ w : List Nat, (w.map fun c => [c]).flatten = w
  | [] => rfl
  | c :: w => by rw [List.map_cons, List.flatten_cons, flat1 w]; rfl
theorem len1 : ∀ t : List Nat, ((t.map fun c => [c]).map (fun x => x.length)).sum = t.length
  | [] => rfl
  | c :: t => by rw [List.map_cons, List.map_cons, List.sum_cons, len1 t]; simp; omega
theorem next_text (n m k : Nat) (t l post : List Nat) (sto : List Ob) (hl : l.length ≤ 1000000) (hnm : n ≠ m) (ht : ∀ c ∈ t, c ∈ SIGNS) (htl : t.length ≤ 1000) (hn : sto[n]? = some (.lst (l.map vN))) (hm : sto[m]? = some (rdr n k)) (hd : l.drop k = nb t.length ++ (t ++ post)) :
    g_ByteReader__next_text [.r m] sto = .ok (.val (.d (.str t))) ⟨[], sto.set m (rdr n (k + (nb t.length ++ t).length))⟩ := by
  have hml := lt_of_get hm
  have nn := next_number n m k t.length 50 l (t ++ post) sto hn hm hnm hl (by omega) (by omega) hd
  let rm : Option Sl := some (.v (.r m))
  let sto1 := sto.set m (rdr n (k + (nb t.length).length))
  have hm1 : sto1[m]? = some (rdr n (k + (nb t.length).length)) := by simp only [sto1]; rw [List.getElem?_set_self hml]
  have hn1 : sto1[n]? = some (.lst (l.map vN)) := by simp only [sto1]; rw [List.getElem?_set_ne (Ne.symm hnm)]; exact hn
  have hd2 : l.drop (k + (nb t.length).length) = t ++ post := by rw [← List.drop_drop, hd, List.drop_left]
  obtain ⟨x3, h⟩ := nt_loop n m l hl hnm post t [] (k + (nb t.length).length) 999999 none sto1 (by omega) (by simp; omega) ht hn1 hm1 hd2
  simp only [List.length_nil, Nat.zero_add, List.nil_append, List.map_nil] at h
  have e2 : sto1.set m (rdr n (k + (nb t.length).length + t.length)) = sto.set m (rdr n (k + (nb t.length ++ t).length)) := by
    simp only [sto1, set2, List.length_append, Nat.add_assoc]
  rw [e2] at h
  let sto2 := sto.set m (rdr n (k + (nb t.length ++ t).length))
  let F : List Val := t.map fun c => .d (.str [c])
  have t0 : t_ByteReader__next_text_0 ⟨[rm, none, none, none], sto⟩ = .ok .nx ⟨[rm, si t.length, none, none], sto1⟩ := by
    simp only [vN] at nn
    simp [t_ByteReader__next_text_0, rm, hm, nn, rdr, sto1]
  have t1 : t_ByteReader__next_text_1 ⟨[rm, si t.length, none, none], sto1⟩ = .ok .nx ⟨[rm, si t.length, so [], none], sto1⟩ := by simp [t_ByteReader__next_text_1]
  have t2 : t_ByteReader__next_text_2 ⟨[rm, si t.length, so [], none], sto1⟩ = .ok .nx ⟨[rm, si t.length, so F, x3], sto2⟩ := h
  have t3 : ∃ s3, t_ByteReader__next_text_3 ⟨[rm, si t.length, so F, x3], sto2⟩ = .ok (.ret (.val (.d (.str t)))) ⟨s3, sto2⟩ := by
    have hemp : sS "" = [] := rfl
    have z : t.length ≤ sizeLine := small _ (by omega)
    refine ⟨[rm, si t.length, so F, x3], ?_⟩
    have hl1 := len1 t
    have h16 : t.length ≤ 16777216 := by omega
    simp only [List.map_map] at hl1
    simp [t_ByteReader__next_text_3, F, hemp, z, strsOf_map, joinV_nil, flat1, hl1, h16]
  obtain ⟨s3, t3⟩ := t3
  exact fn_at (n := 4) (b := b_ByteReader__next_text) (args := [.r m]) (st := sto) rfl ((seq_nx t0).trans ((seq_nx t1).trans ((seq_nx t2).trans (seq_end (r := []) t3)))) rfl
def tps : Nat → Po → List Val
  | _, [] => []
  | b, p :: q => .tp [.d (.int (p.1 : Int)), .r b] :: tps (b + 1) q
def lsO (p : Nat × List Nat) : Ob := .lst (p.2.map vN)
def PoOk (p : Nat × List Nat) : Prop := p.1 < 128 ^ 50 ∧ Stp [] 0 p.2 ∧ 0 < p.2.length ∧ p.2.length ≤ 100
def StpS : Nat → Po → Prop
  | _, [] => True
  | a, p :: q => a < p.1 ∧ PoOk p ∧ StpS p.1 q
def StpP (b : Bool) (a : Nat) : Po → Prop
  | [] => True
  | p :: q => (b = true ∨ a < p.1) ∧ a ≤ p.1 ∧ PoOk p ∧ StpS p.1 q
theorem StpP.next {b b' : Bool} {a : Nat} {p : Nat × List Nat} {l : Po} (h : StpP b a (p :: l)) : StpP b' p.1 l := by
  cases l with
  | nil => trivial
  | cons q l => exact ⟨.inr h.2.2.2.1, Nat.le_of_lt h.2.2.2.1, h.2.2.2.2.1, h.2.2.2.2.2⟩
theorem set_same {sto : List Ob} {m : Nat} {o : Ob} (hm : sto[m]? = some o) : sto.set m o = sto := List.ext_getElem? fun i => by
  rw [List.getElem?_set]
  split
  · rename_i e; subst e; rw [hm]; split
    · rfl
    · rename_i h2; rw [List.getElem?_eq_none (by omega)] at hm; cases hm
  · rfl
theorem np_loop (n m : Nat) (l : List Nat) (hl : l.length ≤ 1000000) (hnm : n ≠ m) (post : List Nat) : ∀ (q : Po) (F : List Val) (a k fuel : Nat) (x4 x5 : Option Sl) (sto : List Ob), q.length ≤ fuel → F.length + q.length ≤ 1000 → StpP F.isEmpty a q → sto[n]? = some (.lst (l.map vN)) → sto[m]? = some (rdr n k) → l.drop k = pB a q ++ post →
    ∃ x3' x4' x5', sWh (fuel + 1) (evB (ev2 (fBlt (evA [(fVar 2)]) bLen) (fVar 1) (fCmp .lt))) lp_ByteReader__next_postings_0 ⟨[some (.v (.r m)), si ((F.length + q.length : Nat) : Int), so F, si a, x4, x5], sto⟩ = .ok .nx ⟨[some (.v (.r m)), si ((F.length + q.length : Nat) : Int), so (F ++ tps sto.length q), x3', x4', x5'], sto.set m (rdr n (k + (pB a q).length)) ++ q.map lsO⟩ := by
  intro q
  induction q with
  | nil =>
    intro F a k fuel x4 x5 sto hf hz hst hn hm hd
    have hs := set_same hm
    have z : F.length ≤ sizeLine := small _ (by simp at hz; omega)
    refine ⟨si a, x4, x5, (wh_no (s1 := ⟨[some (.v (.r m)), si ((F.length + 0 : Nat) : Int), so F, si a, x4, x5], sto⟩) ?_).trans (by simp [hs, pB, tps])⟩
    simp [z]
  | cons p q ih =>
    intro F a k fuel x4 x5 sto hf hz hst hn hm hd
    obtain ⟨mk, ps⟩ := p
    simp only [List.length_cons] at hf hz
    have hnext := StpP.next (b' := (F ++ [Val.tp [.d (.int (mk : Int)), .r sto.length]]).isEmpty) hst
    obtain ⟨h1, h2, ⟨h3, h4, h5, h6⟩, _⟩ := hst
    simp only at h1 h2 h3 h4 h5 h6 hnext
    have hml := lt_of_get hm
    have hnl := lt_of_get hn
    have z : F.length ≤ sizeLine := small _ (by omega)
    have z' : F.length < sizeLine := small' _ (by omega)
    let k1 := k + (nb (mk - a)).length
    let k2 := k1 + (nb ps.length).length
    let k3 := k2 + (dB 0 ps).length
    have hd0 : l.drop k = nb (mk - a) ++ (nb ps.length ++ (dB 0 ps ++ (pB mk q ++ post))) := by rw [hd]; simp [pB]
    have hd1 : l.drop k1 = nb ps.length ++ (dB 0 ps ++ (pB mk q ++ post)) := by simp only [k1]; rw [← List.drop_drop, hd0, List.drop_left]
    have hd2 : l.drop k2 = dB 0 ps ++ (pB mk q ++ post) := by simp only [k2]; rw [← List.drop_drop, hd1, List.drop_left]
    have hd3 : l.drop k3 = pB mk q ++ post := by simp only [k3]; rw [← List.drop_drop, hd2, List.drop_left]
    let rm : Option Sl := some (.v (.r m))
    let N : Int := ((F.length + (q.length + 1) : Nat) : Int)
    let s1 := sto.set m (rdr n k1)
    let s2 := sto.set m (rdr n k2)
    let s3 := sto.set m (rdr n k3)
    have e12 : s1.set m (rdr n k2) = s2 := set2 _ _ _ _
    have e23 : s2.set m (rdr n k3) = s3 := set2 _ _ _ _
    have m1 : s1[m]? = some (rdr n k1) := by simp only [s1]; rw [List.getElem?_set_self hml]
    have m2 : s2[m]? = some (rdr n k2) := by simp only [s2]; rw [List.getElem?_set_self hml]
    have m3 : s3[m]? = some (rdr n k3) := by simp only [s3]; rw [List.getElem?_set_self hml]
    have n1 : s1[n]? = some (.lst (l.map vN)) := by simp only [s1]; rw [List.getElem?_set_ne (Ne.symm hnm)]; exact hn
    have n2 : s2[n]? = some (.lst (l.map vN)) := by simp only [s2]; rw [List.getElem?_set_ne (Ne.symm hnm)]; exact hn
    have n3 : s3[n]? = some (.lst (l.map vN)) := by simp only [s3]; rw [List.getElem?_set_ne (Ne.symm hnm)]; exact hn
    have l3 : s3.length = sto.length := by simp [s3]
    have c1 := next_number n m k (mk - a) 50 l _ sto hn hm hnm hl (by omega) (by omega) hd0
    have c2 := next_number n m k1 ps.length 50 l _ s1 n1 m1 hnm hl (by omega) (by omega) hd1
    have c3 := next_rising n m k2 ps l _ s2 hl hnm h4 (by omega) n2 m2 hd2
    rw [show s1.set m (rdr n (k1 + (nb ps.length).length)) = s2 from e12] at c2
    rw [show s2.set m (rdr n (k2 + (dB 0 ps).length)) = s3 from e23] at c3
    have t1 : evB (ev2 (fBlt (evA [(fVar 2)]) bLen) (fVar 1) (fCmp .lt)) ⟨[rm, si N, so F, si a, x4, x5], sto⟩ = .ok true ⟨[rm, si N, so F, si a, x4, x5], sto⟩ := by
      have : (F.length : Int) < N := by simp only [N]; omega
      simp [z, this]
    have u0 : sAsg 4 (fMth callX "ByteReader" "next_number" 1 (fVar 0) (evA []) g_ByteReader__next_number) ⟨[rm, si N, so F, si a, x4, x5], sto⟩ = .ok .nx ⟨[rm, si N, so F, si a, si ((mk - a : Nat) : Int), x5], s1⟩ := by
      simp only [vN] at c1
      simp [rm, hm, c1, rdr, s1, k1]
    have u1 : sExpr (fMth callX "ByteReader" "sure" 2 (fVar 0) (evA [(fOrV [(ev2 (fVar 4) (fD (.int 0)) (fCmp .gt)), (ev2 (fBlt (evA [(fVar 2)]) bLen) (fD (.int 0)) (fCmp .eq))])]) g_ByteReader__sure) ⟨[rm, si N, so F, si a, si ((mk - a : Nat) : Int), x5], s1⟩ = .ok .nx ⟨[rm, si N, so F, si a, si ((mk - a : Nat) : Int), x5], s1⟩ := by
      have sr := sure m s1
      by_cases hp : 0 < mk - a
      · simp [rm, m1, rdr, sr, hp]
      · rcases h1 with h1 | h1
        · have hF : F = [] := by simpa using h1
          subst hF
          simp [rm, m1, rdr, sr, hp]
        · omega
    have u2 : sAug 3 .add (fVar 4) ⟨[rm, si N, so F, si a, si ((mk - a : Nat) : Int), x5], s1⟩ = .ok .nx ⟨[rm, si N, so F, si mk, si ((mk - a : Nat) : Int), x5], s1⟩ := by
      have e : (a : Int) + ((mk - a : Nat) : Int) = mk := by omega
      have e0 : ev (fVar 4) ⟨[rm, si N, so F, si a, si ((mk - a : Nat) : Int), x5], s1⟩ = .ok (.val (vI ((mk - a : Nat) : Int))) ⟨[rm, si N, so F, si a, si ((mk - a : Nat) : Int), x5], s1⟩ := by simp
      unfold sAug
      simp [e0, e, augf, sl]
    have u3 : sAsg 5 (fMth callX "ByteReader" "next_number" 1 (fVar 0) (evA []) g_ByteReader__next_number) ⟨[rm, si N, so F, si mk, si ((mk - a : Nat) : Int), x5], s1⟩ = .ok .nx ⟨[rm, si N, so F, si mk, si ((mk - a : Nat) : Int), si ps.length], s2⟩ := by
      simp only [vN] at c2
      simp [rm, m1, c2, rdr]
    have u4 : sExpr (fMth callX "ByteReader" "sure" 2 (fVar 0) (evA [(ev2 (fVar 5) (fD (.int 0)) (fCmp .gt))]) g_ByteReader__sure) ⟨[rm, si N, so F, si mk, si ((mk - a : Nat) : Int), si ps.length], s2⟩ = .ok .nx ⟨[rm, si N, so F, si mk, si ((mk - a : Nat) : Int), si ps.length], s2⟩ := by
      have sr := sure m s2
      simp [rm, m2, rdr, sr, h5]
    have u5 : sExpr (fMt "list" (fVar 2) (evA [(fTup [(fVar 3), (fAl (fMth callX "ByteReader" "next_rising" 2 (fVar 0) (evA [(fVar 5)]) g_ByteReader__next_rising))])]) bAppend tyLst) ⟨[rm, si N, so F, si mk, si ((mk - a : Nat) : Int), si ps.length], s2⟩ = .ok .nx ⟨[rm, si N, so (F ++ [.tp [.d (.int (mk : Int)), .r sto.length]]), si mk, si ((mk - a : Nat) : Int), si ps.length], s3 ++ [lsO (mk, ps)]⟩ := by
      have c3' : g_ByteReader__next_rising [.r m, vI ps.length] s2 = .ok (.new (.lst (ps.map vN))) ⟨[], s3⟩ := c3
      have z2 : (2 : Nat) ≤ sizeLine := small _ (by omega)
      have htd : ∀ j, toDs [Val.r j] = none := fun j => rfl
      simp [rm, m2, rdr, c3', alR, l3, z2, htd, z', lsO]
    have t2 : lp_ByteReader__next_postings_0 ⟨[rm, si N, so F, si a, x4, x5], sto⟩ = .ok .nx ⟨[rm, si N, so (F ++ [.tp [.d (.int (mk : Int)), .r sto.length]]), si mk, si ((mk - a : Nat) : Int), si ps.length], s3 ++ [lsO (mk, ps)]⟩ :=
      (seq_nx u0).trans ((seq_nx u1).trans ((seq_nx u2).trans ((seq_nx u3).trans ((seq_nx u4).trans (seq_nx (r := []) u5)))))
    let s4 := s3 ++ [lsO (mk, ps)]
    have hm3 : m < s3.length := by rw [l3]; exact hml
    have hn3 : n < s3.length := by rw [l3]; exact hnl
    obtain ⟨x3', x4', x5', hih⟩ := ih (F ++ [.tp [.d (.int (mk : Int)), .r sto.length]]) mk k3 (fuel - 1) (si ((mk - a : Nat) : Int)) (si ps.length) s4 (by omega) (by simp; omega) hnext
      (by simp only [s4]; rw [List.getElem?_append_left hn3]; exact n3) (by simp only [s4]; rw [List.getElem?_append_left hm3]; exact m3) hd3
    refine ⟨x3', x4', x5', ?_⟩
    have eN : (((F ++ [Val.tp [.d (.int (mk : Int)), .r sto.length]]).length + q.length : Nat) : Int) = N := by simp [N]; omega
    have eL : s4.length = sto.length + 1 := by simp [s4, l3]
    have eS : s4.set m (rdr n (k3 + (pB mk q).length)) = sto.set m (rdr n (k + (pB a ((mk, ps) :: q)).length)) ++ [lsO (mk, ps)] := by
      simp only [s4]
      rw [List.set_append_left _ _ hm3]
      simp only [s3, set2, k3, k2, k1, pB, List.length_append, Nat.add_assoc]
    rw [eN, eL, eS] at hih
    show sWh (fuel + 1) _ _ ⟨[rm, si N, so F, si a, x4, x5], sto⟩ = _
    rw [wh_yes t1 t2, show fuel = fuel - 1 + 1 by omega, hih]
    simp [N, tps]
theorem next_postings (n m k : Nat) (q : Po) (l post : List Nat) (sto : List Ob) (hl : l.length ≤ 1000000) (hnm : n ≠ m) (hq : StpP true 0 q) (hql : q.length ≤ 1000) (hn : sto[n]? = some (.lst (l.map vN))) (hm : sto[m]? = some (rdr n k)) (hd : l.drop k = nb q.length ++ (pB 0 q ++ post)) :
    g_ByteReader__next_postings [.r m] sto = .ok (.new (.lst (tps sto.length q))) ⟨[], sto.set m (rdr n (k + (nb q.length ++ pB 0 q).length)) ++ q.map lsO⟩ := by
  have hml := lt_of_get hm
  have nn := next_number n m k q.length 50 l _ sto hn hm hnm hl (by omega) (by omega) hd
  let rm : Option Sl := some (.v (.r m))
  let k1 := k + (nb q.length).length
  let s1 := sto.set m (rdr n k1)
  have m1 : s1[m]? = some (rdr n k1) := by simp only [s1]; rw [List.getElem?_set_self hml]
  have n1 : s1[n]? = some (.lst (l.map vN)) := by simp only [s1]; rw [List.getElem?_set_ne (Ne.symm hnm)]; exact hn
  have hd2 : l.drop k1 = pB 0 q ++ post := by simp only [k1]; rw [← List.drop_drop, hd, List.drop_left]
  obtain ⟨x3, x4, x5, h⟩ := np_loop n m l hl hnm post q [] 0 k1 999999 none none s1 (by omega) (by simp; omega) hq n1 m1 hd2
  simp only [List.length_nil, Nat.zero_add, List.nil_append] at h
  have e1 : s1.length = sto.length := by simp [s1]
  have e2 : s1.set m (rdr n (k1 + (pB 0 q).length)) = sto.set m (rdr n (k + (nb q.length ++ pB 0 q).length)) := by
    simp only [s1, set2, k1, List.length_append, Nat.add_assoc]
  rw [e1, e2] at h
  let s2 := sto.set m (rdr n (k + (nb q.length ++ pB 0 q).length)) ++ q.map lsO
  have t0 : t_ByteReader__next_postings_0 ⟨[rm, none, none, none, none, none], sto⟩ = .ok .nx ⟨[rm, si q.length, none, none, none, none], s1⟩ := by
    simp only [vN] at nn
    simp [t_ByteReader__next_postings_0, rm, hm, nn, rdr, s1, k1]
  have t1 : t_ByteReader__next_postings_1 ⟨[rm, si q.length, none, none, none, none], s1⟩ = .ok .nx ⟨[rm, si q.length, so [], none, none, none], s1⟩ := by simp [t_ByteReader__next_postings_1]
  have t2 : t_ByteReader__next_postings_2 ⟨[rm, si q.length, so [], none, none, none], s1⟩ = .ok .nx ⟨[rm, si q.length, so [], si 0, none, none], s1⟩ := by simp [t_ByteReader__next_postings_2]
  have t3 : t_ByteReader__next_postings_3 ⟨[rm, si q.length, so [], si 0, none, none], s1⟩ = .ok .nx ⟨[rm, si q.length, so (tps sto.length q), x3, x4, x5], s2⟩ := h
  have t4 : t_ByteReader__next_postings_4 ⟨[rm, si q.length, so (tps sto.length q), x3, x4, x5], s2⟩ = .ok (.ret (.own 2)) ⟨[rm, si q.length, so (tps sto.length q), x3, x4, x5], s2⟩ := by
    simp [t_ByteReader__next_postings_4]
  exact fn_at (n := 6) (b := b_ByteReader__next_postings) (args := [.r m]) (st := sto) rfl ((seq_nx t0).trans ((seq_nx t1).trans ((seq_nx t2).trans ((seq_nx t3).trans (seq_end (r := []) t4))))) rfl
theorem read_text (n : Nat) (t : List Nat) (sto : List Ob) (hn : sto[n]? = some (.lst ((nb t.length ++ t).map vN))) (ht : ∀ c ∈ t, c ∈ SIGNS) (htl : t.length ≤ 1000) :
    ∃ o, g_read_text [.r n] sto = .ok (.val (.d (.str t))) ⟨[], sto ++ [o]⟩ := by
  have hnl := lt_of_get hn
  let m := sto.length
  let L := nb t.length ++ t
  have hl : L.length ≤ 1000000 := by have := nb_len (n := t.length) (by omega); simp [L]; omega
  let s1 := sto ++ [Ob.ins "ByteReader" []]
  let s2 := sto ++ [rdr n 0]
  let s3 := sto ++ [rdr n L.length]
  have e12 : s1.set m (rdr n 0) = s2 := by simp [s1, s2, m]
  have e23 : s2.set m (rdr n (0 + L.length)) = s3 := by simp [s2, s3, m]
  have m1 : s1[m]? = some (.ins "ByteReader" []) := by simp [s1, m]
  have m2 : s2[m]? = some (rdr n 0) := by simp [s2, m]
  have m3 : s3[m]? = some (rdr n L.length) := by simp [s3, m]
  have n2 : s2[n]? = some (.lst (L.map vN)) := by simp only [s2]; rw [List.getElem?_append_left hnl]; exact hn
  have n3 : s3[n]? = some (.lst (L.map vN)) := by simp only [s3]; rw [List.getElem?_append_left hnl]; exact hn
  have i1 := init m n s1 m1
  rw [e12] at i1
  have i2 := next_text n m 0 t L [] s2 hl (by simp only [m]; omega) ht htl n2 m2 (by simp [L])
  rw [e23] at i2
  have i3 := ended n m L.length L (.d (.str t)) s3 n3 m3 hl rfl
  simp only [m, s1, s2, s3] at i1 i2 i3 m2 m3
  have t0 : t_read_text_0 ⟨[some (.v (.r n)), none], sto⟩ = .ok .nx ⟨[some (.v (.r n)), some (.v (.r m))], s2⟩ := by
    simp [t_read_text_0, i1, m, s2]
  simp only [rdr] at i2 i3
  have t1 : t_read_text_1 ⟨[some (.v (.r n)), some (.v (.r m))], s2⟩ = .ok (.ret (.val (.d (.str t)))) ⟨[some (.v (.r n)), some (.v (.r m))], s3⟩ := by
    simp [t_read_text_1, i2, i3, m2, m3, rdr, m, s2, s3]
  exact ⟨_, fn_at (n := 2) (b := b_read_text) (args := [.r n]) (st := sto) rfl ((seq_nx t0).trans (seq_end (r := []) t1)) rfl⟩
theorem read_postings (n : Nat) (q : Po) (sto : List Ob) (hn : sto[n]? = some (.lst ((nb q.length ++ pB 0 q).map vN))) (hq : StpP true 0 q) (hql : q.length ≤ 10) (hz : (pB 0 q).length ≤ 100000) :
    ∃ o, g_read_postings [.r n] sto = .ok (.val (.r (sto.length + 1 + q.length))) ⟨[], sto ++ [o] ++ q.map lsO ++ [.lst (tps (sto.length + 1) q)]⟩ := by
  have hnl := lt_of_get hn
  let m := sto.length
  let L := nb q.length ++ pB 0 q
  have hl : L.length ≤ 1000000 := by have := nb_len (n := q.length) (by omega); simp [L]; omega
  let s1 := sto ++ [Ob.ins "ByteReader" []]
  let s2 := sto ++ [rdr n 0]
  let s3 := sto ++ [rdr n L.length]
  let s4 := s3 ++ q.map lsO
  let s5 := s4 ++ [.lst (tps (sto.length + 1) q)]
  have e12 : s1.set m (rdr n 0) = s2 := by simp [s1, s2, m]
  have e23 : s2.set m (rdr n (0 + L.length)) = s3 := by simp [s2, s3, m]
  have m1 : s1[m]? = some (.ins "ByteReader" []) := by simp [s1, m]
  have m2 : s2[m]? = some (rdr n 0) := by simp [s2, m]
  have m3 : s3[m]? = some (rdr n L.length) := by simp [s3, m]
  have n2 : s2[n]? = some (.lst (L.map vN)) := by simp only [s2]; rw [List.getElem?_append_left hnl]; exact hn
  have n3 : s3[n]? = some (.lst (L.map vN)) := by simp only [s3]; rw [List.getElem?_append_left hnl]; exact hn
  have hs3 : s3.length = sto.length + 1 := by simp [s3]
  have hs4 : s4.length = sto.length + 1 + q.length := by simp [s4, hs3]
  have m5 : s5[m]? = some (rdr n L.length) := by
    simp only [s5, s4]
    rw [List.append_assoc, List.getElem?_append_left (by rw [hs3]; simp only [m]; omega)]; exact m3
  have n5 : s5[n]? = some (.lst (L.map vN)) := by
    simp only [s5, s4]
    rw [List.append_assoc, List.getElem?_append_left (by rw [hs3]; omega)]; exact n3
  have i1 := init m n s1 m1
  rw [e12] at i1
  have i2 := next_postings n m 0 q L [] s2 hl (by simp only [m]; omega) hq (by omega) n2 m2 (by simp [L])
  rw [e23, show s2.length = sto.length + 1 by simp [s2]] at i2
  have i3 := ended n m L.length L (.r (sto.length + 1 + q.length)) s5 n5 m5 hl rfl
  have t0 : t_read_postings_0 ⟨[some (.v (.r n)), none], sto⟩ = .ok .nx ⟨[some (.v (.r n)), some (.v (.r m))], s2⟩ := by
    simp only [m, s1, s2] at i1
    simp [t_read_postings_0, i1, m, s2]
  have u1 : (fAl (fMth callX "ByteReader" "next_postings" 1 (fVar 1) (evA []) g_ByteReader__next_postings)) ⟨[some (.v (.r n)), some (.v (.r m))], s2⟩ = .ok (.val (.r (sto.length + 1 + q.length))) ⟨[some (.v (.r n)), some (.v (.r m))], s5⟩ := by
    have hi : insOf ⟨[some (.v (.r n)), some (.v (.r m))], s2⟩ (.val (.r m)) = some ("ByteReader", ["row", "at", "signs"]) := by
      rw [e_insOf, m2]; rfl
    have i2' : g_ByteReader__next_postings [.r m] s2 = .ok (.new (.lst (tps (sto.length + 1) q))) ⟨[], s4⟩ := i2
    rw [e_al, e_fMth]
    simp [-e_insOf, hi, i2', alR, hs4]
    rfl
  have t1 : t_read_postings_1 ⟨[some (.v (.r n)), some (.v (.r m))], s2⟩ = .ok (.ret (.val (.r (sto.length + 1 + q.length)))) ⟨[some (.v (.r n)), some (.v (.r m))], s5⟩ := by
    have hi : ∀ sto', sto'[m]? = some (rdr n 0) → insOf ⟨[some (.v (.r n)), some (.v (.r m))], sto'⟩ (.val (.r m)) = some ("ByteReader", ["row", "at", "signs"]) := fun sto' h => by
      rw [e_insOf, h]; rfl
    have hi2 := hi s2 m2
    simp [t_read_postings_1, -e_insOf, -e_al, hi2, u1, i3]
  exact ⟨rdr n L.length, (fn_at (n := 2) (b := b_read_postings) (args := [.r n]) (st := sto) rfl ((seq_nx t0).trans (seq_end (r := []) t1)) rfl).trans rfl⟩
end Br
namespace K12
open PySem L2 PyProof.Rows Vw
noncomputable section
def top (i : Nat) : Stmt := PySem.Challenge.pw_findcourt_k12_texts_and_postings_as_byte.main.body.getD i (.Pass ⟨0, 0, 0, 0⟩)
def clsBody (s : Stmt) : List Stmt := match s with
  | .ClassDef _ _ _ b _ _ _ _ _ _ _ => b
  | _ => []
def mth (i j : Nat) : Stmt := (clsBody (top i)).getD j (.Pass ⟨0, 0, 0, 0⟩)
abbrev FnP (K : PySem.W.Frag) (x q : Str) (st : Stmt) (f : Addr) (fd : FuncData) : Prop := FunD K x q (defArgs st) (defBody st) (defScope st) [] [] f fd
def exN : List String := ["FindError", "NoBytes"]
def plN : List String := []
def fT : List (String × String) := [("ByteReader", "row"), ("ByteReader", "at"), ("ByteReader", "signs")]
def t__law_draws_0 : State → Res Fl := (sAsg 3 (ev2 (fSl (fVar 0) .no (.ex (fD (.int 63)))) (fLst [(fVar 1)]) (binop .add)))
def t__law_draws_1 : State → Res Fl := (sAsg 4 (fLst []))
def ce__law_draws_0 : State → Res RV := (ev2 (fVar 10) (fD (.int 100000)) (binop .fdiv))
def lp__law_draws_0 : State → Res Fl := (sSeq [(sAsg 9 (ev2 (fVar 5) (fBlt (evA [(fVar 6)]) bLen) (binop .mod))), (sIf (evB (ev2 (fVar 5) (fVar 1) (fCmp .ge))) (sSeq [(sExpr (fMt "list" (fVar 4) (evA [(ev2 (ev2 (fVar 6) (fVar 9) ixv) (fD (.int 2147483587)) (binop .mod))]) bAppend tyLst))]) (sSeq [])), (sSet (fVar 6) (fVar 9) (ev2 (ev2 (fVar 6) (fVar 9) ixv) (fD (.int 2147483587)) (binop .fdiv)))])
def t__law_draws_2 : State → Res Fl := (sIf (evB (ev2 (ev2 (ev2 (ev2 (fVar 3) (fD (.int 0)) ixv) (fD (.int 50000)) (binop .fdiv)) (fD (.int 2)) (binop .mod)) (fD (.int 1)) (fCmp .eq))) (sSeq [(sAsg 6 (fLc [10] (.nm 10) (sD (fVar 3) itemsOf) fTrue ce__law_draws_0)), (sFor (.nm 5) (SrcK (evA [(ev2 (fVar 1) (fVar 2) (binop .add))]) kRng1) lp__law_draws_0), (sRet (fVar 4))]) (sSeq []))
def lp__law_draws_1 : State → Res Fl := (sSeq [(sAsg 7 (ev2 (ev2 (ev2 (ev2 (fVar 5) (fVar 1) (binop .add)) (ev2 (fVar 5) (fVar 1) (binop .add)) (binop .mul)) (fD (.int 7919)) (binop .mul)) (fD (.int 104729)) (binop .add))), (sAsg 8 (ev2 (ev2 (ev2 (ev2 (ev2 (fVar 3) (ev2 (fVar 5) (fBlt (evA [(fVar 3)]) bLen) (binop .mod)) ixv) (fD (.int 2147483647)) (binop .mod)) (fVar 7) (binop .add)) (fD (.int 48271)) (binop .mul)) (fD (.int 2147483647)) (binop .mod))), (sAsg 8 (ev2 (ev2 (ev2 (fVar 8) (fVar 8) (binop .mul)) (ev2 (fD (.int 69621)) (fVar 5) (binop .mul)) (binop .add)) (fD (.int 2147483629)) (binop .mod))), (sExpr (fMt "list" (fVar 4) (evA [(ev2 (ev2 (fVar 8) (fVar 8) (binop .mul)) (fD (.int 2147483587)) (binop .mod))]) bAppend tyLst))])
def t__law_draws_3 : State → Res Fl := (sFor (.nm 5) (SrcK (evA [(fVar 2)]) kRng1) lp__law_draws_1)
def t__law_draws_4 : State → Res Fl := (sRet (fVar 4))
def b__law_draws : State → Res Fl := (sSeq [t__law_draws_0, t__law_draws_1, t__law_draws_2, t__law_draws_3, t__law_draws_4])
def g__law_draws : Fn := fnV 11 b__law_draws
def t__law_pop_0 : State → Res Fl := (sIf (evB (ev2 (fVar 0) (fLst []) (fCmp .eq))) (sSeq [(sRet (fD (.int 0)))]) (sSeq []))
def t__law_pop_1 : State → Res Fl := (sRet (fMt "list" (fVar 0) (evA []) bPop tyLst))
def b__law_pop : State → Res Fl := (sSeq [t__law_pop_0, t__law_pop_1])
def g__law_pop : Fn := fnV 1 b__law_pop
def t__law_postings_0 : State → Res Fl := (sAsg 2 (fLst []))
def t__law_postings_1 : State → Res Fl := (sAsg 3 (fNeg (fD (.int 1))))
def t__law_postings_2 : State → Res Fl := (sAsg 4 (ev2 (fSl (fVar 0) .no (.ex (fD (.int 63)))) (fLst [(fD (.int 1))]) (binop .add)))
def lp__law_postings_0 : State → Res Fl := (sSeq [(sAsg 11 (fCall 1 (evA [(fVar 1)]) g__law_pop)), (sAsg 9 (ev2 (ev2 (fVar 9) (fD (.int 1)) (binop .add)) (ev2 (fLst [(fD (.int 0)), (ev2 (ev2 (fVar 11) (fD (.int 3)) (binop .fdiv)) (fD (.int 3)) (binop .mod)), (ev2 (ev2 (fVar 11) (fD (.int 3)) (binop .fdiv)) (fD (.int 300)) (binop .mod))]) (ev2 (fVar 11) (fD (.int 3)) (binop .mod)) ixv) (binop .add))), (sExpr (fMt "list" (fVar 8) (evA [(fVar 9)]) bAppend tyLst))])
def lp__law_postings_1 : State → Res Fl := (sSeq [(sAsg 6 (fCall 1 (evA [(fVar 1)]) g__law_pop)), (sAsg 7 (ev2 (ev2 (fVar 4) (ev2 (ev2 (fVar 6) (fD (.int 36)) (binop .fdiv)) (fBlt (evA [(fVar 4)]) bLen) (binop .mod)) ixv) (ev2 (fD (.int 10)) (fD (.int 30)) (binop .pow)) (binop .mod))), (sAsg 3 (ev2 (ev2 (fVar 3) (fD (.int 1)) (binop .add)) (ev2 (fLst [(fD (.int 0)), (ev2 (ev2 (fVar 6) (fD (.int 4)) (binop .fdiv)) (fD (.int 9)) (binop .mod)), (ev2 (ev2 (fVar 6) (fD (.int 4)) (binop .fdiv)) (fD (.int 300)) (binop .mod)), (fVar 7)]) (ev2 (fVar 6) (fD (.int 4)) (binop .mod)) ixv) (binop .add))), (sAsg 8 (fLst [])), (sAsg 9 (fNeg (fD (.int 1)))), (sFor (.nm 10) (SrcK (evA [(ev2 (fD (.int 1)) (ev2 (fCall 1 (evA [(fVar 1)]) g__law_pop) (fD (.int 4)) (binop .mod)) (binop .add))]) kRng1) lp__law_postings_0), (sExpr (fMt "list" (fVar 2) (evA [(fTup [(fVar 3), (fVar 8)])]) bAppend tyLst))])
def t__law_postings_3 : State → Res Fl := (sFor (.nm 5) (SrcK (evA [(ev2 (fCall 1 (evA [(fVar 1)]) g__law_pop) (fD (.int 5)) (binop .mod))]) kRng1) lp__law_postings_1)
def t__law_postings_4 : State → Res Fl := (sRet (fVar 2))
def b__law_postings : State → Res Fl := (sSeq [t__law_postings_0, t__law_postings_1, t__law_postings_2, t__law_postings_3, t__law_postings_4])
def g__law_postings : Fn := fnV 12 b__law_postings
def t__law_signs_0 : State → Res Fl := (sRet (fD (.str (sS " !\"#$&'()*+,-./0123456789:;<=>?@ABCDEFGHIJKLMNOPQRSTUVWXYZ[\\]^_`abcdefghijklmnopqrstuvwxyz{|}~"))))
def b__law_signs : State → Res Fl := (sSeq [t__law_signs_0])
def g__law_signs : Fn := fnV 0 b__law_signs
def t__law_text_0 : State → Res Fl := (sAsg 2 (fCall 1 (evA [(fVar 0)]) g__law_pop))
def t__law_text_1 : State → Res Fl := (sAsg 3 (fD (.str (sS ""))))
def lp__law_text_0 : State → Res Fl := (sSeq [(sAsg 5 (fCall 1 (evA [(fVar 0)]) g__law_pop)), (sAsg 6 (ev2 (fLst [(fCall 0 (evA []) g__law_signs), (fD (.str (sS "abA19 "))), (fD (.str (sS "abzAZ09 ' ")))]) (ev2 (fVar 5) (fD (.int 3)) (binop .mod)) ixv)), (sAsg 3 (ev2 (fVar 3) (ev2 (fVar 6) (ev2 (ev2 (fVar 5) (fD (.int 3)) (binop .fdiv)) (fBlt (evA [(fVar 6)]) bLen) (binop .mod)) ixv) (binop .add)))])
def t__law_text_2 : State → Res Fl := (sFor (.nm 4) (SrcK (evA [(ev2 (fVar 2) (ev2 (fVar 1) (fD (.int 1)) (binop .add)) (binop .mod))]) kRng1) lp__law_text_0)
def t__law_text_3 : State → Res Fl := (sRet (fVar 3))
def b__law_text : State → Res Fl := (sSeq [t__law_text_0, t__law_text_1, t__law_text_2, t__law_text_3])
def g__law_text : Fn := fnV 7 b__law_text
def t__law_number_bytes_0 : State → Res Fl := (sAsg 1 (fLst []))
def lp__law_number_bytes_0 : State → Res Fl := (sSeq [(sExpr (fMt "list" (fVar 1) (evA [(ev2 (fD (.int 128)) (ev2 (fVar 0) (fD (.int 128)) (binop .mod)) (binop .add))]) bAppend tyLst)), (sAsg 0 (ev2 (fVar 0) (fD (.int 128)) (binop .fdiv)))])
def t__law_number_bytes_1 : State → Res Fl := (sWh wFuel (evB (ev2 (fVar 0) (fD (.int 127)) (fCmp .gt))) lp__law_number_bytes_0)
def t__law_number_bytes_2 : State → Res Fl := (sExpr (fMt "list" (fVar 1) (evA [(fVar 0)]) bAppend tyLst))
def t__law_number_bytes_3 : State → Res Fl := (sRet (fVar 1))
def b__law_number_bytes : State → Res Fl := (sSeq [t__law_number_bytes_0, t__law_number_bytes_1, t__law_number_bytes_2, t__law_number_bytes_3])
def g__law_number_bytes : Fn := fnV 2 b__law_number_bytes
def t__law_text_bytes_0 : State → Res Fl := (sAsg 1 (fCall 1 (evA [(fBlt (evA [(fVar 0)]) bLen)]) g__law_number_bytes))
def lp__law_text_bytes_0 : State → Res Fl := (sSeq [(sAsg 3 (fMt "str" (fCall 0 (evA []) g__law_signs) (evA [(fVar 2)]) bIndex tyStr)), (sExpr (fMt "list" (fVar 1) (evA [(ev2 (ev2 (fD (.int 32)) (fVar 3) (binop .add)) (fBlt (evA [(ev2 (fVar 3) (fD (.int 4)) (fCmp .gt))]) bInt) (binop .add))]) bAppend tyLst))])
def t__law_text_bytes_1 : State → Res Fl := (sFor (.nm 2) (sD (fVar 0) itemsOf) lp__law_text_bytes_0)
def t__law_text_bytes_2 : State → Res Fl := (sRet (fVar 1))
def b__law_text_bytes : State → Res Fl := (sSeq [t__law_text_bytes_0, t__law_text_bytes_1, t__law_text_bytes_2])
def g__law_text_bytes : Fn := fnV 4 b__law_text_bytes
def t__law_postings_bytes_0 : State → Res Fl := (sAsg 1 (fCall 1 (evA [(fBlt (evA [(fVar 0)]) bLen)]) g__law_number_bytes))
def t__law_postings_bytes_1 : State → Res Fl := (sAsg 2 (fD (.int 0)))
def lp__law_postings_bytes_0 : State → Res Fl := (sSeq [(sAsg 1 (ev2 (fVar 1) (fCall 1 (evA [(ev2 (fVar 6) (fVar 5) (binop .sub))]) g__law_number_bytes) (binop .add))), (sAsg 5 (fVar 6))])
def lp__law_postings_bytes_1 : State → Res Fl := (sSeq [(sAsg 1 (ev2 (ev2 (fVar 1) (fCall 1 (evA [(ev2 (fVar 3) (fVar 2) (binop .sub))]) g__law_number_bytes) (binop .add)) (fCall 1 (evA [(fBlt (evA [(fVar 4)]) bLen)]) g__law_number_bytes) (binop .add))), (sAsg 2 (fVar 3)), (sAsg 5 (fD (.int 0))), (sFor (.nm 6) (sD (fVar 4) itemsOf) lp__law_postings_bytes_0)])
def t__law_postings_bytes_2 : State → Res Fl := (sFor (.tp [(.nm 3), (.nm 4)]) (sD (fVar 0) itemsOf) lp__law_postings_bytes_1)
def t__law_postings_bytes_3 : State → Res Fl := (sRet (fVar 1))
def b__law_postings_bytes : State → Res Fl := (sSeq [t__law_postings_bytes_0, t__law_postings_bytes_1, t__law_postings_bytes_2, t__law_postings_bytes_3])
def g__law_postings_bytes : Fn := fnV 7 b__law_postings_bytes
def t_number_bytes_0 : State → Res Fl := (sAsg 1 (fLst []))
def lp_number_bytes_0 : State → Res Fl := (sSeq [(sExpr (fMt "list" (fVar 1) (evA [(ev2 (ev2 (fVar 0) (fD (.int 128)) (binop .mod)) (fD (.int 128)) (binop .add))]) bAppend tyLst)), (sAsg 0 (ev2 (fVar 0) (fD (.int 128)) (binop .fdiv)))])
def t_number_bytes_1 : State → Res Fl := (sWh wFuel (evB (ev2 (fVar 0) (fD (.int 128)) (fCmp .ge))) lp_number_bytes_0)
def t_number_bytes_2 : State → Res Fl := (sRet (ev2 (fVar 1) (fLst [(fVar 0)]) (binop .add)))
def b_number_bytes : State → Res Fl := (sSeq [t_number_bytes_0, t_number_bytes_1, t_number_bytes_2])
def g_number_bytes : Fn := fnV 2 b_number_bytes
def ce_text_bytes_0 : State → Res RV := (fBlt (evA [(fVar 1)]) bOrd)
def t_text_bytes_0 : State → Res Fl := (sRet (ev2 (fCall 1 (evA [(fBlt (evA [(fVar 0)]) bLen)]) g_number_bytes) (fLc [1] (.nm 1) (sD (fVar 0) itemsOf) fTrue ce_text_bytes_0) (binop .add)))
def b_text_bytes : State → Res Fl := (sSeq [t_text_bytes_0])
def g_text_bytes : Fn := fnV 2 b_text_bytes
def t_places_bytes_0 : State → Res Fl := (sAsg 1 (fLst []))
def t_places_bytes_1 : State → Res Fl := (sAsg 2 (fD (.int 0)))
def lp_places_bytes_0 : State → Res Fl := (sSeq [(sExpr (fExt (fVar 1) (fCall 1 (evA [(ev2 (fVar 3) (fVar 2) (binop .sub))]) g_number_bytes))), (sAsg 2 (fVar 3))])
def t_places_bytes_2 : State → Res Fl := (sFor (.nm 3) (sD (fVar 0) itemsOf) lp_places_bytes_0)
def t_places_bytes_3 : State → Res Fl := (sRet (fVar 1))
def b_places_bytes : State → Res Fl := (sSeq [t_places_bytes_0, t_places_bytes_1, t_places_bytes_2, t_places_bytes_3])
def g_places_bytes : Fn := fnV 4 b_places_bytes
def t_postings_bytes_0 : State → Res Fl := (sAsg 1 (fCall 1 (evA [(fBlt (evA [(fVar 0)]) bLen)]) g_number_bytes))
def t_postings_bytes_1 : State → Res Fl := (sAsg 2 (fD (.int 0)))
def lp_postings_bytes_0 : State → Res Fl := (sSeq [(sExpr (fExt (fVar 1) (ev2 (ev2 (fCall 1 (evA [(ev2 (fVar 3) (fVar 2) (binop .sub))]) g_number_bytes) (fCall 1 (evA [(fBlt (evA [(fVar 4)]) bLen)]) g_number_bytes) (binop .add)) (fCall 1 (evA [(fVar 4)]) g_places_bytes) (binop .add)))), (sAsg 2 (fVar 3))])
def t_postings_bytes_2 : State → Res Fl := (sFor (.tp [(.nm 3), (.nm 4)]) (sD (fVar 0) itemsOf) lp_postings_bytes_0)
def t_postings_bytes_3 : State → Res Fl := (sRet (fVar 1))
def b_postings_bytes : State → Res Fl := (sSeq [t_postings_bytes_0, t_postings_bytes_1, t_postings_bytes_2, t_postings_bytes_3])
def g_postings_bytes : Fn := fnV 5 b_postings_bytes
def t__law_alike_0 (rec : Fn) : State → Res Fl := (sIf (evB (fIsi "str" (fVar 1))) (sSeq [(sRet (fAndV [(fIsi "str" (fVar 0)), (ev2 (fVar 0) (fVar 1) (fCmp .eq))]))]) (sSeq []))
def t__law_alike_1 (rec : Fn) : State → Res Fl := (sIf (evB (fIsi "int" (fVar 1))) (sSeq [(sRet (fAndV [(fIsi "int" (fVar 0)), (fNotV (fIsi "bool" (fVar 0))), (ev2 (fVar 0) (fVar 1) (fCmp .eq))]))]) (sSeq []))
def t__law_alike_2 (rec : Fn) : State → Res Fl := (sIf (evB (fIsi "list" (fVar 1))) (sSeq [(sIf (fNot (evB (fIsi "list" (fVar 0)))) (sSeq [(sRet (fD (.bl false)))]) (sSeq []))]) (sSeq [(sIf (fNot (evB (fIsi "tuple" (fVar 0)))) (sSeq [(sRet (fD (.bl false)))]) (sSeq []))]))
def t__law_alike_3 (rec : Fn) : State → Res Fl := (sIf (evB (ev2 (fBlt (evA [(fVar 0)]) bLen) (fBlt (evA [(fVar 1)]) bLen) (fCmp .ne))) (sSeq [(sRet (fD (.bl false)))]) (sSeq []))
def lp__law_alike_0 (rec : Fn) : State → Res Fl := (sSeq [(sIf (fNot (evB (fLook 2 (evA [(ev2 (fVar 0) (fVar 2) ixv), (ev2 (fVar 1) (fVar 2) ixv)]) rec))) (sSeq [(sRet (fD (.bl false)))]) (sSeq []))])
def t__law_alike_4 (rec : Fn) : State → Res Fl := (sFor (.nm 2) (SrcK (evA [(fBlt (evA [(fVar 1)]) bLen)]) kRng1) (lp__law_alike_0 rec))
def t__law_alike_5 (rec : Fn) : State → Res Fl := (sRet (fD (.bl true)))
def b__law_alike (rec : Fn) : State → Res Fl := (sSeq [(t__law_alike_0 rec), (t__law_alike_1 rec), (t__law_alike_2 rec), (t__law_alike_3 rec), (t__law_alike_4 rec), (t__law_alike_5 rec)])
def g__law_alike : Nat → Fn
  | 0 => fun _ _ => .stuck
  | k + 1 => fnV 3 (b__law_alike (g__law_alike k))
def t_ByteReader____init___0 : State → Res Fl := (sFldV fT "row" (fVar 0) (fVar 1))
def t_ByteReader____init___1 : State → Res Fl := (sFldV fT "at" (fVar 0) (fD (.int 0)))
def ce_ByteReader____init___0 : State → Res RV := (fTup [(fBlt (evA [(fVar 2)]) bOrd), (fVar 2)])
def t_ByteReader____init___2 : State → Res Fl := (sFldV fT "signs" (fVar 0) (fBlt (evA [(fLc [2] (.nm 2) (sD (fD (.str (sS " !\"#$&'()*+,-./0123456789:;<=>?@ABCDEFGHIJKLMNOPQRSTUVWXYZ[\\]^_`abcdefghijklmnopqrstuvwxyz{|}~"))) itemsOf) fTrue ce_ByteReader____init___0)]) bDict))
def b_ByteReader____init__ : State → Res Fl := (sSeq [t_ByteReader____init___0, t_ByteReader____init___1, t_ByteReader____init___2])
def g_ByteReader____init__ : Fn := fnV 3 b_ByteReader____init__
def t_ByteReader__sure_0 : State → Res Fl := (sIf (fNot (evB (fVar 1))) (sSeq [(sRaise "NoBytes")]) (sSeq []))
def b_ByteReader__sure : State → Res Fl := (sSeq [t_ByteReader__sure_0])
def g_ByteReader__sure : Fn := fnV 2 b_ByteReader__sure
def t_ByteReader__ended_0 : State → Res Fl := (sExpr (fMth callX "ByteReader" "sure" 2 (fVar 0) (evA [(ev2 (fFld fT "at" (fVar 0)) (fBlt (evA [(fFld fT "row" (fVar 0))]) bLen) (fCmp .eq))]) g_ByteReader__sure))
def t_ByteReader__ended_1 : State → Res Fl := (sRet (fVar 1))
def b_ByteReader__ended : State → Res Fl := (sSeq [t_ByteReader__ended_0, t_ByteReader__ended_1])
def g_ByteReader__ended : Fn := fnV 2 b_ByteReader__ended
def t_ByteReader__next_byte_0 : State → Res Fl := (sExpr (fMth callX "ByteReader" "sure" 2 (fVar 0) (evA [(ev2 (fFld fT "at" (fVar 0)) (fBlt (evA [(fFld fT "row" (fVar 0))]) bLen) (fCmp .lt))]) g_ByteReader__sure))
def t_ByteReader__next_byte_1 : State → Res Fl := (sAsg 1 (ev2 (fFld fT "row" (fVar 0)) (fFld fT "at" (fVar 0)) ixv))
def t_ByteReader__next_byte_2 : State → Res Fl := (sExpr (fMth callX "ByteReader" "sure" 2 (fVar 0) (evA [(ev3 (fD (.int 0)) (fVar 1) (fD (.int 255)) (fCmp .le) (fCmp .le))]) g_ByteReader__sure))
def t_ByteReader__next_byte_3 : State → Res Fl := (sFldA fT "at" .add (fVar 0) (fD (.int 1)))
def t_ByteReader__next_byte_4 : State → Res Fl := (sRet (fVar 1))
def b_ByteReader__next_byte : State → Res Fl := (sSeq [t_ByteReader__next_byte_0, t_ByteReader__next_byte_1, t_ByteReader__next_byte_2, t_ByteReader__next_byte_3, t_ByteReader__next_byte_4])
def g_ByteReader__next_byte : Fn := fnV 2 b_ByteReader__next_byte
def t_ByteReader__next_number_0 : State → Res Fl := (sAsg 1 (fLst []))
def t_ByteReader__next_number_1 : State → Res Fl := (sAsg 2 (fMth callX "ByteReader" "next_byte" 1 (fVar 0) (evA []) g_ByteReader__next_byte))
def lp_ByteReader__next_number_0 : State → Res Fl := (sSeq [(sExpr (fMt "list" (fVar 1) (evA [(ev2 (fVar 2) (fD (.int 128)) (binop .sub))]) bAppend tyLst)), (sAsg 2 (fMth callX "ByteReader" "next_byte" 1 (fVar 0) (evA []) g_ByteReader__next_byte))])
def t_ByteReader__next_number_2 : State → Res Fl := (sWh wFuel (evB (ev2 (fVar 2) (fD (.int 128)) (fCmp .ge))) lp_ByteReader__next_number_0)
def t_ByteReader__next_number_3 : State → Res Fl := (sExpr (fMth callX "ByteReader" "sure" 2 (fVar 0) (evA [(fOrV [(ev2 (fVar 2) (fD (.int 0)) (fCmp .gt)), (ev2 (fBlt (evA [(fVar 1)]) bLen) (fD (.int 0)) (fCmp .eq))])]) g_ByteReader__sure))
def lp_ByteReader__next_number_1 : State → Res Fl := (sSeq [(sAsg 2 (ev2 (ev2 (fVar 2) (fD (.int 128)) (binop .mul)) (fVar 3) (binop .add)))])
def t_ByteReader__next_number_4 : State → Res Fl := (sFor (.nm 3) (sD (fVar 1) revOf) lp_ByteReader__next_number_1)
def t_ByteReader__next_number_5 : State → Res Fl := (sRet (fVar 2))
def b_ByteReader__next_number : State → Res Fl := (sSeq [t_ByteReader__next_number_0, t_ByteReader__next_number_1, t_ByteReader__next_number_2, t_ByteReader__next_number_3, t_ByteReader__next_number_4, t_ByteReader__next_number_5])
def g_ByteReader__next_number : Fn := fnV 4 b_ByteReader__next_number
def t_ByteReader__next_rising_0 : State → Res Fl := (sAsg 2 (fLst []))
def lp_ByteReader__next_rising_0 : State → Res Fl := (sSeq [(sAsg 3 (fMth callX "ByteReader" "next_number" 1 (fVar 0) (evA []) g_ByteReader__next_number)), (sExpr (fMth callX "ByteReader" "sure" 2 (fVar 0) (evA [(fOrV [(ev2 (fVar 3) (fD (.int 0)) (fCmp .gt)), (ev2 (fBlt (evA [(fVar 2)]) bLen) (fD (.int 0)) (fCmp .eq))])]) g_ByteReader__sure)), (sExpr (fMt "list" (fVar 2) (evA [(ev2 (fBlt (evA [(fSl (fVar 2) (.ex (fNeg (fD (.int 1)))) .no)]) bSum) (fVar 3) (binop .add))]) bAppend tyLst))])
def t_ByteReader__next_rising_1 : State → Res Fl := (sWh wFuel (evB (ev2 (fBlt (evA [(fVar 2)]) bLen) (fVar 1) (fCmp .lt))) lp_ByteReader__next_rising_0)
def t_ByteReader__next_rising_2 : State → Res Fl := (sRet (fVar 2))
def b_ByteReader__next_rising : State → Res Fl := (sSeq [t_ByteReader__next_rising_0, t_ByteReader__next_rising_1, t_ByteReader__next_rising_2])
def g_ByteReader__next_rising : Fn := fnV 4 b_ByteReader__next_rising
def t_ByteReader__next_postings_0 : State → Res Fl := (sAsg 1 (fMth callX "ByteReader" "next_number" 1 (fVar 0) (evA []) g_ByteReader__next_number))
def t_ByteReader__next_postings_1 : State → Res Fl := (sAsg 2 (fLst []))
def t_ByteReader__next_postings_2 : State → Res Fl := (sAsg 3 (fD (.int 0)))
def lp_ByteReader__next_postings_0 : State → Res Fl := (sSeq [(sAsg 4 (fMth callX "ByteReader" "next_number" 1 (fVar 0) (evA []) g_ByteReader__next_number)), (sExpr (fMth callX "ByteReader" "sure" 2 (fVar 0) (evA [(fOrV [(ev2 (fVar 4) (fD (.int 0)) (fCmp .gt)), (ev2 (fBlt (evA [(fVar 2)]) bLen) (fD (.int 0)) (fCmp .eq))])]) g_ByteReader__sure)), (sAug 3 .add (fVar 4)), (sAsg 5 (fMth callX "ByteReader" "next_number" 1 (fVar 0) (evA []) g_ByteReader__next_number)), (sExpr (fMth callX "ByteReader" "sure" 2 (fVar 0) (evA [(ev2 (fVar 5) (fD (.int 0)) (fCmp .gt))]) g_ByteReader__sure)), (sExpr (fMt "list" (fVar 2) (evA [(fTup [(fVar 3), (fAl (fMth callX "ByteReader" "next_rising" 2 (fVar 0) (evA [(fVar 5)]) g_ByteReader__next_rising))])]) bAppend tyLst))])
def t_ByteReader__next_postings_3 : State → Res Fl := (sWh wFuel (evB (ev2 (fBlt (evA [(fVar 2)]) bLen) (fVar 1) (fCmp .lt))) lp_ByteReader__next_postings_0)
def t_ByteReader__next_postings_4 : State → Res Fl := (sRet (fVar 2))
def b_ByteReader__next_postings : State → Res Fl := (sSeq [t_ByteReader__next_postings_0, t_ByteReader__next_postings_1, t_ByteReader__next_postings_2, t_ByteReader__next_postings_3, t_ByteReader__next_postings_4])
def g_ByteReader__next_postings : Fn := fnV 6 b_ByteReader__next_postings
def t_read_postings_0 : State → Res Fl := (sAsg 1 (fMk callR "ByteReader" 2 (evA [(fVar 0)]) g_ByteReader____init__))
def t_read_postings_1 : State → Res Fl := (sRet (fMth callX "ByteReader" "ended" 2 (fVar 1) (evA [(fAl (fMth callX "ByteReader" "next_postings" 1 (fVar 1) (evA []) g_ByteReader__next_postings))]) g_ByteReader__ended))
def b_read_postings : State → Res Fl := (sSeq [t_read_postings_0, t_read_postings_1])
def g_read_postings : Fn := fnV 2 b_read_postings
def t_ByteReader__next_text_0 : State → Res Fl := (sAsg 1 (fMth callX "ByteReader" "next_number" 1 (fVar 0) (evA []) g_ByteReader__next_number))
def t_ByteReader__next_text_1 : State → Res Fl := (sAsg 2 (fLst []))
def lp_ByteReader__next_text_0 : State → Res Fl := (sSeq [(sAsg 3 (fMth callX "ByteReader" "next_byte" 1 (fVar 0) (evA []) g_ByteReader__next_byte)), (sExpr (fMth callX "ByteReader" "sure" 2 (fVar 0) (evA [(ev2 (fVar 3) (fFld fT "signs" (fVar 0)) (fCmp .isin))]) g_ByteReader__sure)), (sExpr (fMt "list" (fVar 2) (evA [(ev2 (fFld fT "signs" (fVar 0)) (fVar 3) ixv)]) bAppend tyLst))])
def t_ByteReader__next_text_2 : State → Res Fl := (sWh wFuel (evB (ev2 (fBlt (evA [(fVar 2)]) bLen) (fVar 1) (fCmp .lt))) lp_ByteReader__next_text_0)
def t_ByteReader__next_text_3 : State → Res Fl := (sRet (fMt "str" (fD (.str (sS ""))) (evA [(fVar 2)]) bJoin tyStr))
def b_ByteReader__next_text : State → Res Fl := (sSeq [t_ByteReader__next_text_0, t_ByteReader__next_text_1, t_ByteReader__next_text_2, t_ByteReader__next_text_3])
def g_ByteReader__next_text : Fn := fnV 4 b_ByteReader__next_text
def t_read_text_0 : State → Res Fl := (sAsg 1 (fMk callR "ByteReader" 2 (evA [(fVar 0)]) g_ByteReader____init__))
def t_read_text_1 : State → Res Fl := (sRet (fMth callX "ByteReader" "ended" 2 (fVar 1) (evA [(fMth callX "ByteReader" "next_text" 1 (fVar 1) (evA []) g_ByteReader__next_text)]) g_ByteReader__ended))
def b_read_text : State → Res Fl := (sSeq [t_read_text_0, t_read_text_1])
def g_read_text : Fn := fnV 2 b_read_text
def t_law_0 : State → Res Fl := (sAsg 1 (fAl (fCall 3 (evA [(fVar 0), (fD (.int 2)), (fD (.int 160))]) g__law_draws)))
def t_law_1 : State → Res Fl := (sAsg 2 (fCall 2 (evA [(fVar 0), (fVar 1)]) g__law_postings))
def t_law_2 : State → Res Fl := (sAsg 3 (fCall 2 (evA [(fVar 1), (fD (.int 130))]) g__law_text))
def t_law_3 : State → Res Fl := (sAsg 4 (fLst [(fCall 1 (evA [(fVar 3)]) g__law_text_bytes), (fCall 1 (evA [(fVar 2)]) g__law_postings_bytes)]))
def ce_law_0 : State → Res RV := (fTup [(fVar 9), (fBlt (evA [(fVar 10)]) bList)])
def t_law_4 : State → Res Fl := (sAsg 5 (fLc [9, 10] (.tp [(.nm 9), (.nm 10)]) (sD (fVar 2) itemsOf) fTrue ce_law_0))
def lp_law_0 : State → Res Fl := (sSeq [(sExpr (fMt "list" (fVar 10) (evA [(fD (.int 99))]) bAppend tyLst))])
def lp_law_1 : State → Res Fl := (sSeq [(sAsg 7 (fLst [(fAl (fCall 1 (evA [(fVar 3)]) g_text_bytes)), (fAl (fCall 1 (evA [(fVar 5)]) g_postings_bytes))])), (sIf (fNot (evB (fLookD 6 2 (evA [(fVar 7), (fVar 4)]) (g__law_alike 8)))) (sSeq [(sRet (fD (.bl false)))]) (sSeq [])), (sAsg 8 (fCallX 1 (evA [(ev2 (fVar 7) (fD (.int 1)) ixv)]) g_read_postings)), (sIf (fOr [(fNot (evB (fLookD 6 2 (evA [(fVar 8), (fVar 2)]) (g__law_alike 8)))), (fNot (evB (fLookD 6 2 (evA [(fCallX 1 (evA [(ev2 (fVar 7) (fD (.int 0)) ixv)]) g_read_text), (fVar 3)]) (g__law_alike 8))))]) (sSeq [(sRet (fD (.bl false)))]) (sSeq [])), (sIf (fOr [(evB (ev2 (fVar 7) (fVar 4) (fCmpD 6 true))), (evB (ev2 (fVar 5) (fVar 2) (fCmpD 6 true)))]) (sSeq [(sRet (fD (.bl false)))]) (sSeq [])), (sExpr (fMt "list" (ev2 (fVar 7) (fD (.int 0)) ixv) (evA [(fD (.int 1))]) bAppend tyLst)), (sExpr (fMt "list" (ev2 (fVar 7) (fD (.int 1)) ixv) (evA [(fD (.int 1))]) bAppend tyLst)), (sForS (.tp [(.nm 9), (.nm 10)]) (fVar 8) lp_law_0), (sExpr (fMt "list" (fVar 8) (evA [(fTup [(fD (.int 1)), (fLst [])])]) bAppend tyLst))])
def t_law_5 : State → Res Fl := (sFor (.nm 6) (SrcK (evA [(fD (.int 2))]) kRng1) lp_law_1)
def t_law_6 : State → Res Fl := (sRet (fD (.bl true)))
def b_law : State → Res Fl := (sSeq [t_law_0, t_law_1, t_law_2, t_law_3, t_law_4, t_law_5, t_law_6])
def g_law : Fn := fnV 11 b_law
end
end K12
namespace K12
open PySem L2 PyProof.Rows Vw
theorem nd_ByteReader : (("ByteReader" : Str) == ("__debug__" : Str)) = false := by decide
theorem nc_ByteReader : (("ByteReader" : Str) == ("__classdict__" : Str)) = false := by decide
theorem nn_ByteReader : ("ByteReader" : Str) ≠ "__name__" := by decide
theorem nd_NoBytes : (("NoBytes" : Str) == ("__debug__" : Str)) = false := by decide
theorem nc_NoBytes : (("NoBytes" : Str) == ("__classdict__" : Str)) = false := by decide
theorem nn_NoBytes : ("NoBytes" : Str) ≠ "__name__" := by decide
theorem nd_SIGNS : (("SIGNS" : Str) == ("__debug__" : Str)) = false := by decide
theorem nc_SIGNS : (("SIGNS" : Str) == ("__classdict__" : Str)) = false := by decide
theorem nn_SIGNS : ("SIGNS" : Str) ≠ "__name__" := by decide
theorem nd__law_ahead : (("_law_ahead" : Str) == ("__debug__" : Str)) = false := by decide
theorem nc__law_ahead : (("_law_ahead" : Str) == ("__classdict__" : Str)) = false := by decide
theorem nn__law_ahead : ("_law_ahead" : Str) ≠ "__name__" := by decide
theorem nd__law_alike : (("_law_alike" : Str) == ("__debug__" : Str)) = false := by decide
theorem nc__law_alike : (("_law_alike" : Str) == ("__classdict__" : Str)) = false := by decide
theorem nn__law_alike : ("_law_alike" : Str) ≠ "__name__" := by decide
theorem nd__law_at : (("_law_at" : Str) == ("__debug__" : Str)) = false := by decide
theorem nc__law_at : (("_law_at" : Str) == ("__classdict__" : Str)) = false := by decide
theorem nn__law_at : ("_law_at" : Str) ≠ "__name__" := by decide
theorem nd__law_before : (("_law_before" : Str) == ("__debug__" : Str)) = false := by decide
theorem nc__law_before : (("_law_before" : Str) == ("__classdict__" : Str)) = false := by decide
theorem nn__law_before : ("_law_before" : Str) ≠ "__name__" := by decide
theorem nd__law_cell : (("_law_cell" : Str) == ("__debug__" : Str)) = false := by decide
theorem nc__law_cell : (("_law_cell" : Str) == ("__classdict__" : Str)) = false := by decide
theorem nn__law_cell : ("_law_cell" : Str) ≠ "__name__" := by decide
theorem nd__law_cells : (("_law_cells" : Str) == ("__debug__" : Str)) = false := by decide
theorem nc__law_cells : (("_law_cells" : Str) == ("__classdict__" : Str)) = false := by decide
theorem nn__law_cells : ("_law_cells" : Str) ≠ "__name__" := by decide
theorem nd__law_draws : (("_law_draws" : Str) == ("__debug__" : Str)) = false := by decide
theorem nc__law_draws : (("_law_draws" : Str) == ("__classdict__" : Str)) = false := by decide
theorem nn__law_draws : ("_law_draws" : Str) ≠ "__name__" := by decide
theorem nd__law_draws_here : (("_law_draws_here" : Str) == ("__debug__" : Str)) = false := by decide
theorem nc__law_draws_here : (("_law_draws_here" : Str) == ("__classdict__" : Str)) = false := by decide
theorem nn__law_draws_here : ("_law_draws_here" : Str) ≠ "__name__" := by decide
theorem nd__law_due : (("_law_due" : Str) == ("__debug__" : Str)) = false := by decide
theorem nc__law_due : (("_law_due" : Str) == ("__classdict__" : Str)) = false := by decide
theorem nn__law_due : ("_law_due" : Str) ≠ "__name__" := by decide
theorem nd__law_far : (("_law_far" : Str) == ("__debug__" : Str)) = false := by decide
theorem nc__law_far : (("_law_far" : Str) == ("__classdict__" : Str)) = false := by decide
theorem nn__law_far : ("_law_far" : Str) ≠ "__name__" := by decide
theorem nd__law_found : (("_law_found" : Str) == ("__debug__" : Str)) = false := by decide
theorem nc__law_found : (("_law_found" : Str) == ("__classdict__" : Str)) = false := by decide
theorem nn__law_found : ("_law_found" : Str) ≠ "__name__" := by decide
theorem nd__law_handed : (("_law_handed" : Str) == ("__debug__" : Str)) = false := by decide
theorem nc__law_handed : (("_law_handed" : Str) == ("__classdict__" : Str)) = false := by decide
theorem nn__law_handed : ("_law_handed" : Str) ≠ "__name__" := by decide
theorem nd__law_k : (("_law_k" : Str) == ("__debug__" : Str)) = false := by decide
theorem nc__law_k : (("_law_k" : Str) == ("__classdict__" : Str)) = false := by decide
theorem nn__law_k : ("_law_k" : Str) ≠ "__name__" := by decide
theorem nd__law_left : (("_law_left" : Str) == ("__debug__" : Str)) = false := by decide
theorem nc__law_left : (("_law_left" : Str) == ("__classdict__" : Str)) = false := by decide
theorem nn__law_left : ("_law_left" : Str) ≠ "__name__" := by decide
theorem nd__law_make : (("_law_make" : Str) == ("__debug__" : Str)) = false := by decide
theorem nc__law_make : (("_law_make" : Str) == ("__classdict__" : Str)) = false := by decide
theorem nn__law_make : ("_law_make" : Str) ≠ "__name__" := by decide
theorem nd__law_many : (("_law_many" : Str) == ("__debug__" : Str)) = false := by decide
theorem nc__law_many : (("_law_many" : Str) == ("__classdict__" : Str)) = false := by decide
theorem nn__law_many : ("_law_many" : Str) ≠ "__name__" := by decide
theorem nd__law_most : (("_law_most" : Str) == ("__debug__" : Str)) = false := by decide
theorem nc__law_most : (("_law_most" : Str) == ("__classdict__" : Str)) = false := by decide
theorem nn__law_most : ("_law_most" : Str) ≠ "__name__" := by decide
theorem nd__law_number : (("_law_number" : Str) == ("__debug__" : Str)) = false := by decide
theorem nc__law_number : (("_law_number" : Str) == ("__classdict__" : Str)) = false := by decide
theorem nn__law_number : ("_law_number" : Str) ≠ "__name__" := by decide
theorem nd__law_number_bytes : (("_law_number_bytes" : Str) == ("__debug__" : Str)) = false := by decide
theorem nc__law_number_bytes : (("_law_number_bytes" : Str) == ("__classdict__" : Str)) = false := by decide
theorem nn__law_number_bytes : ("_law_number_bytes" : Str) ≠ "__name__" := by decide
theorem nd__law_one : (("_law_one" : Str) == ("__debug__" : Str)) = false := by decide
theorem nc__law_one : (("_law_one" : Str) == ("__classdict__" : Str)) = false := by decide
theorem nn__law_one : ("_law_one" : Str) ≠ "__name__" := by decide
theorem nd__law_place : (("_law_place" : Str) == ("__debug__" : Str)) = false := by decide
theorem nc__law_place : (("_law_place" : Str) == ("__classdict__" : Str)) = false := by decide
theorem nn__law_place : ("_law_place" : Str) ≠ "__name__" := by decide
theorem nd__law_places : (("_law_places" : Str) == ("__debug__" : Str)) = false := by decide
theorem nc__law_places : (("_law_places" : Str) == ("__classdict__" : Str)) = false := by decide
theorem nn__law_places : ("_law_places" : Str) ≠ "__name__" := by decide
theorem nd__law_pop : (("_law_pop" : Str) == ("__debug__" : Str)) = false := by decide
theorem nc__law_pop : (("_law_pop" : Str) == ("__classdict__" : Str)) = false := by decide
theorem nn__law_pop : ("_law_pop" : Str) ≠ "__name__" := by decide
theorem nd__law_postings : (("_law_postings" : Str) == ("__debug__" : Str)) = false := by decide
theorem nc__law_postings : (("_law_postings" : Str) == ("__classdict__" : Str)) = false := by decide
theorem nn__law_postings : ("_law_postings" : Str) ≠ "__name__" := by decide
theorem nd__law_postings_bytes : (("_law_postings_bytes" : Str) == ("__debug__" : Str)) = false := by decide
theorem nc__law_postings_bytes : (("_law_postings_bytes" : Str) == ("__classdict__" : Str)) = false := by decide
theorem nn__law_postings_bytes : ("_law_postings_bytes" : Str) ≠ "__name__" := by decide
theorem nd__law_postings_here : (("_law_postings_here" : Str) == ("__debug__" : Str)) = false := by decide
theorem nc__law_postings_here : (("_law_postings_here" : Str) == ("__classdict__" : Str)) = false := by decide
theorem nn__law_postings_here : ("_law_postings_here" : Str) ≠ "__name__" := by decide
theorem nd__law_script : (("_law_script" : Str) == ("__debug__" : Str)) = false := by decide
theorem nc__law_script : (("_law_script" : Str) == ("__classdict__" : Str)) = false := by decide
theorem nn__law_script : ("_law_script" : Str) ≠ "__name__" := by decide
theorem nd__law_sign : (("_law_sign" : Str) == ("__debug__" : Str)) = false := by decide
theorem nc__law_sign : (("_law_sign" : Str) == ("__classdict__" : Str)) = false := by decide
theorem nn__law_sign : ("_law_sign" : Str) ≠ "__name__" := by decide
theorem nd__law_signs : (("_law_signs" : Str) == ("__debug__" : Str)) = false := by decide
theorem nc__law_signs : (("_law_signs" : Str) == ("__classdict__" : Str)) = false := by decide
theorem nn__law_signs : ("_law_signs" : Str) ≠ "__name__" := by decide
theorem nd__law_some : (("_law_some" : Str) == ("__debug__" : Str)) = false := by decide
theorem nc__law_some : (("_law_some" : Str) == ("__classdict__" : Str)) = false := by decide
theorem nn__law_some : ("_law_some" : Str) ≠ "__name__" := by decide
theorem nd__law_text : (("_law_text" : Str) == ("__debug__" : Str)) = false := by decide
theorem nc__law_text : (("_law_text" : Str) == ("__classdict__" : Str)) = false := by decide
theorem nn__law_text : ("_law_text" : Str) ≠ "__name__" := by decide
theorem nd__law_text_bytes : (("_law_text_bytes" : Str) == ("__debug__" : Str)) = false := by decide
theorem nc__law_text_bytes : (("_law_text_bytes" : Str) == ("__classdict__" : Str)) = false := by decide
theorem nn__law_text_bytes : ("_law_text_bytes" : Str) ≠ "__name__" := by decide
theorem nd__law_text_here : (("_law_text_here" : Str) == ("__debug__" : Str)) = false := by decide
theorem nc__law_text_here : (("_law_text_here" : Str) == ("__classdict__" : Str)) = false := by decide
theorem nn__law_text_here : ("_law_text_here" : Str) ≠ "__name__" := by decide
theorem nd__law_told : (("_law_told" : Str) == ("__debug__" : Str)) = false := by decide
theorem nc__law_told : (("_law_told" : Str) == ("__classdict__" : Str)) = false := by decide
theorem nn__law_told : ("_law_told" : Str) ≠ "__name__" := by decide
theorem nd__law_turn : (("_law_turn" : Str) == ("__debug__" : Str)) = false := by decide
theorem nc__law_turn : (("_law_turn" : Str) == ("__classdict__" : Str)) = false := by decide
theorem nn__law_turn : ("_law_turn" : Str) ≠ "__name__" := by decide
theorem nd__law_two : (("_law_two" : Str) == ("__debug__" : Str)) = false := by decide
theorem nc__law_two : (("_law_two" : Str) == ("__classdict__" : Str)) = false := by decide
theorem nn__law_two : ("_law_two" : Str) ≠ "__name__" := by decide
theorem nd_bool : (("bool" : Str) == ("__debug__" : Str)) = false := by decide
theorem nc_bool : (("bool" : Str) == ("__classdict__" : Str)) = false := by decide
theorem nn_bool : ("bool" : Str) ≠ "__name__" := by decide
theorem nd_byte : (("byte" : Str) == ("__debug__" : Str)) = false := by decide
theorem nc_byte : (("byte" : Str) == ("__classdict__" : Str)) = false := by decide
theorem nn_byte : ("byte" : Str) ≠ "__name__" := by decide
theorem nd_dict : (("dict" : Str) == ("__debug__" : Str)) = false := by decide
theorem nc_dict : (("dict" : Str) == ("__classdict__" : Str)) = false := by decide
theorem nn_dict : ("dict" : Str) ≠ "__name__" := by decide
theorem nd_found : (("found" : Str) == ("__debug__" : Str)) = false := by decide
theorem nc_found : (("found" : Str) == ("__classdict__" : Str)) = false := by decide
theorem nn_found : ("found" : Str) ≠ "__name__" := by decide
theorem nd_good : (("good" : Str) == ("__debug__" : Str)) = false := by decide
theorem nc_good : (("good" : Str) == ("__classdict__" : Str)) = false := by decide
theorem nn_good : ("good" : Str) ≠ "__name__" := by decide
theorem nd_int : (("int" : Str) == ("__debug__" : Str)) = false := by decide
theorem nc_int : (("int" : Str) == ("__classdict__" : Str)) = false := by decide
theorem nn_int : ("int" : Str) ≠ "__name__" := by decide
theorem nd_isinstance : (("isinstance" : Str) == ("__debug__" : Str)) = false := by decide
theorem nc_isinstance : (("isinstance" : Str) == ("__classdict__" : Str)) = false := by decide
theorem nn_isinstance : ("isinstance" : Str) ≠ "__name__" := by decide
theorem nd_last : (("last" : Str) == ("__debug__" : Str)) = false := by decide
theorem nc_last : (("last" : Str) == ("__classdict__" : Str)) = false := by decide
theorem nn_last : ("last" : Str) ≠ "__name__" := by decide
theorem nd_len : (("len" : Str) == ("__debug__" : Str)) = false := by decide
theorem nc_len : (("len" : Str) == ("__classdict__" : Str)) = false := by decide
theorem nn_len : ("len" : Str) ≠ "__name__" := by decide
theorem nd_list : (("list" : Str) == ("__debug__" : Str)) = false := by decide
theorem nc_list : (("list" : Str) == ("__classdict__" : Str)) = false := by decide
theorem nn_list : ("list" : Str) ≠ "__name__" := by decide
theorem nd_make : (("make" : Str) == ("__debug__" : Str)) = false := by decide
theorem nc_make : (("make" : Str) == ("__classdict__" : Str)) = false := by decide
theorem nn_make : ("make" : Str) ≠ "__name__" := by decide
theorem nd_many : (("many" : Str) == ("__debug__" : Str)) = false := by decide
theorem nc_many : (("many" : Str) == ("__classdict__" : Str)) = false := by decide
theorem nn_many : ("many" : Str) ≠ "__name__" := by decide
theorem nd_number : (("number" : Str) == ("__debug__" : Str)) = false := by decide
theorem nc_number : (("number" : Str) == ("__classdict__" : Str)) = false := by decide
theorem nn_number : ("number" : Str) ≠ "__name__" := by decide
theorem nd_number_bytes : (("number_bytes" : Str) == ("__debug__" : Str)) = false := by decide
theorem nc_number_bytes : (("number_bytes" : Str) == ("__classdict__" : Str)) = false := by decide
theorem nn_number_bytes : ("number_bytes" : Str) ≠ "__name__" := by decide
theorem nd_ord : (("ord" : Str) == ("__debug__" : Str)) = false := by decide
theorem nc_ord : (("ord" : Str) == ("__classdict__" : Str)) = false := by decide
theorem nn_ord : ("ord" : Str) ≠ "__name__" := by decide
theorem nd_part : (("part" : Str) == ("__debug__" : Str)) = false := by decide
theorem nc_part : (("part" : Str) == ("__classdict__" : Str)) = false := by decide
theorem nn_part : ("part" : Str) ≠ "__name__" := by decide
theorem nd_parts : (("parts" : Str) == ("__debug__" : Str)) = false := by decide
theorem nc_parts : (("parts" : Str) == ("__classdict__" : Str)) = false := by decide
theorem nn_parts : ("parts" : Str) ≠ "__name__" := by decide
theorem nd_place : (("place" : Str) == ("__debug__" : Str)) = false := by decide
theorem nc_place : (("place" : Str) == ("__classdict__" : Str)) = false := by decide
theorem nn_place : ("place" : Str) ≠ "__name__" := by decide
theorem nd_places : (("places" : Str) == ("__debug__" : Str)) = false := by decide
theorem nc_places : (("places" : Str) == ("__classdict__" : Str)) = false := by decide
theorem nn_places : ("places" : Str) ≠ "__name__" := by decide
theorem nd_places_bytes : (("places_bytes" : Str) == ("__debug__" : Str)) = false := by decide
theorem nc_places_bytes : (("places_bytes" : Str) == ("__classdict__" : Str)) = false := by decide
theorem nn_places_bytes : ("places_bytes" : Str) ≠ "__name__" := by decide
theorem nd_postings : (("postings" : Str) == ("__debug__" : Str)) = false := by decide
theorem nc_postings : (("postings" : Str) == ("__classdict__" : Str)) = false := by decide
theorem nn_postings : ("postings" : Str) ≠ "__name__" := by decide
theorem nd_postings_bytes : (("postings_bytes" : Str) == ("__debug__" : Str)) = false := by decide
theorem nc_postings_bytes : (("postings_bytes" : Str) == ("__classdict__" : Str)) = false := by decide
theorem nn_postings_bytes : ("postings_bytes" : Str) ≠ "__name__" := by decide
theorem nd_range : (("range" : Str) == ("__debug__" : Str)) = false := by decide
theorem nc_range : (("range" : Str) == ("__classdict__" : Str)) = false := by decide
theorem nn_range : ("range" : Str) ≠ "__name__" := by decide
theorem nd_read_postings : (("read_postings" : Str) == ("__debug__" : Str)) = false := by decide
theorem nc_read_postings : (("read_postings" : Str) == ("__classdict__" : Str)) = false := by decide
theorem nn_read_postings : ("read_postings" : Str) ≠ "__name__" := by decide
theorem nd_read_text : (("read_text" : Str) == ("__debug__" : Str)) = false := by decide
theorem nc_read_text : (("read_text" : Str) == ("__classdict__" : Str)) = false := by decide
theorem nn_read_text : ("read_text" : Str) ≠ "__name__" := by decide
theorem nd_reader : (("reader" : Str) == ("__debug__" : Str)) = false := by decide
theorem nc_reader : (("reader" : Str) == ("__classdict__" : Str)) = false := by decide
theorem nn_reader : ("reader" : Str) ≠ "__name__" := by decide
theorem nd_reversed : (("reversed" : Str) == ("__debug__" : Str)) = false := by decide
theorem nc_reversed : (("reversed" : Str) == ("__classdict__" : Str)) = false := by decide
theorem nn_reversed : ("reversed" : Str) ≠ "__name__" := by decide
theorem nd_row : (("row" : Str) == ("__debug__" : Str)) = false := by decide
theorem nc_row : (("row" : Str) == ("__classdict__" : Str)) = false := by decide
theorem nn_row : ("row" : Str) ≠ "__name__" := by decide
theorem nd_self : (("self" : Str) == ("__debug__" : Str)) = false := by decide
theorem nc_self : (("self" : Str) == ("__classdict__" : Str)) = false := by decide
theorem nn_self : ("self" : Str) ≠ "__name__" := by decide
theorem nd_sign : (("sign" : Str) == ("__debug__" : Str)) = false := by decide
theorem nc_sign : (("sign" : Str) == ("__classdict__" : Str)) = false := by decide
theorem nn_sign : ("sign" : Str) ≠ "__name__" := by decide
theorem nd_step : (("step" : Str) == ("__debug__" : Str)) = false := by decide
theorem nc_step : (("step" : Str) == ("__classdict__" : Str)) = false := by decide
theorem nn_step : ("step" : Str) ≠ "__name__" := by decide
theorem nd_str : (("str" : Str) == ("__debug__" : Str)) = false := by decide
theorem nc_str : (("str" : Str) == ("__classdict__" : Str)) = false := by decide
theorem nn_str : ("str" : Str) ≠ "__name__" := by decide
theorem nd_sum : (("sum" : Str) == ("__debug__" : Str)) = false := by decide
theorem nc_sum : (("sum" : Str) == ("__classdict__" : Str)) = false := by decide
theorem nn_sum : ("sum" : Str) ≠ "__name__" := by decide
theorem nd_text : (("text" : Str) == ("__debug__" : Str)) = false := by decide
theorem nc_text : (("text" : Str) == ("__classdict__" : Str)) = false := by decide
theorem nn_text : ("text" : Str) ≠ "__name__" := by decide
theorem nd_text_bytes : (("text_bytes" : Str) == ("__debug__" : Str)) = false := by decide
theorem nc_text_bytes : (("text_bytes" : Str) == ("__classdict__" : Str)) = false := by decide
theorem nn_text_bytes : ("text_bytes" : Str) ≠ "__name__" := by decide
theorem nd_told : (("told" : Str) == ("__debug__" : Str)) = false := by decide
theorem nc_told : (("told" : Str) == ("__classdict__" : Str)) = false := by decide
theorem nn_told : ("told" : Str) ≠ "__name__" := by decide
theorem nd_tuple : (("tuple" : Str) == ("__debug__" : Str)) = false := by decide
theorem nc_tuple : (("tuple" : Str) == ("__classdict__" : Str)) = false := by decide
theorem nn_tuple : ("tuple" : Str) ≠ "__name__" := by decide
structure Fx (P : Program) (w : World) (K : PySem.W.Frag) (mg : Str → Option Value) (base : Heap) (cA : String → Addr) where
  f__law_draws : Addr
  d__law_draws : FuncData
  F__law_draws : FnP K "_law_draws" "_law_draws" (top 14) f__law_draws d__law_draws
  B__law_draws : Binds K d__law_draws ["_law_script", "_law_turn", "_law_many"] []
  g__law_draws : mg "_law_draws" = some (.ref f__law_draws)
  f__law_pop : Addr
  d__law_pop : FuncData
  F__law_pop : FnP K "_law_pop" "_law_pop" (top 15) f__law_pop d__law_pop
  B__law_pop : Binds K d__law_pop ["_law_draws_here"] []
  g__law_pop : mg "_law_pop" = some (.ref f__law_pop)
  f__law_postings : Addr
  d__law_postings : FuncData
  F__law_postings : FnP K "_law_postings" "_law_postings" (top 20) f__law_postings d__law_postings
  B__law_postings : Binds K d__law_postings ["_law_script", "_law_draws_here"] []
  g__law_postings : mg "_law_postings" = some (.ref f__law_postings)
  f__law_signs : Addr
  d__law_signs : FuncData
  F__law_signs : FnP K "_law_signs" "_law_signs" (top 17) f__law_signs d__law_signs
  B__law_signs : Binds K d__law_signs [] []
  g__law_signs : mg "_law_signs" = some (.ref f__law_signs)
  f__law_text : Addr
  d__law_text : FuncData
  F__law_text : FnP K "_law_text" "_law_text" (top 18) f__law_text d__law_text
  B__law_text : Binds K d__law_text ["_law_draws_here", "_law_most"] []
  g__law_text : mg "_law_text" = some (.ref f__law_text)
  f__law_number_bytes : Addr
  d__law_number_bytes : FuncData
  F__law_number_bytes : FnP K "_law_number_bytes" "_law_number_bytes" (top 19) f__law_number_bytes d__law_number_bytes
  B__law_number_bytes : Binds K d__law_number_bytes ["_law_number"] []
  g__law_number_bytes : mg "_law_number_bytes" = some (.ref f__law_number_bytes)
  f__law_text_bytes : Addr
  d__law_text_bytes : FuncData
  F__law_text_bytes : FnP K "_law_text_bytes" "_law_text_bytes" (top 22) f__law_text_bytes d__law_text_bytes
  B__law_text_bytes : Binds K d__law_text_bytes ["_law_text_here"] []
  g__law_text_bytes : mg "_law_text_bytes" = some (.ref f__law_text_bytes)
  f__law_postings_bytes : Addr
  d__law_postings_bytes : FuncData
  F__law_postings_bytes : FnP K "_law_postings_bytes" "_law_postings_bytes" (top 21) f__law_postings_bytes d__law_postings_bytes
  B__law_postings_bytes : Binds K d__law_postings_bytes ["_law_postings_here"] []
  g__law_postings_bytes : mg "_law_postings_bytes" = some (.ref f__law_postings_bytes)
  f_number_bytes : Addr
  d_number_bytes : FuncData
  F_number_bytes : FnP K "number_bytes" "number_bytes" (top 6) f_number_bytes d_number_bytes
  B_number_bytes : Binds K d_number_bytes ["number"] []
  g_number_bytes : mg "number_bytes" = some (.ref f_number_bytes)
  f_text_bytes : Addr
  d_text_bytes : FuncData
  F_text_bytes : FnP K "text_bytes" "text_bytes" (top 7) f_text_bytes d_text_bytes
  B_text_bytes : Binds K d_text_bytes ["text"] []
  g_text_bytes : mg "text_bytes" = some (.ref f_text_bytes)
  f_places_bytes : Addr
  d_places_bytes : FuncData
  F_places_bytes : FnP K "places_bytes" "places_bytes" (top 8) f_places_bytes d_places_bytes
  B_places_bytes : Binds K d_places_bytes ["places"] []
  g_places_bytes : mg "places_bytes" = some (.ref f_places_bytes)
  f_postings_bytes : Addr
  d_postings_bytes : FuncData
  F_postings_bytes : FnP K "postings_bytes" "postings_bytes" (top 9) f_postings_bytes d_postings_bytes
  B_postings_bytes : Binds K d_postings_bytes ["postings"] []
  g_postings_bytes : mg "postings_bytes" = some (.ref f_postings_bytes)
  f__law_alike : Addr
  d__law_alike : FuncData
  F__law_alike : FnP K "_law_alike" "_law_alike" (top 16) f__law_alike d__law_alike
  B__law_alike : Binds K d__law_alike ["_law_found", "_law_due"] []
  g__law_alike : mg "_law_alike" = some (.ref f__law_alike)
  f_ByteReader____init__ : Addr
  d_ByteReader____init__ : FuncData
  F_ByteReader____init__ : FnP K "__init__" "ByteReader.__init__" (mth 10 0) f_ByteReader____init__ d_ByteReader____init__
  B_ByteReader____init__ : Binds K d_ByteReader____init__ ["self", "row"] []
  f_ByteReader__sure : Addr
  d_ByteReader__sure : FuncData
  F_ByteReader__sure : FnP K "sure" "ByteReader.sure" (mth 10 1) f_ByteReader__sure d_ByteReader__sure
  B_ByteReader__sure : Binds K d_ByteReader__sure ["self", "good"] []
  m_ByteReader__sure : Meth K (cA "ByteReader") (Str.ofString "sure") f_ByteReader__sure
  f_ByteReader__ended : Addr
  d_ByteReader__ended : FuncData
  F_ByteReader__ended : FnP K "ended" "ByteReader.ended" (mth 10 11) f_ByteReader__ended d_ByteReader__ended
  B_ByteReader__ended : Binds K d_ByteReader__ended ["self", "told"] []
  m_ByteReader__ended : Meth K (cA "ByteReader") (Str.ofString "ended") f_ByteReader__ended
  f_ByteReader__next_byte : Addr
  d_ByteReader__next_byte : FuncData
  F_ByteReader__next_byte : FnP K "next_byte" "ByteReader.next_byte" (mth 10 2) f_ByteReader__next_byte d_ByteReader__next_byte
  B_ByteReader__next_byte : Binds K d_ByteReader__next_byte ["self"] []
  m_ByteReader__next_byte : Meth K (cA "ByteReader") (Str.ofString "next_byte") f_ByteReader__next_byte
  f_ByteReader__next_number : Addr
  d_ByteReader__next_number : FuncData
  F_ByteReader__next_number : FnP K "next_number" "ByteReader.next_number" (mth 10 3) f_ByteReader__next_number d_ByteReader__next_number
  B_ByteReader__next_number : Binds K d_ByteReader__next_number ["self"] []
  m_ByteReader__next_number : Meth K (cA "ByteReader") (Str.ofString "next_number") f_ByteReader__next_number
  f_ByteReader__next_rising : Addr
  d_ByteReader__next_rising : FuncData
  F_ByteReader__next_rising : FnP K "next_rising" "ByteReader.next_rising" (mth 10 4) f_ByteReader__next_rising d_ByteReader__next_rising
  B_ByteReader__next_rising : Binds K d_ByteReader__next_rising ["self", "many"] []
  m_ByteReader__next_rising : Meth K (cA "ByteReader") (Str.ofString "next_rising") f_ByteReader__next_rising
  f_ByteReader__next_postings : Addr
  d_ByteReader__next_postings : FuncData
  F_ByteReader__next_postings : FnP K "next_postings" "ByteReader.next_postings" (mth 10 6) f_ByteReader__next_postings d_ByteReader__next_postings
  B_ByteReader__next_postings : Binds K d_ByteReader__next_postings ["self"] []
  m_ByteReader__next_postings : Meth K (cA "ByteReader") (Str.ofString "next_postings") f_ByteReader__next_postings
  f_read_postings : Addr
  d_read_postings : FuncData
  F_read_postings : FnP K "read_postings" "read_postings" (top 12) f_read_postings d_read_postings
  B_read_postings : Binds K d_read_postings ["row"] []
  g_read_postings : mg "read_postings" = some (.ref f_read_postings)
  f_ByteReader__next_text : Addr
  d_ByteReader__next_text : FuncData
  F_ByteReader__next_text : FnP K "next_text" "ByteReader.next_text" (mth 10 5) f_ByteReader__next_text d_ByteReader__next_text
  B_ByteReader__next_text : Binds K d_ByteReader__next_text ["self"] []
  m_ByteReader__next_text : Meth K (cA "ByteReader") (Str.ofString "next_text") f_ByteReader__next_text
  f_read_text : Addr
  d_read_text : FuncData
  F_read_text : FnP K "read_text" "read_text" (top 11) f_read_text d_read_text
  B_read_text : Binds K d_read_text ["row"] []
  g_read_text : mg "read_text" = some (.ref f_read_text)
  f_law : Addr
  d_law : FuncData
  F_law : FnP K "law" "law" (top 23) f_law d_law
  B_law : Binds K d_law ["_law_script"] []
  g_law : mg "law" = some (.ref f_law)
  b_bool : mg "bool" = none
  b_dict : mg "dict" = none
  b_int : mg "int" = none
  b_isinstance : mg "isinstance" = none
  b_len : mg "len" = none
  b_list : mg "list" = none
  b_ord : mg "ord" = none
  b_range : mg "range" = none
  b_reversed : mg "reversed" = none
  b_str : mg "str" = none
  b_sum : mg "sum" = none
  b_tuple : mg "tuple" = none
  t_SIGNS : Tok
  c_SIGNS : mg "SIGNS" = some (.str " !\"#$&'()*+,-./0123456789:;<=>?@ABCDEFGHIJKLMNOPQRSTUVWXYZ[\\]^_`abcdefghijklmnopqrstuvwxyz{|}~" t_SIGNS)
  gc_ByteReader : mg (Str.ofString "ByteReader") = some (.ref (cA "ByteReader"))
  gc_NoBytes : mg (Str.ofString "NoBytes") = some (.ref (cA "NoBytes"))
  ex_NoBytes : ExF K (cA "NoBytes")
  cl_ByteReader : Cls K (cA "ByteReader")
  k_ByteReader : Mk K (cA "ByteReader") f_ByteReader____init__
  fld : FldF K cA fT
section
variable {P : Program} {w : World} {K : PySem.W.Frag} {mg : Str → Option Value} {base : Heap} {cA : String → Addr}
theorem sc__law_draws : FnScope ["_law_script", "_law_turn", "_law_many", "_law_cells", "_law_found", "_law_k", "_law_left", "_law_place", "_law_number", "_law_at", "_law_cell"] ["_law_script", "_law_turn", "_law_many"] (defScope (top 14)) := ⟨rfl, rfl, rfl, by decide +kernel, rfl, by decide +kernel, by decide +kernel⟩
theorem ok__law_draws (E : Fx P w K mg base cA) : FnOk P w K mg base CX0 2 E.f__law_draws E.d__law_draws ["_law_script", "_law_turn", "_law_many"] (spV cA 3 g__law_draws) := by
  refine x_fn (N := ["_law_script", "_law_turn", "_law_many", "_law_cells", "_law_found", "_law_k", "_law_left", "_law_place", "_law_number", "_law_at", "_law_cell"]) (k := 1) E.F__law_draws sc__law_draws rfl rfl fun cdv A outer s H E0 C hr hC => ?_
  have hu := hr.units
  have nodupN := sc__law_draws.nd
  unfold b__law_draws
  exact (v_scons (v_asg nodupN rfl (.inl rfl) (.inr rfl) (x_add (v_sl (Vw.v_var (i := 0) rfl (.inl rfl) nd__law_script nc__law_script) v_pno (v_pex (v_const pe_int fun _ => rfl))) (v_lst' (v_cons (Vw.v_var (i := 1) rfl (.inl rfl) nd__law_turn nc__law_turn) v_nil rfl))) rfl) (v_scons (v_asg nodupN rfl (.inl rfl) (.inr rfl) (v_lst' v_nil) rfl) (v_scons (Vw.v_if (xt_eq hu (x_mod (x_fdiv (v_ix hu (Vw.v_var (i := 3) rfl (.inl rfl) nd__law_cells nc__law_cells) (v_const pe_int fun _ => rfl) rfl) (v_const pe_int fun _ => rfl)) (v_const pe_int fun _ => rfl)) (v_const pe_int fun _ => rfl) rfl) (v_scons (x_setLc hC [("_law_cell", 10)] rfl rfl nodupN rfl rfl rfl rfl (by kernel_rfl) (v_it (Vw.v_var (i := 3) rfl (.inl rfl) nd__law_cells nc__law_cells)) (by kernel_rfl) (fun s H D cl fp C hC => ⟨(v_tgn nodupN rfl (.inl rfl) (.inr rfl)), v_tnil, (x_fdiv (Vw.v_var (i := 10) rfl (.inl rfl) nd__law_cell nc__law_cell) (v_const pe_int fun _ => rfl))⟩) rfl (by decide)) (v_scons (x_forW hC PassesOwn.never rfl (v_rng1 (v_cons (x_add (Vw.v_var (i := 1) rfl (.inl rfl) nd__law_turn nc__law_turn) (Vw.v_var (i := 2) rfl (.inl rfl) nd__law_many nc__law_many)) v_nil rfl) rfl E.b_range rfl) (fun C hC hW => (v_tgn nodupN rfl (.inl rfl) (.inr rfl))) (fun C hC hW => (v_scons (v_asg nodupN rfl (.inl rfl) (.inr rfl) (x_mod (Vw.v_var (i := 5) rfl (.inl rfl) nd__law_k nc__law_k) (v_blt call_len (bLen_ok _) rfl E.b_len bb_len (v_cons (Vw.v_var (i := 6) rfl (.inl rfl) nd__law_left nc__law_left) v_nil rfl) rfl nn_len nd_len)) rfl) (v_scons (Vw.v_if (xt_ge hu (Vw.v_var (i := 5) rfl (.inl rfl) nd__law_k nc__law_k) (Vw.v_var (i := 1) rfl (.inl rfl) nd__law_turn nc__law_turn) rfl) (v_scons (v_expr (v_mt F.plainAttrs_list F.slot_list_append F.type_list_append mt_append bAppend_ok isL_ok (Vw.v_var (i := 4) rfl (.inl rfl) nd__law_found nc__law_found) (v_cons (x_mod (v_ix hu (Vw.v_var (i := 6) rfl (.inl rfl) nd__law_left nc__law_left) (Vw.v_var (i := 9) rfl (.inl rfl) nd__law_at nc__law_at) rfl) (v_const pe_int fun _ => rfl)) v_nil rfl) rfl rfl (by decide) rfl) rfl) v_snil) v_snil) (v_scons (v_set hu (Vw.v_var (i := 6) rfl (.inl rfl) nd__law_left nc__law_left) (Vw.v_var (i := 9) rfl (.inl rfl) nd__law_at nc__law_at) (x_fdiv (v_ix hu (Vw.v_var (i := 6) rfl (.inl rfl) nd__law_left nc__law_left) (Vw.v_var (i := 9) rfl (.inl rfl) nd__law_at nc__law_at) rfl) (v_const pe_int fun _ => rfl)) rfl rfl) v_snil)))) rfl) (v_scons (v_ret (Vw.v_var (i := 4) rfl (.inl rfl) nd__law_found nc__law_found)) v_snil))) v_snil) (v_scons (x_forW hC PassesOwn.never rfl (v_rng1 (v_cons (Vw.v_var (i := 2) rfl (.inl rfl) nd__law_many nc__law_many) v_nil rfl) rfl E.b_range rfl) (fun C hC hW => (v_tgn nodupN rfl (.inl rfl) (.inr rfl))) (fun C hC hW => (v_scons (v_asg nodupN rfl (.inl rfl) (.inr rfl) (x_add (x_mul (x_mul (x_add (Vw.v_var (i := 5) rfl (.inl rfl) nd__law_k nc__law_k) (Vw.v_var (i := 1) rfl (.inl rfl) nd__law_turn nc__law_turn)) (x_add (Vw.v_var (i := 5) rfl (.inl rfl) nd__law_k nc__law_k) (Vw.v_var (i := 1) rfl (.inl rfl) nd__law_turn nc__law_turn))) (v_const pe_int fun _ => rfl)) (v_const pe_int fun _ => rfl)) rfl) (v_scons (v_asg nodupN rfl (.inl rfl) (.inr rfl) (x_mod (x_mul (x_add (x_mod (v_ix hu (Vw.v_var (i := 3) rfl (.inl rfl) nd__law_cells nc__law_cells) (x_mod (Vw.v_var (i := 5) rfl (.inl rfl) nd__law_k nc__law_k) (v_blt call_len (bLen_ok _) rfl E.b_len bb_len (v_cons (Vw.v_var (i := 3) rfl (.inl rfl) nd__law_cells nc__law_cells) v_nil rfl) rfl nn_len nd_len)) rfl) (v_const pe_int fun _ => rfl)) (Vw.v_var (i := 7) rfl (.inl rfl) nd__law_place nc__law_place)) (v_const pe_int fun _ => rfl)) (v_const pe_int fun _ => rfl)) rfl) (v_scons (v_asg nodupN rfl (.inl rfl) (.inr rfl) (x_mod (x_add (x_mul (Vw.v_var (i := 8) rfl (.inl rfl) nd__law_number nc__law_number) (Vw.v_var (i := 8) rfl (.inl rfl) nd__law_number nc__law_number)) (x_mul (v_const pe_int fun _ => rfl) (Vw.v_var (i := 5) rfl (.inl rfl) nd__law_k nc__law_k))) (v_const pe_int fun _ => rfl)) rfl) (v_scons (v_expr (v_mt F.plainAttrs_list F.slot_list_append F.type_list_append mt_append bAppend_ok isL_ok (Vw.v_var (i := 4) rfl (.inl rfl) nd__law_found nc__law_found) (v_cons (x_mod (x_mul (Vw.v_var (i := 8) rfl (.inl rfl) nd__law_number nc__law_number) (Vw.v_var (i := 8) rfl (.inl rfl) nd__law_number nc__law_number)) (v_const pe_int fun _ => rfl)) v_nil rfl) rfl rfl (by decide) rfl) rfl) v_snil))))) rfl) (v_scons (v_ret (Vw.v_var (i := 4) rfl (.inl rfl) nd__law_found nc__law_found)) v_snil)))))
theorem sc__law_pop : FnScope ["_law_draws_here"] ["_law_draws_here"] (defScope (top 15)) := ⟨rfl, rfl, rfl, by decide +kernel, rfl, by decide +kernel, by decide +kernel⟩
theorem ok__law_pop (E : Fx P w K mg base cA) : FnOk P w K mg base CX0 2 E.f__law_pop E.d__law_pop ["_law_draws_here"] (spV cA 1 g__law_pop) := by
  refine x_fn (N := ["_law_draws_here"]) (k := 1) E.F__law_pop sc__law_pop rfl rfl fun cdv A outer s H E0 C hr hC => ?_
  have hu := hr.units
  have nodupN := sc__law_pop.nd
  unfold b__law_pop
  exact (v_scons (Vw.v_if (xt_eq hu (Vw.v_var (i := 0) rfl (.inl rfl) nd__law_draws_here nc__law_draws_here) (v_lst' v_nil) rfl) (v_scons (v_ret (v_const pe_int fun _ => rfl)) v_snil) v_snil) (v_scons (v_ret (v_mt0 F.plainAttrs_list F.slot_list_pop F.type_list_pop mt_pop bPop_ok isL_ok (Vw.v_var (i := 0) rfl (.inl rfl) nd__law_draws_here nc__law_draws_here) rfl rfl)) v_snil))
theorem sc__law_postings : FnScope ["_law_script", "_law_draws_here", "_law_found", "_law_make", "_law_cells", "_law_k", "_law_one", "_law_far", "_law_places", "_law_place", "_law_j", "_law_two"] ["_law_script", "_law_draws_here"] (defScope (top 20)) := ⟨rfl, rfl, rfl, by decide +kernel, rfl, by decide +kernel, by decide +kernel⟩
theorem ok__law_postings (E : Fx P w K mg base cA) : FnOk P w K mg base CX0 4 E.f__law_postings E.d__law_postings ["_law_script", "_law_draws_here"] (spV cA 2 g__law_postings) := by
  have ok__law_pop := ok__law_pop E
  refine x_fn (N := ["_law_script", "_law_draws_here", "_law_found", "_law_make", "_law_cells", "_law_k", "_law_one", "_law_far", "_law_places", "_law_place", "_law_j", "_law_two"]) (k := 3) E.F__law_postings sc__law_postings rfl rfl fun cdv A outer s H E0 C hr hC => ?_
  have hu := hr.units
  have nodupN := sc__law_postings.nd
  unfold b__law_postings
  exact (v_scons (v_asg nodupN rfl (.inl rfl) (.inr rfl) (v_lst' v_nil) rfl) (v_scons (v_asg nodupN rfl (.inl rfl) (.inr rfl) (v_neg' (v_const pe_int fun _ => rfl)) rfl) (v_scons (v_asg nodupN rfl (.inl rfl) (.inr rfl) (x_add (v_sl (Vw.v_var (i := 0) rfl (.inl rfl) nd__law_script nc__law_script) v_pno (v_pex (v_const pe_int fun _ => rfl))) (v_lst' (v_cons (v_const pe_int fun _ => rfl) v_nil rfl))) rfl) (v_scons (x_forW hC PassesOwn.never rfl (v_rng1 (v_cons (x_mod (x_call hC ok__law_pop (hr.mono (by omega)) rfl E.g__law_pop E.F__law_pop.kp E.B__law_pop pass0 rfl (v_cons (Vw.v_var (i := 1) rfl (.inl rfl) nd__law_draws_here nc__law_draws_here) v_nil rfl) nd__law_pop rfl) (v_const pe_int fun _ => rfl)) v_nil rfl) rfl E.b_range rfl) (fun C hC hW => (v_tgn nodupN rfl (.inl rfl) (.inr rfl))) (fun C hC hW => (v_scons (v_asg nodupN rfl (.inl rfl) (.inr rfl) (x_call hC ok__law_pop (hr.mono (by omega)) rfl E.g__law_pop E.F__law_pop.kp E.B__law_pop pass0 rfl (v_cons (Vw.v_var (i := 1) rfl (.inl rfl) nd__law_draws_here nc__law_draws_here) v_nil rfl) nd__law_pop rfl) rfl) (v_scons (v_asg nodupN rfl (.inl rfl) (.inr rfl) (x_mod (v_ix hu (Vw.v_var (i := 4) rfl (.inl rfl) nd__law_cells nc__law_cells) (x_mod (x_fdiv (Vw.v_var (i := 6) rfl (.inl rfl) nd__law_one nc__law_one) (v_const pe_int fun _ => rfl)) (v_blt call_len (bLen_ok _) rfl E.b_len bb_len (v_cons (Vw.v_var (i := 4) rfl (.inl rfl) nd__law_cells nc__law_cells) v_nil rfl) rfl nn_len nd_len)) rfl) (x_pow (v_const pe_int fun _ => rfl) (v_const pe_int fun _ => rfl))) rfl) (v_scons (v_asg nodupN rfl (.inl rfl) (.inr rfl) (x_add (x_add (Vw.v_var (i := 3) rfl (.inl rfl) nd__law_make nc__law_make) (v_const pe_int fun _ => rfl)) (v_ix hu (v_lst' (v_cons (v_const pe_int fun _ => rfl) (v_cons (x_mod (x_fdiv (Vw.v_var (i := 6) rfl (.inl rfl) nd__law_one nc__law_one) (v_const pe_int fun _ => rfl)) (v_const pe_int fun _ => rfl)) (v_cons (x_mod (x_fdiv (Vw.v_var (i := 6) rfl (.inl rfl) nd__law_one nc__law_one) (v_const pe_int fun _ => rfl)) (v_const pe_int fun _ => rfl)) (v_cons (Vw.v_var (i := 7) rfl (.inl rfl) nd__law_far nc__law_far) v_nil rfl) rfl) rfl) rfl)) (x_mod (Vw.v_var (i := 6) rfl (.inl rfl) nd__law_one nc__law_one) (v_const pe_int fun _ => rfl)) rfl)) rfl) (v_scons (v_asg nodupN rfl (.inl rfl) (.inr rfl) (v_lst' v_nil) rfl) (v_scons (v_asg nodupN rfl (.inl rfl) (.inr rfl) (v_neg' (v_const pe_int fun _ => rfl)) rfl) (v_scons (x_forW hC PassesOwn.never rfl (v_rng1 (v_cons (x_add (v_const pe_int fun _ => rfl) (x_mod (x_call hC ok__law_pop (hr.mono (by omega)) rfl E.g__law_pop E.F__law_pop.kp E.B__law_pop pass0 rfl (v_cons (Vw.v_var (i := 1) rfl (.inl rfl) nd__law_draws_here nc__law_draws_here) v_nil rfl) nd__law_pop rfl) (v_const pe_int fun _ => rfl))) v_nil rfl) rfl E.b_range rfl) (fun C hC hW => (v_tgn nodupN rfl (.inl rfl) (.inr rfl))) (fun C hC hW => (v_scons (v_asg nodupN rfl (.inl rfl) (.inr rfl) (x_call hC ok__law_pop (hr.mono (by omega)) rfl E.g__law_pop E.F__law_pop.kp E.B__law_pop pass0 rfl (v_cons (Vw.v_var (i := 1) rfl (.inl rfl) nd__law_draws_here nc__law_draws_here) v_nil rfl) nd__law_pop rfl) rfl) (v_scons (v_asg nodupN rfl (.inl rfl) (.inr rfl) (x_add (x_add (Vw.v_var (i := 9) rfl (.inl rfl) nd__law_place nc__law_place) (v_const pe_int fun _ => rfl)) (v_ix hu (v_lst' (v_cons (v_const pe_int fun _ => rfl) (v_cons (x_mod (x_fdiv (Vw.v_var (i := 11) rfl (.inl rfl) nd__law_two nc__law_two) (v_const pe_int fun _ => rfl)) (v_const pe_int fun _ => rfl)) (v_cons (x_mod (x_fdiv (Vw.v_var (i := 11) rfl (.inl rfl) nd__law_two nc__law_two) (v_const pe_int fun _ => rfl)) (v_const pe_int fun _ => rfl)) v_nil rfl) rfl) rfl)) (x_mod (Vw.v_var (i := 11) rfl (.inl rfl) nd__law_two nc__law_two) (v_const pe_int fun _ => rfl)) rfl)) rfl) (v_scons (v_expr (v_mt F.plainAttrs_list F.slot_list_append F.type_list_append mt_append bAppend_ok isL_ok (Vw.v_var (i := 8) rfl (.inl rfl) nd__law_places nc__law_places) (v_cons (Vw.v_var (i := 9) rfl (.inl rfl) nd__law_place nc__law_place) v_nil rfl) rfl rfl (by decide) rfl) rfl) v_snil)))) rfl) (v_scons (v_expr (v_mt F.plainAttrs_list F.slot_list_append F.type_list_append mt_append bAppend_ok isL_ok (Vw.v_var (i := 2) rfl (.inl rfl) nd__law_found nc__law_found) (v_cons (v_tup' (v_cons (Vw.v_var (i := 3) rfl (.inl rfl) nd__law_make nc__law_make) (v_cons (Vw.v_var (i := 8) rfl (.inl rfl) nd__law_places nc__law_places) v_nil rfl) rfl)) v_nil rfl) rfl rfl (by decide) rfl) rfl) v_snil)))))))) rfl) (v_scons (v_ret (Vw.v_var (i := 2) rfl (.inl rfl) nd__law_found nc__law_found)) v_snil)))))
theorem sc__law_signs : FnScope [] [] (defScope (top 17)) := ⟨rfl, rfl, rfl, by decide +kernel, rfl, by decide +kernel, by decide +kernel⟩
theorem ok__law_signs (E : Fx P w K mg base cA) : FnOk P w K mg base CX0 2 E.f__law_signs E.d__law_signs [] (spV cA 0 g__law_signs) := by
  refine x_fn (N := []) (k := 1) E.F__law_signs sc__law_signs rfl rfl fun cdv A outer s H E0 C hr hC => ?_
  have hu := hr.units
  have nodupN := sc__law_signs.nd
  unfold b__law_signs
  exact (v_scons (v_ret v_str) v_snil)
theorem sc__law_text : FnScope ["_law_draws_here", "_law_most", "_law_number", "_law_found", "_law_k", "_law_one", "_law_some"] ["_law_draws_here", "_law_most"] (defScope (top 18)) := ⟨rfl, rfl, rfl, by decide +kernel, rfl, by decide +kernel, by decide +kernel⟩
theorem ok__law_text (E : Fx P w K mg base cA) : FnOk P w K mg base CX0 4 E.f__law_text E.d__law_text ["_law_draws_here", "_law_most"] (spV cA 2 g__law_text) := by
  have ok__law_pop := ok__law_pop E
  have ok__law_signs := ok__law_signs E
  refine x_fn (N := ["_law_draws_here", "_law_most", "_law_number", "_law_found", "_law_k", "_law_one", "_law_some"]) (k := 3) E.F__law_text sc__law_text rfl rfl fun cdv A outer s H E0 C hr hC => ?_
  have hu := hr.units
  have nodupN := sc__law_text.nd
  unfold b__law_text
  exact (v_scons (v_asg nodupN rfl (.inl rfl) (.inr rfl) (x_call hC ok__law_pop (hr.mono (by omega)) rfl E.g__law_pop E.F__law_pop.kp E.B__law_pop pass0 rfl (v_cons (Vw.v_var (i := 0) rfl (.inl rfl) nd__law_draws_here nc__law_draws_here) v_nil rfl) nd__law_pop rfl) rfl) (v_scons (v_asg nodupN rfl (.inl rfl) (.inr rfl) v_str rfl) (v_scons (x_forW hC PassesOwn.never rfl (v_rng1 (v_cons (x_mod (Vw.v_var (i := 2) rfl (.inl rfl) nd__law_number nc__law_number) (x_add (Vw.v_var (i := 1) rfl (.inl rfl) nd__law_most nc__law_most) (v_const pe_int fun _ => rfl))) v_nil rfl) rfl E.b_range rfl) (fun C hC hW => (v_tgn nodupN rfl (.inl rfl) (.inr rfl))) (fun C hC hW => (v_scons (v_asg nodupN rfl (.inl rfl) (.inr rfl) (x_call hC ok__law_pop (hr.mono (by omega)) rfl E.g__law_pop E.F__law_pop.kp E.B__law_pop pass0 rfl (v_cons (Vw.v_var (i := 0) rfl (.inl rfl) nd__law_draws_here nc__law_draws_here) v_nil rfl) nd__law_pop rfl) rfl) (v_scons (v_asg nodupN rfl (.inl rfl) (.inr rfl) (v_ix hu (v_lst' (v_cons (x_call0 hC ok__law_signs (hr.mono (by omega)) rfl E.g__law_signs E.F__law_signs.kp E.B__law_signs pass0 rfl nd__law_signs) (v_cons v_str (v_cons v_str v_nil rfl) rfl) rfl)) (x_mod (Vw.v_var (i := 5) rfl (.inl rfl) nd__law_one nc__law_one) (v_const pe_int fun _ => rfl)) rfl) rfl) (v_scons (v_asg nodupN rfl (.inl rfl) (.inr rfl) (x_add (Vw.v_var (i := 3) rfl (.inl rfl) nd__law_found nc__law_found) (v_ix hu (Vw.v_var (i := 6) rfl (.inl rfl) nd__law_some nc__law_some) (x_mod (x_fdiv (Vw.v_var (i := 5) rfl (.inl rfl) nd__law_one nc__law_one) (v_const pe_int fun _ => rfl)) (v_blt call_len (bLen_ok _) rfl E.b_len bb_len (v_cons (Vw.v_var (i := 6) rfl (.inl rfl) nd__law_some nc__law_some) v_nil rfl) rfl nn_len nd_len)) rfl)) rfl) v_snil)))) rfl) (v_scons (v_ret (Vw.v_var (i := 3) rfl (.inl rfl) nd__law_found nc__law_found)) v_snil))))
theorem sc__law_number_bytes : FnScope ["_law_number", "_law_found"] ["_law_number"] (defScope (top 19)) := ⟨rfl, rfl, rfl, by decide +kernel, rfl, by decide +kernel, by decide +kernel⟩
theorem ok__law_number_bytes (E : Fx P w K mg base cA) : FnOk P w K mg base CX0 2 E.f__law_number_bytes E.d__law_number_bytes ["_law_number"] (spV cA 1 g__law_number_bytes) := by
  refine x_fn (N := ["_law_number", "_law_found"]) (k := 1) E.F__law_number_bytes sc__law_number_bytes rfl rfl fun cdv A outer s H E0 C hr hC => ?_
  have hu := hr.units
  have nodupN := sc__law_number_bytes.nd
  unfold b__law_number_bytes
  exact (v_scons (v_asg nodupN rfl (.inl rfl) (.inr rfl) (v_lst' v_nil) rfl) (v_scons (v_wh PassesOwn.never (xt_gt hu (Vw.v_var (i := 0) rfl (.inl rfl) nd__law_number nc__law_number) (v_const pe_int fun _ => rfl) rfl) (v_scons (v_expr (v_mt F.plainAttrs_list F.slot_list_append F.type_list_append mt_append bAppend_ok isL_ok (Vw.v_var (i := 1) rfl (.inl rfl) nd__law_found nc__law_found) (v_cons (x_add (v_const pe_int fun _ => rfl) (x_mod (Vw.v_var (i := 0) rfl (.inl rfl) nd__law_number nc__law_number) (v_const pe_int fun _ => rfl))) v_nil rfl) rfl rfl (by decide) rfl) rfl) (v_scons (v_asg nodupN rfl (.inl rfl) (.inr rfl) (x_fdiv (Vw.v_var (i := 0) rfl (.inl rfl) nd__law_number nc__law_number) (v_const pe_int fun _ => rfl)) rfl) v_snil))) (v_scons (v_expr (v_mt F.plainAttrs_list F.slot_list_append F.type_list_append mt_append bAppend_ok isL_ok (Vw.v_var (i := 1) rfl (.inl rfl) nd__law_found nc__law_found) (v_cons (Vw.v_var (i := 0) rfl (.inl rfl) nd__law_number nc__law_number) v_nil rfl) rfl rfl (by decide) rfl) rfl) (v_scons (v_ret (Vw.v_var (i := 1) rfl (.inl rfl) nd__law_found nc__law_found)) v_snil))))
theorem sc__law_text_bytes : FnScope ["_law_text_here", "_law_found", "_law_sign", "_law_at"] ["_law_text_here"] (defScope (top 22)) := ⟨rfl, rfl, rfl, by decide +kernel, rfl, by decide +kernel, by decide +kernel⟩
theorem ok__law_text_bytes (E : Fx P w K mg base cA) : FnOk P w K mg base CX0 4 E.f__law_text_bytes E.d__law_text_bytes ["_law_text_here"] (spV cA 1 g__law_text_bytes) := by
  have ok__law_number_bytes := ok__law_number_bytes E
  have ok__law_signs := ok__law_signs E
  refine x_fn (N := ["_law_text_here", "_law_found", "_law_sign", "_law_at"]) (k := 3) E.F__law_text_bytes sc__law_text_bytes rfl rfl fun cdv A outer s H E0 C hr hC => ?_
  have hu := hr.units
  have nodupN := sc__law_text_bytes.nd
  unfold b__law_text_bytes
  exact (v_scons (v_asg nodupN rfl (.inl rfl) (.inr rfl) (x_call hC ok__law_number_bytes (hr.mono (by omega)) rfl E.g__law_number_bytes E.F__law_number_bytes.kp E.B__law_number_bytes pass0 rfl (v_cons (v_blt call_len (bLen_ok _) rfl E.b_len bb_len (v_cons (Vw.v_var (i := 0) rfl (.inl rfl) nd__law_text_here nc__law_text_here) v_nil rfl) rfl nn_len nd_len) v_nil rfl) nd__law_number_bytes rfl) rfl) (v_scons (x_forW hC PassesOwn.never rfl (v_it (Vw.v_var (i := 0) rfl (.inl rfl) nd__law_text_here nc__law_text_here)) (fun C hC hW => (v_tgn nodupN rfl (.inl rfl) (.inr rfl))) (fun C hC hW => (v_scons (v_asg nodupN rfl (.inl rfl) (.inr rfl) (v_mt F.plainAttrs_str F.slot_str_index F.type_str_index mt_sindex bIndex_ok isS_ok (x_call0 hC ok__law_signs (hr.mono (by omega)) rfl E.g__law_signs E.F__law_signs.kp E.B__law_signs pass0 rfl nd__law_signs) (v_cons (Vw.v_var (i := 2) rfl (.inl rfl) nd__law_sign nc__law_sign) v_nil rfl) rfl rfl (by decide) rfl) rfl) (v_scons (v_expr (v_mt F.plainAttrs_list F.slot_list_append F.type_list_append mt_append bAppend_ok isL_ok (Vw.v_var (i := 1) rfl (.inl rfl) nd__law_found nc__law_found) (v_cons (x_add (x_add (v_const pe_int fun _ => rfl) (Vw.v_var (i := 3) rfl (.inl rfl) nd__law_at nc__law_at)) (v_bltT call_int1 bInt_ok rfl E.b_int bb_int (v_cons (x_gt hu (Vw.v_var (i := 3) rfl (.inl rfl) nd__law_at nc__law_at) (v_const pe_int fun _ => rfl) rfl) v_nil rfl) rfl nn_int nd_int)) v_nil rfl) rfl rfl (by decide) rfl) rfl) v_snil))) rfl) (v_scons (v_ret (Vw.v_var (i := 1) rfl (.inl rfl) nd__law_found nc__law_found)) v_snil)))
theorem sc__law_postings_bytes : FnScope ["_law_postings_here", "_law_found", "_law_ahead", "_law_make", "_law_places", "_law_before", "_law_place"] ["_law_postings_here"] (defScope (top 21)) := ⟨rfl, rfl, rfl, by decide +kernel, rfl, by decide +kernel, by decide +kernel⟩
theorem ok__law_postings_bytes (E : Fx P w K mg base cA) : FnOk P w K mg base CX0 4 E.f__law_postings_bytes E.d__law_postings_bytes ["_law_postings_here"] (spV cA 1 g__law_postings_bytes) := by
  have ok__law_number_bytes := ok__law_number_bytes E
  refine x_fn (N := ["_law_postings_here", "_law_found", "_law_ahead", "_law_make", "_law_places", "_law_before", "_law_place"]) (k := 3) E.F__law_postings_bytes sc__law_postings_bytes rfl rfl fun cdv A outer s H E0 C hr hC => ?_
  have hu := hr.units
  have nodupN := sc__law_postings_bytes.nd
  unfold b__law_postings_bytes
  exact (v_scons (v_asg nodupN rfl (.inl rfl) (.inr rfl) (x_call hC ok__law_number_bytes (hr.mono (by omega)) rfl E.g__law_number_bytes E.F__law_number_bytes.kp E.B__law_number_bytes pass0 rfl (v_cons (v_blt call_len (bLen_ok _) rfl E.b_len bb_len (v_cons (Vw.v_var (i := 0) rfl (.inl rfl) nd__law_postings_here nc__law_postings_here) v_nil rfl) rfl nn_len nd_len) v_nil rfl) nd__law_number_bytes rfl) rfl) (v_scons (v_asg nodupN rfl (.inl rfl) (.inr rfl) (v_const pe_int fun _ => rfl) rfl) (v_scons (x_forW hC PassesOwn.never rfl (v_it (Vw.v_var (i := 0) rfl (.inl rfl) nd__law_postings_here nc__law_postings_here)) (fun C hC hW => (v_tgtup rfl (v_tgcons (v_tgn nodupN rfl (.inl rfl) (.inr rfl)) (v_tgcons (v_tgn nodupN rfl (.inl rfl) (.inr rfl)) v_tgnil rfl) rfl) rfl rfl)) (fun C hC hW => (v_scons (v_asg nodupN rfl (.inl rfl) (.inr rfl) (x_add (x_add (Vw.v_var (i := 1) rfl (.inl rfl) nd__law_found nc__law_found) (x_call hC ok__law_number_bytes (hr.mono (by omega)) rfl E.g__law_number_bytes E.F__law_number_bytes.kp E.B__law_number_bytes pass0 rfl (v_cons (x_sub (Vw.v_var (i := 3) rfl (.inl rfl) nd__law_make nc__law_make) (Vw.v_var (i := 2) rfl (.inl rfl) nd__law_ahead nc__law_ahead)) v_nil rfl) nd__law_number_bytes rfl)) (x_call hC ok__law_number_bytes (hr.mono (by omega)) rfl E.g__law_number_bytes E.F__law_number_bytes.kp E.B__law_number_bytes pass0 rfl (v_cons (v_blt call_len (bLen_ok _) rfl E.b_len bb_len (v_cons (Vw.v_var (i := 4) rfl (.inl rfl) nd__law_places nc__law_places) v_nil rfl) rfl nn_len nd_len) v_nil rfl) nd__law_number_bytes rfl)) rfl) (v_scons (v_asg nodupN rfl (.inl rfl) (.inr rfl) (Vw.v_var (i := 3) rfl (.inl rfl) nd__law_make nc__law_make) rfl) (v_scons (v_asg nodupN rfl (.inl rfl) (.inr rfl) (v_const pe_int fun _ => rfl) rfl) (v_scons (x_forW hC PassesOwn.never rfl (v_it (Vw.v_var (i := 4) rfl (.inl rfl) nd__law_places nc__law_places)) (fun C hC hW => (v_tgn nodupN rfl (.inl rfl) (.inr rfl))) (fun C hC hW => (v_scons (v_asg nodupN rfl (.inl rfl) (.inr rfl) (x_add (Vw.v_var (i := 1) rfl (.inl rfl) nd__law_found nc__law_found) (x_call hC ok__law_number_bytes (hr.mono (by omega)) rfl E.g__law_number_bytes E.F__law_number_bytes.kp E.B__law_number_bytes pass0 rfl (v_cons (x_sub (Vw.v_var (i := 6) rfl (.inl rfl) nd__law_place nc__law_place) (Vw.v_var (i := 5) rfl (.inl rfl) nd__law_before nc__law_before)) v_nil rfl) nd__law_number_bytes rfl)) rfl) (v_scons (v_asg nodupN rfl (.inl rfl) (.inr rfl) (Vw.v_var (i := 6) rfl (.inl rfl) nd__law_place nc__law_place) rfl) v_snil))) rfl) v_snil))))) rfl) (v_scons (v_ret (Vw.v_var (i := 1) rfl (.inl rfl) nd__law_found nc__law_found)) v_snil))))
theorem sc_number_bytes : FnScope ["number", "found"] ["number"] (defScope (top 6)) := ⟨rfl, rfl, rfl, by decide +kernel, rfl, by decide +kernel, by decide +kernel⟩
theorem ok_number_bytes (E : Fx P w K mg base cA) : FnOk P w K mg base CX0 2 E.f_number_bytes E.d_number_bytes ["number"] (spV cA 1 g_number_bytes) := by
  refine x_fn (N := ["number", "found"]) (k := 1) E.F_number_bytes sc_number_bytes rfl rfl fun cdv A outer s H E0 C hr hC => ?_
  have hu := hr.units
  have nodupN := sc_number_bytes.nd
  unfold b_number_bytes
  exact (v_scons (v_asg nodupN rfl (.inl rfl) (.inr rfl) (v_lst' v_nil) rfl) (v_scons (v_wh PassesOwn.never (xt_ge hu (Vw.v_var (i := 0) rfl (.inl rfl) nd_number nc_number) (v_const pe_int fun _ => rfl) rfl) (v_scons (v_expr (v_mt F.plainAttrs_list F.slot_list_append F.type_list_append mt_append bAppend_ok isL_ok (Vw.v_var (i := 1) rfl (.inl rfl) nd_found nc_found) (v_cons (x_add (x_mod (Vw.v_var (i := 0) rfl (.inl rfl) nd_number nc_number) (v_const pe_int fun _ => rfl)) (v_const pe_int fun _ => rfl)) v_nil rfl) rfl rfl (by decide) rfl) rfl) (v_scons (v_asg nodupN rfl (.inl rfl) (.inr rfl) (x_fdiv (Vw.v_var (i := 0) rfl (.inl rfl) nd_number nc_number) (v_const pe_int fun _ => rfl)) rfl) v_snil))) (v_scons (v_ret (x_add (Vw.v_var (i := 1) rfl (.inl rfl) nd_found nc_found) (v_lst' (v_cons (Vw.v_var (i := 0) rfl (.inl rfl) nd_number nc_number) v_nil rfl)))) v_snil)))
theorem sc_text_bytes : FnScope ["text", "sign"] ["text"] (defScope (top 7)) := ⟨rfl, rfl, rfl, by decide +kernel, rfl, by decide +kernel, by decide +kernel⟩
theorem ok_text_bytes (E : Fx P w K mg base cA) : FnOk P w K mg base CX0 4 E.f_text_bytes E.d_text_bytes ["text"] (spV cA 1 g_text_bytes) := by
  have ok_number_bytes := ok_number_bytes E
  refine x_fn (N := ["text", "sign"]) (k := 3) E.F_text_bytes sc_text_bytes rfl rfl fun cdv A outer s H E0 C hr hC => ?_
  have hu := hr.units
  have nodupN := sc_text_bytes.nd
  unfold b_text_bytes
  exact (v_scons (v_ret (x_add (x_call hC ok_number_bytes (hr.mono (by omega)) rfl E.g_number_bytes E.F_number_bytes.kp E.B_number_bytes pass0 rfl (v_cons (v_blt call_len (bLen_ok _) rfl E.b_len bb_len (v_cons (Vw.v_var (i := 0) rfl (.inl rfl) nd_text nc_text) v_nil rfl) rfl nn_len nd_len) v_nil rfl) nd_number_bytes rfl) (x_lc hC [("sign", 1)] rfl rfl nodupN (v_it (Vw.v_var (i := 0) rfl (.inl rfl) nd_text nc_text)) (by kernel_rfl) (fun s H D cl fp C hC => ⟨(v_tgn nodupN rfl (.inl rfl) (.inr rfl)), v_tnil, (v_blt call_ord bOrd_ok rfl E.b_ord bb_ord (v_cons (Vw.v_var (i := 1) rfl (.inl rfl) nd_sign nc_sign) v_nil rfl) rfl nn_ord nd_ord)⟩) rfl (by decide)))) v_snil)
theorem sc_places_bytes : FnScope ["places", "found", "last", "place"] ["places"] (defScope (top 8)) := ⟨rfl, rfl, rfl, by decide +kernel, rfl, by decide +kernel, by decide +kernel⟩
theorem ok_places_bytes (E : Fx P w K mg base cA) : FnOk P w K mg base CX0 4 E.f_places_bytes E.d_places_bytes ["places"] (spV cA 1 g_places_bytes) := by
  have ok_number_bytes := ok_number_bytes E
  refine x_fn (N := ["places", "found", "last", "place"]) (k := 3) E.F_places_bytes sc_places_bytes rfl rfl fun cdv A outer s H E0 C hr hC => ?_
  have hu := hr.units
  have nodupN := sc_places_bytes.nd
  unfold b_places_bytes
  exact (v_scons (v_asg nodupN rfl (.inl rfl) (.inr rfl) (v_lst' v_nil) rfl) (v_scons (v_asg nodupN rfl (.inl rfl) (.inr rfl) (v_const pe_int fun _ => rfl) rfl) (v_scons (x_forW hC PassesOwn.never rfl (v_it (Vw.v_var (i := 0) rfl (.inl rfl) nd_places nc_places)) (fun C hC hW => (v_tgn nodupN rfl (.inl rfl) (.inr rfl))) (fun C hC hW => (v_scons (v_expr (x_ext (Vw.v_var (i := 1) rfl (.inl rfl) nd_found nc_found) (x_call hC ok_number_bytes (hr.mono (by omega)) rfl E.g_number_bytes E.F_number_bytes.kp E.B_number_bytes pass0 rfl (v_cons (x_sub (Vw.v_var (i := 3) rfl (.inl rfl) nd_place nc_place) (Vw.v_var (i := 2) rfl (.inl rfl) nd_last nc_last)) v_nil rfl) nd_number_bytes rfl) rfl rfl (by decide) rfl) rfl) (v_scons (v_asg nodupN rfl (.inl rfl) (.inr rfl) (Vw.v_var (i := 3) rfl (.inl rfl) nd_place nc_place) rfl) v_snil))) rfl) (v_scons (v_ret (Vw.v_var (i := 1) rfl (.inl rfl) nd_found nc_found)) v_snil))))
theorem sc_postings_bytes : FnScope ["postings", "found", "last", "make", "places"] ["postings"] (defScope (top 9)) := ⟨rfl, rfl, rfl, by decide +kernel, rfl, by decide +kernel, by decide +kernel⟩
theorem ok_postings_bytes (E : Fx P w K mg base cA) : FnOk P w K mg base CX0 6 E.f_postings_bytes E.d_postings_bytes ["postings"] (spV cA 1 g_postings_bytes) := by
  have ok_number_bytes := ok_number_bytes E
  have ok_places_bytes := ok_places_bytes E
  refine x_fn (N := ["postings", "found", "last", "make", "places"]) (k := 5) E.F_postings_bytes sc_postings_bytes rfl rfl fun cdv A outer s H E0 C hr hC => ?_
  have hu := hr.units
  have nodupN := sc_postings_bytes.nd
  unfold b_postings_bytes
  exact (v_scons (v_asg nodupN rfl (.inl rfl) (.inr rfl) (x_call hC ok_number_bytes (hr.mono (by omega)) rfl E.g_number_bytes E.F_number_bytes.kp E.B_number_bytes pass0 rfl (v_cons (v_blt call_len (bLen_ok _) rfl E.b_len bb_len (v_cons (Vw.v_var (i := 0) rfl (.inl rfl) nd_postings nc_postings) v_nil rfl) rfl nn_len nd_len) v_nil rfl) nd_number_bytes rfl) rfl) (v_scons (v_asg nodupN rfl (.inl rfl) (.inr rfl) (v_const pe_int fun _ => rfl) rfl) (v_scons (x_forW hC PassesOwn.never rfl (v_it (Vw.v_var (i := 0) rfl (.inl rfl) nd_postings nc_postings)) (fun C hC hW => (v_tgtup rfl (v_tgcons (v_tgn nodupN rfl (.inl rfl) (.inr rfl)) (v_tgcons (v_tgn nodupN rfl (.inl rfl) (.inr rfl)) v_tgnil rfl) rfl) rfl rfl)) (fun C hC hW => (v_scons (v_expr (x_ext (Vw.v_var (i := 1) rfl (.inl rfl) nd_found nc_found) (x_add (x_add (x_call hC ok_number_bytes (hr.mono (by omega)) rfl E.g_number_bytes E.F_number_bytes.kp E.B_number_bytes pass0 rfl (v_cons (x_sub (Vw.v_var (i := 3) rfl (.inl rfl) nd_make nc_make) (Vw.v_var (i := 2) rfl (.inl rfl) nd_last nc_last)) v_nil rfl) nd_number_bytes rfl) (x_call hC ok_number_bytes (hr.mono (by omega)) rfl E.g_number_bytes E.F_number_bytes.kp E.B_number_bytes pass0 rfl (v_cons (v_blt call_len (bLen_ok _) rfl E.b_len bb_len (v_cons (Vw.v_var (i := 4) rfl (.inl rfl) nd_places nc_places) v_nil rfl) rfl nn_len nd_len) v_nil rfl) nd_number_bytes rfl)) (x_call hC ok_places_bytes (hr.mono (by omega)) rfl E.g_places_bytes E.F_places_bytes.kp E.B_places_bytes pass0 rfl (v_cons (Vw.v_var (i := 4) rfl (.inl rfl) nd_places nc_places) v_nil rfl) nd_places_bytes rfl)) rfl rfl (by decide) rfl) rfl) (v_scons (v_asg nodupN rfl (.inl rfl) (.inr rfl) (Vw.v_var (i := 3) rfl (.inl rfl) nd_make nc_make) rfl) v_snil))) rfl) (v_scons (v_ret (Vw.v_var (i := 1) rfl (.inl rfl) nd_found nc_found)) v_snil))))
theorem sc__law_alike : FnScope ["_law_found", "_law_due", "_law_k"] ["_law_found", "_law_due"] (defScope (top 16)) := ⟨rfl, rfl, rfl, by decide +kernel, rfl, by decide +kernel, by decide +kernel⟩
theorem ok__law_alike (E : Fx P w K mg base cA) : ∀ n, FnOk P w K mg base CX0 (2 + n) E.f__law_alike E.d__law_alike ["_law_found", "_law_due"] (spV cA 2 (g__law_alike n))
  | 0 => fn_none rfl
  | n + 1 => by
    have ok__law_alike := ok__law_alike E n
    refine x_fn (N := ["_law_found", "_law_due", "_law_k"]) (k := 2 + n) E.F__law_alike sc__law_alike rfl rfl fun cdv A outer s H E0 C hr hC => ?_
    have hu := hr.units
    have nodupN := sc__law_alike.nd
    generalize g__law_alike n = rec at *
    unfold b__law_alike
    exact (v_scons (Vw.v_if (v_tst (x_isi (Vw.v_var (i := 1) rfl (.inl rfl) nd__law_due nc__law_due) rfl E.b_isinstance rfl E.b_str bb_str (by decide) rfl nn_str nd_str) rfl) (v_scons (v_ret (Vw.v_andv (x_isi (Vw.v_var (i := 0) rfl (.inl rfl) nd__law_found nc__law_found) rfl E.b_isinstance rfl E.b_str bb_str (by decide) rfl nn_str nd_str) (Vw.v_and1v (x_eq hu (Vw.v_var (i := 0) rfl (.inl rfl) nd__law_found nc__law_found) (Vw.v_var (i := 1) rfl (.inl rfl) nd__law_due nc__law_due) rfl)))) v_snil) v_snil) (v_scons (Vw.v_if (v_tst (x_isi (Vw.v_var (i := 1) rfl (.inl rfl) nd__law_due nc__law_due) rfl E.b_isinstance rfl E.b_int bb_int (by decide) rfl nn_int nd_int) rfl) (v_scons (v_ret (Vw.v_andv (x_isi (Vw.v_var (i := 0) rfl (.inl rfl) nd__law_found nc__law_found) rfl E.b_isinstance rfl E.b_int bb_int (by decide) rfl nn_int nd_int) (Vw.v_andv (v_notv (x_isi (Vw.v_var (i := 0) rfl (.inl rfl) nd__law_found nc__law_found) rfl E.b_isinstance rfl E.b_bool bb_bool (by decide) rfl nn_bool nd_bool)) (Vw.v_and1v (x_eq hu (Vw.v_var (i := 0) rfl (.inl rfl) nd__law_found nc__law_found) (Vw.v_var (i := 1) rfl (.inl rfl) nd__law_due nc__law_due) rfl))))) v_snil) v_snil) (v_scons (Vw.v_if (v_tst (x_isi (Vw.v_var (i := 1) rfl (.inl rfl) nd__law_due nc__law_due) rfl E.b_isinstance rfl E.b_list bb_list (by decide) rfl nn_list nd_list) rfl) (v_scons (Vw.v_if (Vw.v_not (v_tst (x_isi (Vw.v_var (i := 0) rfl (.inl rfl) nd__law_found nc__law_found) rfl E.b_isinstance rfl E.b_list bb_list (by decide) rfl nn_list nd_list) rfl)) (v_scons (v_ret (v_const pe_bl fun _ => rfl)) v_snil) v_snil) v_snil) (v_scons (Vw.v_if (Vw.v_not (v_tst (x_isi (Vw.v_var (i := 0) rfl (.inl rfl) nd__law_found nc__law_found) rfl E.b_isinstance rfl E.b_tuple bb_tuple (by decide) rfl nn_tuple nd_tuple) rfl)) (v_scons (v_ret (v_const pe_bl fun _ => rfl)) v_snil) v_snil) v_snil)) (v_scons (Vw.v_if (xt_ne hu (v_blt call_len (bLen_ok _) rfl E.b_len bb_len (v_cons (Vw.v_var (i := 0) rfl (.inl rfl) nd__law_found nc__law_found) v_nil rfl) rfl nn_len nd_len) (v_blt call_len (bLen_ok _) rfl E.b_len bb_len (v_cons (Vw.v_var (i := 1) rfl (.inl rfl) nd__law_due nc__law_due) v_nil rfl) rfl nn_len nd_len) rfl) (v_scons (v_ret (v_const pe_bl fun _ => rfl)) v_snil) v_snil) (v_scons (x_forW hC PassesOwn.never rfl (v_rng1 (v_cons (v_blt call_len (bLen_ok _) rfl E.b_len bb_len (v_cons (Vw.v_var (i := 1) rfl (.inl rfl) nd__law_due nc__law_due) v_nil rfl) rfl nn_len nd_len) v_nil rfl) rfl E.b_range rfl) (fun C hC hW => (v_tgn nodupN rfl (.inl rfl) (.inr rfl))) (fun C hC hW => (v_scons (Vw.v_if (Vw.v_not (v_tst (x_look hC ok__law_alike (hr.mono (by omega)) rfl E.g__law_alike E.F__law_alike.kp E.B__law_alike pass0 rfl (v_cons (v_ix hu (Vw.v_var (i := 0) rfl (.inl rfl) nd__law_found nc__law_found) (Vw.v_var (i := 2) rfl (.inl rfl) nd__law_k nc__law_k) rfl) (v_cons (v_ix hu (Vw.v_var (i := 1) rfl (.inl rfl) nd__law_due nc__law_due) (Vw.v_var (i := 2) rfl (.inl rfl) nd__law_k nc__law_k) rfl) v_nil rfl) rfl) nd__law_alike rfl) rfl)) (v_scons (v_ret (v_const pe_bl fun _ => rfl)) v_snil) v_snil) v_snil)) rfl) (v_scons (v_ret (v_const pe_bl fun _ => rfl)) v_snil))))))
theorem sc_ByteReader____init__ : FnScope ["self", "row", "sign"] ["self", "row"] (defScope (mth 10 0)) := ⟨rfl, rfl, rfl, by decide +kernel, rfl, by decide +kernel, by decide +kernel⟩
theorem ok_ByteReader____init__ (E : Fx P w K mg base cA) : FnOk P w K mg base CX0 2 E.f_ByteReader____init__ E.d_ByteReader____init__ ["self", "row"] (spV cA 2 g_ByteReader____init__) := by
  refine x_fn (N := ["self", "row", "sign"]) (k := 1) E.F_ByteReader____init__ sc_ByteReader____init__ rfl rfl fun cdv A outer s H E0 C hr hC => ?_
  have hu := hr.units
  have nodupN := sc_ByteReader____init__.nd
  unfold b_ByteReader____init__
  exact (v_scons (x_sfld hC E.fld (Vw.v_var (i := 0) rfl (.inl rfl) nd_self nc_self) (Vw.v_var (i := 1) rfl (.inl rfl) nd_row nc_row) rfl) (v_scons (x_sfld hC E.fld (Vw.v_var (i := 0) rfl (.inl rfl) nd_self nc_self) (v_const pe_int fun _ => rfl) rfl) (v_scons (x_sfld hC E.fld (Vw.v_var (i := 0) rfl (.inl rfl) nd_self nc_self) (v_bltT (call_dictP rfl) (bDict_ok _) rfl E.b_dict bb_dict (v_cons (x_lc hC [("sign", 2)] rfl rfl nodupN (v_it (x_gstr rfl E.c_SIGNS nd_SIGNS)) (by kernel_rfl) (fun s H D cl fp C hC => ⟨(v_tgn nodupN rfl (.inl rfl) (.inr rfl)), v_tnil, (v_tup' (v_cons (v_blt call_ord bOrd_ok rfl E.b_ord bb_ord (v_cons (Vw.v_var (i := 2) rfl (.inl rfl) nd_sign nc_sign) v_nil rfl) rfl nn_ord nd_ord) (v_cons (Vw.v_var (i := 2) rfl (.inl rfl) nd_sign nc_sign) v_nil rfl) rfl))⟩) rfl (by decide)) v_nil rfl) rfl nn_dict nd_dict) rfl) v_snil)))
theorem sc_ByteReader__sure : FnScope ["self", "good"] ["self", "good"] (defScope (mth 10 1)) := ⟨rfl, rfl, rfl, by decide +kernel, rfl, by decide +kernel, by decide +kernel⟩
theorem ok_ByteReader__sure (E : Fx P w K mg base cA) : FnOk P w K mg base (L2.CX P w) 2 E.f_ByteReader__sure E.d_ByteReader__sure ["self", "good"] (spV cA 2 g_ByteReader__sure) := by
  refine x_fnX (N := ["self", "good"]) (k := 1) E.F_ByteReader__sure sc_ByteReader__sure rfl rfl fun cdv A outer s H E0 C hr hC tk => ?_
  have hu := hr.units
  have nodupN := sc_ByteReader__sure.nd
  unfold b_ByteReader__sure
  exact (v_scons (Vw.v_if (Vw.v_not (v_tst (Vw.v_var (i := 1) rfl (.inl rfl) nd_good nc_good) rfl)) (v_scons (x_raise hC rfl tk E.ex_NoBytes E.gc_NoBytes rfl nd_NoBytes) v_snil) v_snil) v_snil)
theorem sc_ByteReader__ended : FnScope ["self", "told"] ["self", "told"] (defScope (mth 10 11)) := ⟨rfl, rfl, rfl, by decide +kernel, rfl, by decide +kernel, by decide +kernel⟩
theorem ok_ByteReader__ended (E : Fx P w K mg base cA) : FnOk P w K mg base (L2.CX P w) 4 E.f_ByteReader__ended E.d_ByteReader__ended ["self", "told"] (spV cA 2 g_ByteReader__ended) := by
  have ok_ByteReader__sure := ok_ByteReader__sure E
  refine x_fnX (N := ["self", "told"]) (k := 3) E.F_ByteReader__ended sc_ByteReader__ended rfl rfl fun cdv A outer s H E0 C hr hC tk => ?_
  have hu := hr.units
  have nodupN := sc_ByteReader__ended.nd
  unfold b_ByteReader__ended
  exact (v_scons (v_expr (x_mth hC (mX tk) E.cl_ByteReader E.m_ByteReader__sure ok_ByteReader__sure (hr.mono (by omega)) E.B_ByteReader__sure rfl (Vw.v_var (i := 0) rfl (.inl rfl) nd_self nc_self) (v_cons (x_eq hu (x_fld hC E.fld (Vw.v_var (i := 0) rfl (.inl rfl) nd_self nc_self) rfl) (v_blt call_len (bLen_ok _) rfl E.b_len bb_len (v_cons (x_fld hC E.fld (Vw.v_var (i := 0) rfl (.inl rfl) nd_self nc_self) rfl) v_nil rfl) rfl nn_len nd_len) rfl) v_nil rfl) rfl rfl) rfl) (v_scons (v_ret (Vw.v_var (i := 1) rfl (.inl rfl) nd_told nc_told)) v_snil))
theorem sc_ByteReader__next_byte : FnScope ["self", "byte"] ["self"] (defScope (mth 10 2)) := ⟨rfl, rfl, rfl, by decide +kernel, rfl, by decide +kernel, by decide +kernel⟩
theorem ok_ByteReader__next_byte (E : Fx P w K mg base cA) : FnOk P w K mg base (L2.CX P w) 4 E.f_ByteReader__next_byte E.d_ByteReader__next_byte ["self"] (spV cA 1 g_ByteReader__next_byte) := by
  have ok_ByteReader__sure := ok_ByteReader__sure E
  refine x_fnX (N := ["self", "byte"]) (k := 3) E.F_ByteReader__next_byte sc_ByteReader__next_byte rfl rfl fun cdv A outer s H E0 C hr hC tk => ?_
  have hu := hr.units
  have nodupN := sc_ByteReader__next_byte.nd
  unfold b_ByteReader__next_byte
  exact (v_scons (v_expr (x_mth hC (mX tk) E.cl_ByteReader E.m_ByteReader__sure ok_ByteReader__sure (hr.mono (by omega)) E.B_ByteReader__sure rfl (Vw.v_var (i := 0) rfl (.inl rfl) nd_self nc_self) (v_cons (x_lt hu (x_fld hC E.fld (Vw.v_var (i := 0) rfl (.inl rfl) nd_self nc_self) rfl) (v_blt call_len (bLen_ok _) rfl E.b_len bb_len (v_cons (x_fld hC E.fld (Vw.v_var (i := 0) rfl (.inl rfl) nd_self nc_self) rfl) v_nil rfl) rfl nn_len nd_len) rfl) v_nil rfl) rfl rfl) rfl) (v_scons (v_asg nodupN rfl (.inl rfl) (.inr rfl) (v_ix hu (x_fld hC E.fld (Vw.v_var (i := 0) rfl (.inl rfl) nd_self nc_self) rfl) (x_fld hC E.fld (Vw.v_var (i := 0) rfl (.inl rfl) nd_self nc_self) rfl) rfl) rfl) (v_scons (v_expr (x_mth hC (mX tk) E.cl_ByteReader E.m_ByteReader__sure ok_ByteReader__sure (hr.mono (by omega)) E.B_ByteReader__sure rfl (Vw.v_var (i := 0) rfl (.inl rfl) nd_self nc_self) (v_cons (xc_le_le hu (v_const pe_int fun _ => rfl) (Vw.v_var (i := 1) rfl (.inl rfl) nd_byte nc_byte) (v_const pe_int fun _ => rfl) rfl) v_nil rfl) rfl rfl) rfl) (v_scons (x_flda_add hC E.fld (Vw.v_var (i := 0) rfl (.inl rfl) nd_self nc_self) (v_const pe_int fun _ => rfl)) (v_scons (v_ret (Vw.v_var (i := 1) rfl (.inl rfl) nd_byte nc_byte)) v_snil)))))
theorem sc_ByteReader__next_number : FnScope ["self", "parts", "byte", "part"] ["self"] (defScope (mth 10 3)) := ⟨rfl, rfl, rfl, by decide +kernel, rfl, by decide +kernel, by decide +kernel⟩
theorem ok_ByteReader__next_number (E : Fx P w K mg base cA) : FnOk P w K mg base (L2.CX P w) 6 E.f_ByteReader__next_number E.d_ByteReader__next_number ["self"] (spV cA 1 g_ByteReader__next_number) := by
  have ok_ByteReader__next_byte := ok_ByteReader__next_byte E
  have ok_ByteReader__sure := ok_ByteReader__sure E
  refine x_fnX (N := ["self", "parts", "byte", "part"]) (k := 5) E.F_ByteReader__next_number sc_ByteReader__next_number rfl rfl fun cdv A outer s H E0 C hr hC tk => ?_
  have hu := hr.units
  have nodupN := sc_ByteReader__next_number.nd
  unfold b_ByteReader__next_number
  exact (v_scons (v_asg nodupN rfl (.inl rfl) (.inr rfl) (v_lst' v_nil) rfl) (v_scons (v_asg nodupN rfl (.inl rfl) (.inr rfl) (x_mth0 hC (mX tk) E.cl_ByteReader E.m_ByteReader__next_byte ok_ByteReader__next_byte (hr.mono (by omega)) E.B_ByteReader__next_byte rfl (Vw.v_var (i := 0) rfl (.inl rfl) nd_self nc_self) rfl) rfl) (v_scons (v_wh (L2.passes_of rfl) (xt_ge hu (Vw.v_var (i := 2) rfl (.inl rfl) nd_byte nc_byte) (v_const pe_int fun _ => rfl) rfl) (v_scons (v_expr (v_mt F.plainAttrs_list F.slot_list_append F.type_list_append mt_append bAppend_ok isL_ok (Vw.v_var (i := 1) rfl (.inl rfl) nd_parts nc_parts) (v_cons (x_sub (Vw.v_var (i := 2) rfl (.inl rfl) nd_byte nc_byte) (v_const pe_int fun _ => rfl)) v_nil rfl) rfl rfl (by decide) rfl) rfl) (v_scons (v_asg nodupN rfl (.inl rfl) (.inr rfl) (x_mth0 hC (mX tk) E.cl_ByteReader E.m_ByteReader__next_byte ok_ByteReader__next_byte (hr.mono (by omega)) E.B_ByteReader__next_byte rfl (Vw.v_var (i := 0) rfl (.inl rfl) nd_self nc_self) rfl) rfl) v_snil))) (v_scons (v_expr (x_mth hC (mX tk) E.cl_ByteReader E.m_ByteReader__sure ok_ByteReader__sure (hr.mono (by omega)) E.B_ByteReader__sure rfl (Vw.v_var (i := 0) rfl (.inl rfl) nd_self nc_self) (v_cons (Vw.v_orv (x_gt hu (Vw.v_var (i := 2) rfl (.inl rfl) nd_byte nc_byte) (v_const pe_int fun _ => rfl) rfl) (Vw.v_or1v (x_eq hu (v_blt call_len (bLen_ok _) rfl E.b_len bb_len (v_cons (Vw.v_var (i := 1) rfl (.inl rfl) nd_parts nc_parts) v_nil rfl) rfl nn_len nd_len) (v_const pe_int fun _ => rfl) rfl))) v_nil rfl) rfl rfl) rfl) (v_scons (x_forW hC (L2.passes_of rfl) rfl (v_rev (Vw.v_var (i := 1) rfl (.inl rfl) nd_parts nc_parts) rfl E.b_reversed rfl) (fun C hC hW => (v_tgn nodupN rfl (.inl rfl) (.inr rfl))) (fun C hC hW => have tk := hW ▸ tk; (v_scons (v_asg nodupN rfl (.inl rfl) (.inr rfl) (x_add (x_mul (Vw.v_var (i := 2) rfl (.inl rfl) nd_byte nc_byte) (v_const pe_int fun _ => rfl)) (Vw.v_var (i := 3) rfl (.inl rfl) nd_part nc_part)) rfl) v_snil)) rfl) (v_scons (v_ret (Vw.v_var (i := 2) rfl (.inl rfl) nd_byte nc_byte)) v_snil))))))
theorem sc_ByteReader__next_rising : FnScope ["self", "many", "found", "step"] ["self", "many"] (defScope (mth 10 4)) := ⟨rfl, rfl, rfl, by decide +kernel, rfl, by decide +kernel, by decide +kernel⟩
theorem ok_ByteReader__next_rising (E : Fx P w K mg base cA) : FnOk P w K mg base (L2.CX P w) 8 E.f_ByteReader__next_rising E.d_ByteReader__next_rising ["self", "many"] (spV cA 2 g_ByteReader__next_rising) := by
  have ok_ByteReader__next_number := ok_ByteReader__next_number E
  have ok_ByteReader__sure := ok_ByteReader__sure E
  refine x_fnX (N := ["self", "many", "found", "step"]) (k := 7) E.F_ByteReader__next_rising sc_ByteReader__next_rising rfl rfl fun cdv A outer s H E0 C hr hC tk => ?_
  have hu := hr.units
  have nodupN := sc_ByteReader__next_rising.nd
  unfold b_ByteReader__next_rising
  exact (v_scons (v_asg nodupN rfl (.inl rfl) (.inr rfl) (v_lst' v_nil) rfl) (v_scons (v_wh (L2.passes_of rfl) (xt_lt hu (v_blt call_len (bLen_ok _) rfl E.b_len bb_len (v_cons (Vw.v_var (i := 2) rfl (.inl rfl) nd_found nc_found) v_nil rfl) rfl nn_len nd_len) (Vw.v_var (i := 1) rfl (.inl rfl) nd_many nc_many) rfl) (v_scons (v_asg nodupN rfl (.inl rfl) (.inr rfl) (x_mth0 hC (mX tk) E.cl_ByteReader E.m_ByteReader__next_number ok_ByteReader__next_number (hr.mono (by omega)) E.B_ByteReader__next_number rfl (Vw.v_var (i := 0) rfl (.inl rfl) nd_self nc_self) rfl) rfl) (v_scons (v_expr (x_mth hC (mX tk) E.cl_ByteReader E.m_ByteReader__sure ok_ByteReader__sure (hr.mono (by omega)) E.B_ByteReader__sure rfl (Vw.v_var (i := 0) rfl (.inl rfl) nd_self nc_self) (v_cons (Vw.v_orv (x_gt hu (Vw.v_var (i := 3) rfl (.inl rfl) nd_step nc_step) (v_const pe_int fun _ => rfl) rfl) (Vw.v_or1v (x_eq hu (v_blt call_len (bLen_ok _) rfl E.b_len bb_len (v_cons (Vw.v_var (i := 2) rfl (.inl rfl) nd_found nc_found) v_nil rfl) rfl nn_len nd_len) (v_const pe_int fun _ => rfl) rfl))) v_nil rfl) rfl rfl) rfl) (v_scons (v_expr (v_mt F.plainAttrs_list F.slot_list_append F.type_list_append mt_append bAppend_ok isL_ok (Vw.v_var (i := 2) rfl (.inl rfl) nd_found nc_found) (v_cons (x_add (v_blt (cr_sum rfl) (bSum_ok _) rfl E.b_sum bb_sum (v_cons (v_sl (Vw.v_var (i := 2) rfl (.inl rfl) nd_found nc_found) (v_pex (v_neg' (v_const pe_int fun _ => rfl))) v_pno) v_nil rfl) rfl nn_sum nd_sum) (Vw.v_var (i := 3) rfl (.inl rfl) nd_step nc_step)) v_nil rfl) rfl rfl (by decide) rfl) rfl) v_snil)))) (v_scons (v_ret (Vw.v_var (i := 2) rfl (.inl rfl) nd_found nc_found)) v_snil)))
theorem sc_ByteReader__next_postings : FnScope ["self", "many", "found", "last", "step", "places"] ["self"] (defScope (mth 10 6)) := ⟨rfl, rfl, rfl, by decide +kernel, rfl, by decide +kernel, by decide +kernel⟩
theorem ok_ByteReader__next_postings (E : Fx P w K mg base cA) : FnOk P w K mg base (L2.CX P w) 10 E.f_ByteReader__next_postings E.d_ByteReader__next_postings ["self"] (spV cA 1 g_ByteReader__next_postings) := by
  have ok_ByteReader__next_number := ok_ByteReader__next_number E
  have ok_ByteReader__sure := ok_ByteReader__sure E
  have ok_ByteReader__next_rising := ok_ByteReader__next_rising E
  refine x_fnX (N := ["self", "many", "found", "last", "step", "places"]) (k := 9) E.F_ByteReader__next_postings sc_ByteReader__next_postings rfl rfl fun cdv A outer s H E0 C hr hC tk => ?_
  have hu := hr.units
  have nodupN := sc_ByteReader__next_postings.nd
  unfold b_ByteReader__next_postings
  exact (v_scons (v_asg nodupN rfl (.inl rfl) (.inr rfl) (x_mth0 hC (mX tk) E.cl_ByteReader E.m_ByteReader__next_number ok_ByteReader__next_number (hr.mono (by omega)) E.B_ByteReader__next_number rfl (Vw.v_var (i := 0) rfl (.inl rfl) nd_self nc_self) rfl) rfl) (v_scons (v_asg nodupN rfl (.inl rfl) (.inr rfl) (v_lst' v_nil) rfl) (v_scons (v_asg nodupN rfl (.inl rfl) (.inr rfl) (v_const pe_int fun _ => rfl) rfl) (v_scons (v_wh (L2.passes_of rfl) (xt_lt hu (v_blt call_len (bLen_ok _) rfl E.b_len bb_len (v_cons (Vw.v_var (i := 2) rfl (.inl rfl) nd_found nc_found) v_nil rfl) rfl nn_len nd_len) (Vw.v_var (i := 1) rfl (.inl rfl) nd_many nc_many) rfl) (v_scons (v_asg nodupN rfl (.inl rfl) (.inr rfl) (x_mth0 hC (mX tk) E.cl_ByteReader E.m_ByteReader__next_number ok_ByteReader__next_number (hr.mono (by omega)) E.B_ByteReader__next_number rfl (Vw.v_var (i := 0) rfl (.inl rfl) nd_self nc_self) rfl) rfl) (v_scons (v_expr (x_mth hC (mX tk) E.cl_ByteReader E.m_ByteReader__sure ok_ByteReader__sure (hr.mono (by omega)) E.B_ByteReader__sure rfl (Vw.v_var (i := 0) rfl (.inl rfl) nd_self nc_self) (v_cons (Vw.v_orv (x_gt hu (Vw.v_var (i := 4) rfl (.inl rfl) nd_step nc_step) (v_const pe_int fun _ => rfl) rfl) (Vw.v_or1v (x_eq hu (v_blt call_len (bLen_ok _) rfl E.b_len bb_len (v_cons (Vw.v_var (i := 2) rfl (.inl rfl) nd_found nc_found) v_nil rfl) rfl nn_len nd_len) (v_const pe_int fun _ => rfl) rfl))) v_nil rfl) rfl rfl) rfl) (v_scons (xa_add nodupN rfl (.inl rfl) (.inr rfl) (Vw.v_var (i := 4) rfl (.inl rfl) nd_step nc_step)) (v_scons (v_asg nodupN rfl (.inl rfl) (.inr rfl) (x_mth0 hC (mX tk) E.cl_ByteReader E.m_ByteReader__next_number ok_ByteReader__next_number (hr.mono (by omega)) E.B_ByteReader__next_number rfl (Vw.v_var (i := 0) rfl (.inl rfl) nd_self nc_self) rfl) rfl) (v_scons (v_expr (x_mth hC (mX tk) E.cl_ByteReader E.m_ByteReader__sure ok_ByteReader__sure (hr.mono (by omega)) E.B_ByteReader__sure rfl (Vw.v_var (i := 0) rfl (.inl rfl) nd_self nc_self) (v_cons (x_gt hu (Vw.v_var (i := 5) rfl (.inl rfl) nd_places nc_places) (v_const pe_int fun _ => rfl) rfl) v_nil rfl) rfl rfl) rfl) (v_scons (v_expr (v_mt F.plainAttrs_list F.slot_list_append F.type_list_append mt_append bAppend_ok isL_ok (Vw.v_var (i := 2) rfl (.inl rfl) nd_found nc_found) (v_cons (v_tup' (v_cons (Vw.v_var (i := 3) rfl (.inl rfl) nd_last nc_last) (v_cons (x_al (x_mth hC (mX tk) E.cl_ByteReader E.m_ByteReader__next_rising ok_ByteReader__next_rising (hr.mono (by omega)) E.B_ByteReader__next_rising rfl (Vw.v_var (i := 0) rfl (.inl rfl) nd_self nc_self) (v_cons (Vw.v_var (i := 5) rfl (.inl rfl) nd_places nc_places) v_nil rfl) rfl rfl)) v_nil rfl) rfl)) v_nil rfl) rfl rfl (by decide) rfl) rfl) v_snil))))))) (v_scons (v_ret (Vw.v_var (i := 2) rfl (.inl rfl) nd_found nc_found)) v_snil)))))
theorem sc_read_postings : FnScope ["row", "reader"] ["row"] (defScope (top 12)) := ⟨rfl, rfl, rfl, by decide +kernel, rfl, by decide +kernel, by decide +kernel⟩
theorem ok_read_postings (E : Fx P w K mg base cA) : FnOk P w K mg base (L2.CX P w) 12 E.f_read_postings E.d_read_postings ["row"] (spV cA 1 g_read_postings) := by
  have ok_ByteReader____init__ := ok_ByteReader____init__ E
  have ok_ByteReader__ended := ok_ByteReader__ended E
  have ok_ByteReader__next_postings := ok_ByteReader__next_postings E
  refine x_fnX (N := ["row", "reader"]) (k := 11) E.F_read_postings sc_read_postings rfl rfl fun cdv A outer s H E0 C hr hC tk => ?_
  have hu := hr.units
  have nodupN := sc_read_postings.nd
  unfold b_read_postings
  exact (v_scons (v_asg nodupN rfl (.inl rfl) (.inr rfl) (x_mk hC mR E.k_ByteReader ok_ByteReader____init__ (hr.mono (by omega)) rfl E.gc_ByteReader E.B_ByteReader____init__ rfl (v_cons (Vw.v_var (i := 0) rfl (.inl rfl) nd_row nc_row) v_nil rfl) nd_ByteReader rfl) rfl) (v_scons (v_ret (x_mth hC (mX tk) E.cl_ByteReader E.m_ByteReader__ended ok_ByteReader__ended (hr.mono (by omega)) E.B_ByteReader__ended rfl (Vw.v_var (i := 1) rfl (.inl rfl) nd_reader nc_reader) (v_cons (x_al (x_mth0 hC (mX tk) E.cl_ByteReader E.m_ByteReader__next_postings ok_ByteReader__next_postings (hr.mono (by omega)) E.B_ByteReader__next_postings rfl (Vw.v_var (i := 1) rfl (.inl rfl) nd_reader nc_reader) rfl)) v_nil rfl) rfl rfl)) v_snil))
theorem sc_ByteReader__next_text : FnScope ["self", "many", "found", "byte"] ["self"] (defScope (mth 10 5)) := ⟨rfl, rfl, rfl, by decide +kernel, rfl, by decide +kernel, by decide +kernel⟩
theorem ok_ByteReader__next_text (E : Fx P w K mg base cA) : FnOk P w K mg base (L2.CX P w) 8 E.f_ByteReader__next_text E.d_ByteReader__next_text ["self"] (spV cA 1 g_ByteReader__next_text) := by
  have ok_ByteReader__next_number := ok_ByteReader__next_number E
  have ok_ByteReader__next_byte := ok_ByteReader__next_byte E
  have ok_ByteReader__sure := ok_ByteReader__sure E
  refine x_fnX (N := ["self", "many", "found", "byte"]) (k := 7) E.F_ByteReader__next_text sc_ByteReader__next_text rfl rfl fun cdv A outer s H E0 C hr hC tk => ?_
  have hu := hr.units
  have nodupN := sc_ByteReader__next_text.nd
  unfold b_ByteReader__next_text
  exact (v_scons (v_asg nodupN rfl (.inl rfl) (.inr rfl) (x_mth0 hC (mX tk) E.cl_ByteReader E.m_ByteReader__next_number ok_ByteReader__next_number (hr.mono (by omega)) E.B_ByteReader__next_number rfl (Vw.v_var (i := 0) rfl (.inl rfl) nd_self nc_self) rfl) rfl) (v_scons (v_asg nodupN rfl (.inl rfl) (.inr rfl) (v_lst' v_nil) rfl) (v_scons (v_wh (L2.passes_of rfl) (xt_lt hu (v_blt call_len (bLen_ok _) rfl E.b_len bb_len (v_cons (Vw.v_var (i := 2) rfl (.inl rfl) nd_found nc_found) v_nil rfl) rfl nn_len nd_len) (Vw.v_var (i := 1) rfl (.inl rfl) nd_many nc_many) rfl) (v_scons (v_asg nodupN rfl (.inl rfl) (.inr rfl) (x_mth0 hC (mX tk) E.cl_ByteReader E.m_ByteReader__next_byte ok_ByteReader__next_byte (hr.mono (by omega)) E.B_ByteReader__next_byte rfl (Vw.v_var (i := 0) rfl (.inl rfl) nd_self nc_self) rfl) rfl) (v_scons (v_expr (x_mth hC (mX tk) E.cl_ByteReader E.m_ByteReader__sure ok_ByteReader__sure (hr.mono (by omega)) E.B_ByteReader__sure rfl (Vw.v_var (i := 0) rfl (.inl rfl) nd_self nc_self) (v_cons (x_isin hu (Vw.v_var (i := 3) rfl (.inl rfl) nd_byte nc_byte) (x_fld hC E.fld (Vw.v_var (i := 0) rfl (.inl rfl) nd_self nc_self) rfl) rfl) v_nil rfl) rfl rfl) rfl) (v_scons (v_expr (v_mt F.plainAttrs_list F.slot_list_append F.type_list_append mt_append bAppend_ok isL_ok (Vw.v_var (i := 2) rfl (.inl rfl) nd_found nc_found) (v_cons (v_ix hu (x_fld hC E.fld (Vw.v_var (i := 0) rfl (.inl rfl) nd_self nc_self) rfl) (Vw.v_var (i := 3) rfl (.inl rfl) nd_byte nc_byte) rfl) v_nil rfl) rfl rfl (by decide) rfl) rfl) v_snil)))) (v_scons (v_ret (v_mt F.plainAttrs_str F.slot_str_join F.type_str_join mt_join (bJoin_ok _) isS_ok v_str (v_cons (Vw.v_var (i := 2) rfl (.inl rfl) nd_found nc_found) v_nil rfl) rfl rfl (by decide) rfl)) v_snil))))
theorem sc_read_text : FnScope ["row", "reader"] ["row"] (defScope (top 11)) := ⟨rfl, rfl, rfl, by decide +kernel, rfl, by decide +kernel, by decide +kernel⟩
theorem ok_read_text (E : Fx P w K mg base cA) : FnOk P w K mg base (L2.CX P w) 10 E.f_read_text E.d_read_text ["row"] (spV cA 1 g_read_text) := by
  have ok_ByteReader____init__ := ok_ByteReader____init__ E
  have ok_ByteReader__ended := ok_ByteReader__ended E
  have ok_ByteReader__next_text := ok_ByteReader__next_text E
  refine x_fnX (N := ["row", "reader"]) (k := 9) E.F_read_text sc_read_text rfl rfl fun cdv A outer s H E0 C hr hC tk => ?_
  have hu := hr.units
  have nodupN := sc_read_text.nd
  unfold b_read_text
  exact (v_scons (v_asg nodupN rfl (.inl rfl) (.inr rfl) (x_mk hC mR E.k_ByteReader ok_ByteReader____init__ (hr.mono (by omega)) rfl E.gc_ByteReader E.B_ByteReader____init__ rfl (v_cons (Vw.v_var (i := 0) rfl (.inl rfl) nd_row nc_row) v_nil rfl) nd_ByteReader rfl) rfl) (v_scons (v_ret (x_mth hC (mX tk) E.cl_ByteReader E.m_ByteReader__ended ok_ByteReader__ended (hr.mono (by omega)) E.B_ByteReader__ended rfl (Vw.v_var (i := 1) rfl (.inl rfl) nd_reader nc_reader) (v_cons (x_mth0 hC (mX tk) E.cl_ByteReader E.m_ByteReader__next_text ok_ByteReader__next_text (hr.mono (by omega)) E.B_ByteReader__next_text rfl (Vw.v_var (i := 1) rfl (.inl rfl) nd_reader nc_reader) rfl) v_nil rfl) rfl rfl)) v_snil))
theorem sc_law : FnScope ["_law_script", "_law_draws_here", "_law_postings_here", "_law_text_here", "_law_due", "_law_handed", "_law_turn", "_law_found", "_law_told", "_law_make", "_law_places"] ["_law_script"] (defScope (top 23)) := ⟨rfl, rfl, rfl, by decide +kernel, rfl, by decide +kernel, by decide +kernel⟩
theorem ok_law (E : Fx P w K mg base cA) : FnOk P w K mg base (L2.CX P w) 14 E.f_law E.d_law ["_law_script"] (spV cA 1 g_law) := by
  have ok__law_draws := ok__law_draws E
  have ok__law_postings := ok__law_postings E
  have ok__law_text := ok__law_text E
  have ok__law_text_bytes := ok__law_text_bytes E
  have ok__law_postings_bytes := ok__law_postings_bytes E
  have ok_text_bytes := ok_text_bytes E
  have ok_postings_bytes := ok_postings_bytes E
  have ok__law_alike := ok__law_alike E 8
  have ok_read_postings := ok_read_postings E
  have ok_read_text := ok_read_text E
  refine x_fnX (N := ["_law_script", "_law_draws_here", "_law_postings_here", "_law_text_here", "_law_due", "_law_handed", "_law_turn", "_law_found", "_law_told", "_law_make", "_law_places"]) (k := 13) E.F_law sc_law rfl rfl fun cdv A outer s H E0 C hr hC tk => ?_
  have hu := hr.units
  have nodupN := sc_law.nd
  unfold b_law
  exact (v_scons (v_asg nodupN rfl (.inl rfl) (.inr rfl) (x_al (x_call hC ok__law_draws (hr.mono (by omega)) rfl E.g__law_draws E.F__law_draws.kp E.B__law_draws pass0 rfl (v_cons (Vw.v_var (i := 0) rfl (.inl rfl) nd__law_script nc__law_script) (v_cons (v_const pe_int fun _ => rfl) (v_cons (v_const pe_int fun _ => rfl) v_nil rfl) rfl) rfl) nd__law_draws rfl)) rfl) (v_scons (v_asg nodupN rfl (.inl rfl) (.inr rfl) (x_call hC ok__law_postings (hr.mono (by omega)) rfl E.g__law_postings E.F__law_postings.kp E.B__law_postings pass0 rfl (v_cons (Vw.v_var (i := 0) rfl (.inl rfl) nd__law_script nc__law_script) (v_cons (Vw.v_var (i := 1) rfl (.inl rfl) nd__law_draws_here nc__law_draws_here) v_nil rfl) rfl) nd__law_postings rfl) rfl) (v_scons (v_asg nodupN rfl (.inl rfl) (.inr rfl) (x_call hC ok__law_text (hr.mono (by omega)) rfl E.g__law_text E.F__law_text.kp E.B__law_text pass0 rfl (v_cons (Vw.v_var (i := 1) rfl (.inl rfl) nd__law_draws_here nc__law_draws_here) (v_cons (v_const pe_int fun _ => rfl) v_nil rfl) rfl) nd__law_text rfl) rfl) (v_scons (v_asg nodupN rfl (.inl rfl) (.inr rfl) (v_lst' (v_cons (x_call hC ok__law_text_bytes (hr.mono (by omega)) rfl E.g__law_text_bytes E.F__law_text_bytes.kp E.B__law_text_bytes pass0 rfl (v_cons (Vw.v_var (i := 3) rfl (.inl rfl) nd__law_text_here nc__law_text_here) v_nil rfl) nd__law_text_bytes rfl) (v_cons (x_call hC ok__law_postings_bytes (hr.mono (by omega)) rfl E.g__law_postings_bytes E.F__law_postings_bytes.kp E.B__law_postings_bytes pass0 rfl (v_cons (Vw.v_var (i := 2) rfl (.inl rfl) nd__law_postings_here nc__law_postings_here) v_nil rfl) nd__law_postings_bytes rfl) v_nil rfl) rfl)) rfl) (v_scons (x_setLc hC [("_law_make", 9), ("_law_places", 10)] rfl rfl nodupN rfl rfl rfl rfl (by kernel_rfl) (v_it (Vw.v_var (i := 2) rfl (.inl rfl) nd__law_postings_here nc__law_postings_here)) (by kernel_rfl) (fun s H D cl fp C hC => ⟨(v_tgtup rfl (v_tgcons (v_tgn nodupN rfl (.inl rfl) (.inr rfl)) (v_tgcons (v_tgn nodupN rfl (.inl rfl) (.inr rfl)) v_tgnil rfl) rfl) rfl rfl), v_tnil, (v_tup' (v_cons (Vw.v_var (i := 9) rfl (.inl rfl) nd__law_make nc__law_make) (v_cons (v_bltT call_list_of (bList_ok _) rfl E.b_list bb_list (v_cons (Vw.v_var (i := 10) rfl (.inl rfl) nd__law_places nc__law_places) v_nil rfl) rfl nn_list nd_list) v_nil rfl) rfl))⟩) rfl (by decide)) (v_scons (x_forW hC (L2.passes_of rfl) rfl (v_rng1 (v_cons (v_const pe_int fun _ => rfl) v_nil rfl) rfl E.b_range rfl) (fun C hC hW => (v_tgn nodupN rfl (.inl rfl) (.inr rfl))) (fun C hC hW => have tk := hW ▸ tk; (v_scons (v_asg nodupN rfl (.inl rfl) (.inr rfl) (v_lst' (v_cons (x_al (x_call hC ok_text_bytes (hr.mono (by omega)) rfl E.g_text_bytes E.F_text_bytes.kp E.B_text_bytes pass0 rfl (v_cons (Vw.v_var (i := 3) rfl (.inl rfl) nd__law_text_here nc__law_text_here) v_nil rfl) nd_text_bytes rfl)) (v_cons (x_al (x_call hC ok_postings_bytes (hr.mono (by omega)) rfl E.g_postings_bytes E.F_postings_bytes.kp E.B_postings_bytes pass0 rfl (v_cons (Vw.v_var (i := 5) rfl (.inl rfl) nd__law_handed nc__law_handed) v_nil rfl) nd_postings_bytes rfl)) v_nil rfl) rfl)) rfl) (v_scons (Vw.v_if (Vw.v_not (v_tst (x_lookD hC ok__law_alike (hr.mono (by omega)) rfl E.g__law_alike E.F__law_alike.kp E.B__law_alike pass0 rfl (v_cons (Vw.v_var (i := 7) rfl (.inl rfl) nd__law_found nc__law_found) (v_cons (Vw.v_var (i := 4) rfl (.inl rfl) nd__law_due nc__law_due) v_nil rfl) rfl) nd__law_alike rfl) rfl)) (v_scons (v_ret (v_const pe_bl fun _ => rfl)) v_snil) v_snil) (v_scons (v_asg nodupN rfl (.inl rfl) (.inr rfl) (x_callX hC tk ok_read_postings (hr.mono (by omega)) rfl E.g_read_postings E.F_read_postings.kp E.B_read_postings rfl (v_cons (v_ix hu (Vw.v_var (i := 7) rfl (.inl rfl) nd__law_found nc__law_found) (v_const pe_int fun _ => rfl) rfl) v_nil rfl) nd_read_postings rfl) rfl) (v_scons (Vw.v_if (PW.pt (Vw.v_or (Vw.v_not (v_tst (x_lookD hC ok__law_alike (hr.mono (by omega)) rfl E.g__law_alike E.F__law_alike.kp E.B__law_alike pass0 rfl (v_cons (Vw.v_var (i := 8) rfl (.inl rfl) nd__law_told nc__law_told) (v_cons (Vw.v_var (i := 2) rfl (.inl rfl) nd__law_postings_here nc__law_postings_here) v_nil rfl) rfl) nd__law_alike rfl) rfl)) (Vw.v_or1 (Vw.v_not (v_tst (x_lookD hC ok__law_alike (hr.mono (by omega)) rfl E.g__law_alike E.F__law_alike.kp E.B__law_alike pass0 rfl (v_cons (x_callX hC tk ok_read_text (hr.mono (by omega)) rfl E.g_read_text E.F_read_text.kp E.B_read_text rfl (v_cons (v_ix hu (Vw.v_var (i := 7) rfl (.inl rfl) nd__law_found nc__law_found) (v_const pe_int fun _ => rfl) rfl) v_nil rfl) nd_read_text rfl) (v_cons (Vw.v_var (i := 3) rfl (.inl rfl) nd__law_text_here nc__law_text_here) v_nil rfl) rfl) nd__law_alike rfl) rfl))))) (v_scons (v_ret (v_const pe_bl fun _ => rfl)) v_snil) v_snil) (v_scons (Vw.v_if (PW.pt (Vw.v_or (xt_neD hu (Vw.v_var (i := 7) rfl (.inl rfl) nd__law_found nc__law_found) (Vw.v_var (i := 4) rfl (.inl rfl) nd__law_due nc__law_due) rfl) (Vw.v_or1 (xt_neD hu (Vw.v_var (i := 5) rfl (.inl rfl) nd__law_handed nc__law_handed) (Vw.v_var (i := 2) rfl (.inl rfl) nd__law_postings_here nc__law_postings_here) rfl)))) (v_scons (v_ret (v_const pe_bl fun _ => rfl)) v_snil) v_snil) (v_scons (v_expr (v_mt F.plainAttrs_list F.slot_list_append F.type_list_append mt_append bAppend_ok isL_ok (v_ix hu (Vw.v_var (i := 7) rfl (.inl rfl) nd__law_found nc__law_found) (v_const pe_int fun _ => rfl) rfl) (v_cons (v_const pe_int fun _ => rfl) v_nil rfl) rfl rfl (by decide) rfl) rfl) (v_scons (v_expr (v_mt F.plainAttrs_list F.slot_list_append F.type_list_append mt_append bAppend_ok isL_ok (v_ix hu (Vw.v_var (i := 7) rfl (.inl rfl) nd__law_found nc__law_found) (v_const pe_int fun _ => rfl) rfl) (v_cons (v_const pe_int fun _ => rfl) v_nil rfl) rfl rfl (by decide) rfl) rfl) (v_scons (v_forS (L2.passes_of rfl) rfl (Vw.v_var (i := 8) rfl (.inl rfl) nd__law_told nc__law_told) (v_tgtup rfl (v_tgcons (v_tgn nodupN rfl (.inl rfl) (.inr rfl)) (v_tgcons (v_tgn nodupN rfl (.inl rfl) (.inr rfl)) v_tgnil rfl) rfl) rfl rfl) (v_scons (v_expr (v_mt F.plainAttrs_list F.slot_list_append F.type_list_append mt_append bAppend_ok isL_ok (Vw.v_var (i := 10) rfl (.inl rfl) nd__law_places nc__law_places) (v_cons (v_const pe_int fun _ => rfl) v_nil rfl) rfl rfl (by decide) rfl) rfl) v_snil) rfl) (v_scons (v_expr (v_mt F.plainAttrs_list F.slot_list_append F.type_list_append mt_append bAppend_ok isL_ok (Vw.v_var (i := 8) rfl (.inl rfl) nd__law_told nc__law_told) (v_cons (v_tup' (v_cons (v_const pe_int fun _ => rfl) (v_cons (v_lst' v_nil) v_nil rfl) rfl)) v_nil rfl) rfl rfl (by decide) rfl) rfl) v_snil)))))))))) rfl) (v_scons (v_ret (v_const pe_bl fun _ => rfl)) v_snil)))))))
end
end K12
namespace K12
open PySem L2 PyProof.Rows Vw Br
theorem same_draws : g__law_draws = Sh.g__law_draws := rfl
theorem same_pop : g__law_pop = Sh.g__law_pop := rfl
theorem same_text : g__law_text = Sh.g__law_text := rfl
theorem same_alike : g__law_alike 8 = Sh.g__law_alike 8 := rfl
theorem same_tb : g_text_bytes = Br.g_text_bytes := rfl
theorem same_pb : g_postings_bytes = Br.g_postings_bytes := rfl
theorem same_rt : g_read_text = Br.g_read_text := rfl
theorem same_rp : g_read_postings = Br.g_read_postings := rfl
theorem same_signs : Sh.signs = SIGNS := rfl
theorem lb_loop (sto : List Ob) : ∀ (fuel n : Nat) (acc : List Val), n < 128 ^ fuel → acc.length + fuel ≤ 2000000 → sWh (fuel + 1) (evB (ev2 (fVar 0) (fD (.int 127)) (fCmp .gt))) lp__law_number_bytes_0 ⟨[si n, so acc], sto⟩ = .ok .nx ⟨[si (nbZ n), so (acc ++ (nbI n).map vN)], sto⟩ := by
  have hd : DivB 128 = true := divB (by omega) (by omega)
  intro fuel
  induction fuel with
  | zero =>
    intro n acc hn ha
    have h : n < 128 := by simp at hn; omega
    rw [nbI_lt h, nbZ_lt h]
    refine (wh_no (s1 := ⟨[si n, so acc], sto⟩) ?_).trans (by simp)
    have : ¬ (127 : Int) < n := by omega
    simp [this]
  | succ fuel ih =>
    intro n acc hn ha
    by_cases h : n < 128
    · rw [nbI_lt h, nbZ_lt h]
      refine (wh_no (s1 := ⟨[si n, so acc], sto⟩) ?_).trans (by simp)
      have : ¬ (127 : Int) < n := by omega
      simp [this]
    · have z : acc.length < sizeLine := small' _ (by omega)
      have t1 : evB (ev2 (fVar 0) (fD (.int 127)) (fCmp .gt)) ⟨[si n, so acc], sto⟩ = .ok true ⟨[si n, so acc], sto⟩ := by
        have : (127 : Int) < n := by omega
        simp [this]
      have t2 : lp__law_number_bytes_0 ⟨[si n, so acc], sto⟩ = .ok .nx ⟨[si ((n / 128 : Nat) : Int), so (acc ++ [vN (n % 128 + 128)])], sto⟩ := by
        have e : (128 : Int) + (n : Int) % 128 = ((n % 128 + 128 : Nat) : Int) := by omega
        simp [lp__law_number_bytes_0, hd, z, vN, e]
      rw [wh_yes t1 t2, ih (n / 128) _ (by rw [Nat.pow_succ] at hn; omega) (by simp; omega), nbI_ge h, nbZ_ge h]
      simp
theorem law_bytes (n k : Nat) (h : n < 128 ^ k) (hk : k ≤ 100000) (sto : List Ob) : g__law_number_bytes [vN n] sto = .ok (.new (.lst ((nb n).map vN))) ⟨[], sto⟩ := by
  have hl := nbI_len n k h
  have z : (nbI n).length < sizeLine := small' _ (by omega)
  have e := lb_loop sto 999999 n [] (pow_mono h (by omega)) (by simp)
  have t0 : t__law_number_bytes_0 ⟨[si n, none], sto⟩ = .ok .nx ⟨[si n, so []], sto⟩ := by simp [t__law_number_bytes_0]
  have t1 : t__law_number_bytes_1 ⟨[si n, so []], sto⟩ = .ok .nx ⟨[si (nbZ n), so ((nbI n).map vN)], sto⟩ := e
  have t2 : t__law_number_bytes_2 ⟨[si (nbZ n), so ((nbI n).map vN)], sto⟩ = .ok .nx ⟨[si (nbZ n), so ((nb n).map vN)], sto⟩ := by
    simp [t__law_number_bytes_2, z, nb, vN]
  have t3 : t__law_number_bytes_3 ⟨[si (nbZ n), so ((nb n).map vN)], sto⟩ = .ok (.ret (.own 1)) ⟨[si (nbZ n), so ((nb n).map vN)], sto⟩ := by
    simp [t__law_number_bytes_3]
  exact fn_at (n := 2) (b := b__law_number_bytes) (args := [vN n]) (st := sto) rfl ((seq_nx t0).trans ((seq_nx t1).trans ((seq_nx t2).trans (seq_end (r := []) t3)))) rfl

theorem law_signs (sto : List Ob) : g__law_signs [] sto = .ok (.val (.d (.str SIGNS))) ⟨[], sto⟩ := rfl
def okI (c : Nat) : Bool := match Builtin.Str.occurrences (Vw.st SIGNS) (Vw.st [c]) 0 SIGNS.length 1 with
  | i :: _ => 32 + i + (if 4 < i then 1 else 0) == c
  | _ => false
theorem okI_all : ∀ c ∈ SIGNS, okI c = true := by decide +kernel
theorem at_sign {c : Nat} (h : c ∈ SIGNS) : ∃ i r, Builtin.Str.occurrences (Vw.st SIGNS) (Vw.st [c]) 0 SIGNS.length 1 = i :: r ∧ (c : Int) = 32 + (i : Nat) + (if (4 : Int) < (i : Nat) then 1 else 0) := by
  have := okI_all c h
  unfold okI at this
  split at this
  · rename_i i r e
    refine ⟨i, r, e, ?_⟩
    have h2 : 32 + i + (if 4 < i then 1 else 0) = c := by simpa using this
    by_cases h3 : 4 < i
    · rw [if_pos h3] at h2
      rw [if_pos (by omega)]
      omega
    · rw [if_neg h3] at h2
      rw [if_neg (by omega)]
      omega
  · cases this
@[simp] theorem e_bIntB (b : Bool) (s : State) : bInt [.val (.d (.bl b))] s = okv (.int (if b then 1 else 0)) s := id rfl
theorem tb_turn (x0 x3 x2 : Option Sl) (acc : List Nat) (c : Nat) (hc : c ∈ SIGNS) (hz : acc.length ≤ 100000) (sto : List Ob) :
    ∃ x3', trn (.nm 2) lp__law_text_bytes_0 (.d (.str [c])) ⟨[x0, so (acc.map vN), x2, x3], sto⟩ = .ok .nx ⟨[x0, so ((acc ++ [c]).map vN), sd (.str [c]), x3'], sto⟩ := by
  obtain ⟨i, r, e1, e2⟩ := at_sign hc
  have hls := law_signs sto
  have z : acc.length < sizeLine := small' _ (by omega)
  refine ⟨si (i : Nat), ?_⟩
  by_cases h4 : (4 : Int) < (i : Nat)
  · rw [if_pos h4] at e2
    simp [lp__law_text_bytes_0, hls, e1, z, h4, vN, e2]
  · rw [if_neg h4] at e2
    simp [lp__law_text_bytes_0, hls, e1, z, h4, vN, e2]
theorem law_text_bytes (t : List Nat) (ht : ∀ c ∈ t, c ∈ SIGNS) (htl : t.length ≤ 1000) (sto : List Ob) : g__law_text_bytes [.d (.str t)] sto = .ok (.new (.lst ((nb t.length ++ t).map vN))) ⟨[], sto⟩ := by
  let x0 : Option Sl := sd (.str t)
  have hn := law_bytes t.length 50 (by omega) (by omega) sto
  have hn' : g__law_number_bytes [vI (t.length : Int)] sto = .ok (.new (.lst ((nb t.length).map vN))) ⟨[], sto⟩ := hn
  have hl1 := nb_len (n := t.length) (by omega)
  have zl : t.length ≤ sizeLine := small _ (by omega)
  have t0 : t__law_text_bytes_0 ⟨[x0, none, none, none], sto⟩ = .ok .nx ⟨[x0, so ((nb t.length).map vN), none, none], sto⟩ := by simp [t__law_text_bytes_0, x0, zl, hn']
  obtain ⟨d2, hf⟩ := for_fold (fun (x : List Nat) (d : Option Sl × Option Sl) => (⟨[x0, so (x.map vN), d.1, d.2], sto⟩ : State)) (fun (c : Nat) => .d (.str [c])) (fun x c => x ++ [c]) (fun x l => (∀ c ∈ l, c ∈ SIGNS) ∧ x.length + l.length ≤ 100000) (t := .nm 2) (b := lp__law_text_bytes_0)
    (fun x d c l ⟨h1, h2⟩ => by
      simp only [List.length_cons] at h2
      obtain ⟨x3', e⟩ := tb_turn x0 d.2 d.1 x c (h1 c (by simp)) (by omega) sto
      exact ⟨⟨fun c hc => h1 c (by simp [hc]), by simp; omega⟩, (sd (.str [c]), x3'), e⟩) t (nb t.length) (none, none) ⟨ht, by omega⟩
  have hfold : ∀ (l x : List Nat), l.foldl (fun x c => x ++ [c]) x = x ++ l := fun l => by
    induction l with
    | nil => intro x; simp
    | cons p l ih => intro x; rw [List.foldl_cons, ih]; simp
  rw [hfold] at hf
  have t1 : t__law_text_bytes_1 ⟨[x0, so ((nb t.length).map vN), none, none], sto⟩ = .ok .nx ⟨[x0, so ((nb t.length ++ t).map vN), d2.1, d2.2], sto⟩ := by
    have hsrc : sD (fVar 0) itemsOf ⟨[x0, so ((nb t.length).map vN), none, none], sto⟩ = .ok (t.map fun c => .d (.str [c])) ⟨[x0, so ((nb t.length).map vN), none, none], sto⟩ := by
      simp [x0, zl]
    rw [t__law_text_bytes_1, e_for, hsrc, Res.bind_ok]
    exact hf
  have t3 : t__law_text_bytes_2 ⟨[x0, so ((nb t.length ++ t).map vN), d2.1, d2.2], sto⟩ = .ok (.ret (.own 1)) ⟨[x0, so ((nb t.length ++ t).map vN), d2.1, d2.2], sto⟩ := by
    simp [t__law_text_bytes_2]
  exact fn_at (n := 4) (b := b__law_text_bytes) (args := [.d (.str t)]) (st := sto) rfl ((seq_nx t0).trans ((seq_nx t1).trans (seq_end (r := []) t3))) rfl
theorem add_od (sg : Slots) (j : Nat) (sto : List Ob) (a b : List Nat) (h : sg[j]? = some (some (.own (.lst (a.map vN))))) (hz : a.length + b.length ≤ 1000000) : bAdd (.own j) (.val (.d (.lst (b.map fun (x : Nat) => D.int (x : Int))))) ⟨sg, sto⟩ = .ok (.new (.lst ((a ++ b).map vN))) ⟨sg, sto⟩ := by
  have z : a.length + b.length ≤ sizeLine := small _ (by omega)
  unfold bAdd
  simp [h, z, vN, Function.comp_def]
theorem lpb0 (x0 x2 x3 x4 : Option Sl) (acc : List Nat) (b p : Nat) (h : b ≤ p) (hp : p < 128 ^ 50) (hz : acc.length ≤ 100000) (x6 : Option Sl) (sto : List Ob) :
    trn (.nm 6) lp__law_postings_bytes_0 (vN p) ⟨[x0, so (acc.map vN), x2, x3, x4, si b, x6], sto⟩ = .ok .nx ⟨[x0, so ((acc ++ nb (p - b)).map vN), x2, x3, x4, si p, si p], sto⟩ := by
  have hn := law_bytes (p - b) 50 (by omega) (by omega) sto
  have hl := nb_len (n := p - b) (by omega)
  have e : (p : Int) - (b : Int) = ((p - b : Nat) : Int) := by omega
  have hn' : g__law_number_bytes [vI ((p - b : Nat) : Int)] sto = .ok (.new (.lst ((nb (p - b)).map vN))) ⟨[], sto⟩ := hn
  let G : Slots := [x0, so (acc.map vN), x2, x3, x4, si b, si p]
  have hs := lsD (nb (p - b)) ⟨G, sto⟩
  have e1 : ev (fCall 1 (evA [(ev2 (fVar 6) (fVar 5) (binop .sub))]) g__law_number_bytes) ⟨G, sto⟩ = .ok (.val (.d (.lst ((nb (p - b)).map fun (x : Nat) => D.int (x : Int))))) ⟨G, sto⟩ := by
    simp only [G] at hs ⊢
    simp [e, hn']
    exact hs
  have a1 := add_od G 1 sto acc (nb (p - b)) rfl (by omega)
  have u0 : sAsg 1 (ev2 (fVar 1) (fCall 1 (evA [(ev2 (fVar 6) (fVar 5) (binop .sub))]) g__law_number_bytes) (binop .add)) ⟨G, sto⟩ = .ok .nx ⟨[x0, so ((acc ++ nb (p - b)).map vN), x2, x3, x4, si b, si p], sto⟩ := by
    have e0 : ev (fVar 1) ⟨G, sto⟩ = .ok (.own 1) ⟨G, sto⟩ := by simp [G]
    rw [e_asg, ev2, e0, Res.bind_ok, e1, Res.bind_ok, e_addB, a1]
    simp [G]
  have hb : lp__law_postings_bytes_0 ⟨G, sto⟩ = .ok .nx ⟨[x0, so ((acc ++ nb (p - b)).map vN), x2, x3, x4, si p, si p], sto⟩ := (seq_nx u0).trans (seq_nx (r := []) (by simp))
  simp only [G] at hb
  have ha : asgT (.nm 6) (vN p) ⟨[x0, so (acc.map vN), x2, x3, x4, si b, x6], sto⟩ = some ⟨[x0, so (acc.map vN), x2, x3, x4, si b, si p], sto⟩ := by simp [vN]
  rw [e_trn, ha]
  dsimp only
  rw [hb]
  rfl
theorem lpb0_all (x0 x2 x3 x4 : Option Sl) (sto : List Ob) : ∀ (l acc : List Nat) (b : Nat) (x6 : Option Sl), Inc b l → acc.length + 51 * l.length ≤ 100000 →
    ∃ y5 y6, sForI (.nm 6) lp__law_postings_bytes_0 (l.map vN) ⟨[x0, so (acc.map vN), x2, x3, x4, si b, x6], sto⟩ = .ok .nx ⟨[x0, so ((acc ++ dB b l).map vN), x2, x3, x4, y5, y6], sto⟩
  | [], acc, b, x6, _, _ => ⟨si b, x6, by simp [dB, sForI]⟩
  | p :: l, acc, b, x6, h, hz => by
    simp only [List.length_cons] at hz
    have hl := nb_len (n := p - b) (by have := h.2.1; omega)
    obtain ⟨y5, y6, e⟩ := lpb0_all x0 x2 x3 x4 sto l (acc ++ nb (p - b)) p (si p) h.2.2 (by simp; omega)
    refine ⟨y5, y6, ?_⟩
    rw [List.map_cons, forc_trn (lpb0 x0 x2 x3 x4 acc b p h.1 h.2.1 (by omega) x6 sto), e]
    simp [dB]
theorem lpb1 (x0 : Option Sl) (acc : List Nat) (a : Nat) (p : Nat × List Nat) (h : a ≤ p.1) (hp : p.1 < 128 ^ 50) (hi : Inc 0 p.2) (hl : p.2.length ≤ 100) (hz : acc.length ≤ 90000) (x3 x4 x5 x6 : Option Sl) (sto : List Ob) :
    ∃ y5 y6, trn (.tp [.nm 3, .nm 4]) lp__law_postings_bytes_1 (.d (poD p)) ⟨[x0, so (acc.map vN), si a, x3, x4, x5, x6], sto⟩ = .ok .nx ⟨[x0, so ((acc ++ (nb (p.1 - a) ++ nb p.2.length ++ dB 0 p.2)).map vN), si p.1, si p.1, sd (.lst (p.2.map fun (x : Nat) => .int (x : Int))), y5, y6], sto⟩ := by
  obtain ⟨mk, ps⟩ := p
  simp only at h hp hi hl ⊢
  let P : Option Sl := sd (.lst (ps.map fun (x : Nat) => .int (x : Int)))
  let G : Slots := [x0, so (acc.map vN), si a, si mk, P, x5, x6]
  have hl1 := nb_len (n := mk - a) (by omega)
  have hl2 := nb_len (n := ps.length) (by omega)
  have hn' : g__law_number_bytes [vI ((mk - a : Nat) : Int)] sto = .ok (.new (.lst ((nb (mk - a)).map vN))) ⟨[], sto⟩ := law_bytes (mk - a) 50 (by omega) (by omega) sto
  have hn2' : g__law_number_bytes [vI (ps.length : Int)] sto = .ok (.new (.lst ((nb ps.length).map vN))) ⟨[], sto⟩ := law_bytes ps.length 50 (by omega) (by omega) sto
  have e : (mk : Int) - (a : Int) = ((mk - a : Nat) : Int) := by omega
  have zp : ps.length ≤ sizeLine := small _ (by omega)
  have hs1 := lsD (nb (mk - a)) ⟨G, sto⟩
  have hs2 := lsD (nb ps.length) ⟨G, sto⟩
  have hs4 := lsD (acc ++ nb (mk - a)) ⟨G, sto⟩
  have a1 := add_od G 1 sto acc (nb (mk - a)) rfl (by omega)
  have a2 := add_dd (acc ++ nb (mk - a)) (nb ps.length) ⟨G, sto⟩ (by simp; omega)
  have e0 : ev (fVar 1) ⟨G, sto⟩ = .ok (.own 1) ⟨G, sto⟩ := by simp [G]
  have e1 : ev (fCall 1 (evA [(ev2 (fVar 3) (fVar 2) (binop .sub))]) g__law_number_bytes) ⟨G, sto⟩ = .ok (.val (.d (.lst ((nb (mk - a)).map fun (x : Nat) => D.int (x : Int))))) ⟨G, sto⟩ := by
    simp only [G] at hs1 ⊢
    simp [e, hn']
    exact hs1
  have e2 : ev (fCall 1 (evA [(fBlt (evA [(fVar 4)]) bLen)]) g__law_number_bytes) ⟨G, sto⟩ = .ok (.val (.d (.lst ((nb ps.length).map fun (x : Nat) => D.int (x : Int))))) ⟨G, sto⟩ := by
    simp only [G, P] at hs2 ⊢
    simp [zp, hn2']
    exact hs2
  have e5 : ev (ev2 (fVar 1) (fCall 1 (evA [(ev2 (fVar 3) (fVar 2) (binop .sub))]) g__law_number_bytes) (binop .add)) ⟨G, sto⟩ = .ok (.val (.d (.lst ((acc ++ nb (mk - a)).map fun (x : Nat) => D.int (x : Int))))) ⟨G, sto⟩ := by
    rw [e_ev, ev2, e0, Res.bind_ok, e1, Res.bind_ok, e_addB, a1, Res.bind_ok]
    exact hs4
  let A2 : List Nat := acc ++ nb (mk - a) ++ nb ps.length
  have u0 : sAsg 1 (ev2 (ev2 (fVar 1) (fCall 1 (evA [(ev2 (fVar 3) (fVar 2) (binop .sub))]) g__law_number_bytes) (binop .add)) (fCall 1 (evA [(fBlt (evA [(fVar 4)]) bLen)]) g__law_number_bytes) (binop .add)) ⟨G, sto⟩ = .ok .nx ⟨[x0, so (A2.map vN), si a, si mk, P, x5, x6], sto⟩ := by
    rw [e_asg, ev2, e5, Res.bind_ok, e2, Res.bind_ok, e_addB, a2]
    simp [G, A2]
  have u1 : sAsg 2 (fVar 3) ⟨[x0, so (A2.map vN), si a, si mk, P, x5, x6], sto⟩ = .ok .nx ⟨[x0, so (A2.map vN), si mk, si mk, P, x5, x6], sto⟩ := by simp
  have u2 : sAsg 5 (fD (.int 0)) ⟨[x0, so (A2.map vN), si mk, si mk, P, x5, x6], sto⟩ = .ok .nx ⟨[x0, so (A2.map vN), si mk, si mk, P, si 0, x6], sto⟩ := by simp
  obtain ⟨y5, y6, ef⟩ := lpb0_all x0 (si mk) (si mk) P sto ps A2 0 x6 hi (by simp [A2]; omega)
  have u3 : sFor (.nm 6) (sD (fVar 4) itemsOf) lp__law_postings_bytes_0 ⟨[x0, so (A2.map vN), si mk, si mk, P, si 0, x6], sto⟩ = .ok .nx ⟨[x0, so ((A2 ++ dB 0 ps).map vN), si mk, si mk, P, y5, y6], sto⟩ := by
    have hsrc : sD (fVar 4) itemsOf ⟨[x0, so (A2.map vN), si mk, si mk, P, si 0, x6], sto⟩ = .ok (ps.map vN) ⟨[x0, so (A2.map vN), si mk, si mk, P, si 0, x6], sto⟩ := by
      simp [P, vN]
    rw [e_for, hsrc, Res.bind_ok]
    exact ef
  refine ⟨y5, y6, ?_⟩
  have hb : lp__law_postings_bytes_1 ⟨G, sto⟩ = .ok .nx ⟨[x0, so ((A2 ++ dB 0 ps).map vN), si mk, si mk, P, y5, y6], sto⟩ :=
    (seq_nx u0).trans ((seq_nx u1).trans ((seq_nx u2).trans (seq_nx (r := []) u3)))
  simp only [G] at hb
  have ha : asgT (.tp [.nm 3, .nm 4]) (.d (poD (mk, ps))) ⟨[x0, so (acc.map vN), si a, x3, x4, x5, x6], sto⟩ = some ⟨[x0, so (acc.map vN), si a, si mk, P, x5, x6], sto⟩ := by
    simp [poD, P]
  rw [e_trn, ha]
  dsimp only
  rw [hb]
  simp [A2, P]
theorem lpb1_all (x0 : Option Sl) (sto : List Ob) : ∀ (l : Po) (acc : List Nat) (a : Nat) (x3 x4 x5 x6 : Option Sl), IncP a l → acc.length + 6000 * l.length ≤ 90000 →
    ∃ y2 y3 y4 y5 y6, sForI (.tp [.nm 3, .nm 4]) lp__law_postings_bytes_1 (l.map fun p => .d (poD p)) ⟨[x0, so (acc.map vN), si a, x3, x4, x5, x6], sto⟩ = .ok .nx ⟨[x0, so ((acc ++ pB a l).map vN), y2, y3, y4, y5, y6], sto⟩
  | [], acc, a, x3, x4, x5, x6, _, _ => ⟨si a, x3, x4, x5, x6, by simp [pB, sForI]⟩
  | p :: l, acc, a, x3, x4, x5, x6, h, hz => by
    simp only [List.length_cons] at hz
    have h2 := nb_len (n := p.1 - a) (by have := h.2.1; omega)
    have h3 := nb_len (n := p.2.length) (by have := h.2.2.1.2; omega)
    have h4 := dB_len p.2 0 h.2.2.1.1
    have h5 := h.2.2.1.2
    obtain ⟨y5, y6, e1⟩ := lpb1 x0 acc a p h.1 h.2.1 h.2.2.1.1 h.2.2.1.2 (by omega) x3 x4 x5 x6 sto
    obtain ⟨z2, z3, z4, z5, z6, e⟩ := lpb1_all x0 sto l (acc ++ (nb (p.1 - a) ++ nb p.2.length ++ dB 0 p.2)) p.1 (si p.1) (sd (.lst (p.2.map fun (x : Nat) => .int (x : Int)))) y5 y6 h.2.2.2 (by simp; omega)
    refine ⟨z2, z3, z4, z5, z6, ?_⟩
    rw [List.map_cons, forc_trn e1, e]
    simp [pB]
theorem law_postings_bytes (l : Po) (h : IncP 0 l) (hl : l.length ≤ 10) (sto : List Ob) : g__law_postings_bytes [.d (.lst (l.map poD))] sto = .ok (.new (.lst ((nb l.length ++ pB 0 l).map vN))) ⟨[], sto⟩ := by
  let x0 : Option Sl := sd (.lst (l.map poD))
  have hn' : g__law_number_bytes [vI (l.length : Int)] sto = .ok (.new (.lst ((nb l.length).map vN))) ⟨[], sto⟩ := law_bytes l.length 50 (by omega) (by omega) sto
  have hl1 := nb_len (n := l.length) (by omega)
  have zl : l.length ≤ sizeLine := small _ (by omega)
  have t0 : t__law_postings_bytes_0 ⟨[x0, none, none, none, none, none, none], sto⟩ = .ok .nx ⟨[x0, so ((nb l.length).map vN), none, none, none, none, none], sto⟩ := by simp [t__law_postings_bytes_0, x0, zl, hn']
  have t1 : t__law_postings_bytes_1 ⟨[x0, so ((nb l.length).map vN), none, none, none, none, none], sto⟩ = .ok .nx ⟨[x0, so ((nb l.length).map vN), si 0, none, none, none, none], sto⟩ := by simp [t__law_postings_bytes_1]
  obtain ⟨y2, y3, y4, y5, y6, ef⟩ := lpb1_all x0 sto l (nb l.length) 0 none none none none h (by omega)
  have t2 : t__law_postings_bytes_2 ⟨[x0, so ((nb l.length).map vN), si 0, none, none, none, none], sto⟩ = .ok .nx ⟨[x0, so ((nb l.length ++ pB 0 l).map vN), y2, y3, y4, y5, y6], sto⟩ := by
    have hsrc : sD (fVar 0) itemsOf ⟨[x0, so ((nb l.length).map vN), si 0, none, none, none, none], sto⟩ = .ok (l.map fun p => .d (poD p)) ⟨[x0, so ((nb l.length).map vN), si 0, none, none, none, none], sto⟩ := by
      simp [x0]
    rw [t__law_postings_bytes_2, e_for, hsrc, Res.bind_ok]
    exact ef
  have t3 : t__law_postings_bytes_3 ⟨[x0, so ((nb l.length ++ pB 0 l).map vN), y2, y3, y4, y5, y6], sto⟩ = .ok (.ret (.own 1)) ⟨[x0, so ((nb l.length ++ pB 0 l).map vN), y2, y3, y4, y5, y6], sto⟩ := by
    simp [t__law_postings_bytes_3]
  exact fn_at (n := 7) (b := b__law_postings_bytes) (args := [.d (.lst (l.map poD))]) (st := sto) rfl ((seq_nx t0).trans ((seq_nx t1).trans ((seq_nx t2).trans (seq_end (r := []) t3)))) rfl
end K12
namespace K12
open PySem L2 PyProof.Rows Vw Br
def SI : Int → List Nat → Prop
  | _, [] => True
  | a, p :: l => a < p ∧ (p : Int) ≤ a + 301 ∧ SI p l
theorem set_at' {sto : List Ob} {n : Nat} {o o' : Ob} (h : sto[n]? = some o) : (sto.set n o')[n]? = some o' := by rw [List.getElem?_set_self (lt_of_get h)]
theorem in_turn (n : Nat) (x0 x2 x3 x4 x5 x6 x7 : Option Sl) (P : List Nat) (pl : Int) (hpl : -1 ≤ pl) (l : List Int) (hl : ∀ x ∈ l, 0 ≤ x) (hz : P.length ≤ 1000) (v : Val) (x10 x11 : Option Sl) (sto : List Ob) (hn : sto[n]? = some (.lst (l.map vI))) :
    ∃ (p : Nat) (l' : List Int) (y11 : Option Sl), pl < p ∧ (p : Int) ≤ pl + 301 ∧ (∀ x ∈ l', 0 ≤ x) ∧ trn (.nm 10) lp__law_postings_0 v ⟨[x0, some (.v (.r n)), x2, x3, x4, x5, x6, x7, so (P.map vN), si pl, x10, x11], sto⟩ = .ok .nx ⟨[x0, some (.v (.r n)), x2, x3, x4, x5, x6, x7, so ((P ++ [p]).map vN), si p, some (.v v), y11], sto.set n (.lst (l'.map vI))⟩ := by
  obtain ⟨y, l', y0, p', e⟩ := Sh.pop l hl n sto hn
  have e' : g__law_pop [.r n] sto = .ok (.val (vI y)) ⟨[], sto.set n (.lst (l'.map vI))⟩ := e
  have hd3 : DivB 3 = true := divB (by omega) (by omega)
  have hd300 : DivB 300 = true := divB (by omega) (by omega)
  obtain ⟨st, hst, hat⟩ : ∃ st : Nat, st ≤ 299 ∧ atI [D.int 0, .int (y / 3 % 3), .int (y / 3 % 300)] (y % 3) = some (.int st) := by
    have h3 : y % 3 = 0 ∨ y % 3 = 1 ∨ y % 3 = 2 := by omega
    rcases h3 with h | h | h <;> rw [h]
    · exact ⟨0, by omega, rfl⟩
    · exact ⟨(y / 3 % 3).toNat, by omega, by rw [Int.toNat_of_nonneg (by omega)]; rfl⟩
    · exact ⟨(y / 3 % 300).toNat, by omega, by rw [Int.toNat_of_nonneg (by omega)]; rfl⟩
  let p : Nat := (pl + 1 + st).toNat
  have hp : (p : Int) = pl + 1 + st := Int.toNat_of_nonneg (by omega)
  have z : P.length < sizeLine := small' _ (by omega)
  have z3 : (3 : Nat) ≤ sizeLine := small _ (by omega)
  refine ⟨p, l', si y, by omega, by omega, p', ?_⟩
  simp [lp__law_postings_0, e', hd3, hd300, z3, hat, z, vN, hp]
theorem in_all (n : Nat) (x0 x2 x3 x4 x5 x6 x7 : Option Sl) : ∀ (vs : List Val) (P : List Nat) (pl : Int) (hpl : -1 ≤ pl) (l : List Int) (hl : ∀ x ∈ l, 0 ≤ x) (hz : P.length + vs.length ≤ 1000) (x10 x11 : Option Sl) (sto : List Ob) (hn : sto[n]? = some (.lst (l.map vI))),
    ∃ (S : List Nat) (l' : List Int) (y9 y10 y11 : Option Sl), S.length = vs.length ∧ SI pl S ∧ (∀ x ∈ l', 0 ≤ x) ∧ sForI (.nm 10) lp__law_postings_0 vs ⟨[x0, some (.v (.r n)), x2, x3, x4, x5, x6, x7, so (P.map vN), si pl, x10, x11], sto⟩ = .ok .nx ⟨[x0, some (.v (.r n)), x2, x3, x4, x5, x6, x7, so ((P ++ S).map vN), y9, y10, y11], sto.set n (.lst (l'.map vI))⟩
  | [], P, pl, hpl, l, hl, hz, x10, x11, sto, hn => ⟨[], l, si pl, x10, x11, rfl, trivial, hl, by simp [sForI, set_same hn]⟩
  | v :: vs, P, pl, hpl, l, hl, hz, x10, x11, sto, hn => by
    simp only [List.length_cons] at hz
    obtain ⟨p, l1, y, h1, h2, h3, e1⟩ := in_turn n x0 x2 x3 x4 x5 x6 x7 P pl hpl l hl (by omega) v x10 x11 sto hn
    obtain ⟨S, l2, y9, y10, y11, g1, g2, g3, e2⟩ := in_all n x0 x2 x3 x4 x5 x6 x7 vs (P ++ [p]) p (by omega) l1 h3 (by simp; omega) (some (.v v)) y _ (set_at' hn)
    refine ⟨p :: S, l2, y9, y10, y11, by simp [g1], ⟨h1, h2, g2⟩, g3, ?_⟩
    rw [forc_trn e1, e2, set2]
    simp
def SP : Int → Po → Prop
  | _, [] => True
  | a, p :: q => a < p.1 ∧ (p.1 : Int) ≤ a + 10 ^ 31 ∧ (SI (-1) p.2 ∧ 1 ≤ p.2.length ∧ p.2.length ≤ 4) ∧ SP p.1 q
theorem big30 : DivB ((10 : Int) ^ 30) = true ∧ (0 : Int) < 10 ^ 30 := by decide +kernel
theorem out_turn (n : Nat) (x0 : Option Sl) (L : List Int) (hL : 0 < L.length) (hLz : L.length ≤ 1000) (F : List Val) (mk : Int) (hmk : -1 ≤ mk) (l : List Int) (hl : ∀ x ∈ l, 0 ≤ x) (hz : F.length ≤ 1000) (v : Val) (x5 x6 x7 x8 x9 x10 x11 : Option Sl) (sto : List Ob) (hn : sto[n]? = some (.lst (l.map vI))) :
    ∃ (p : Nat × List Nat) (l' : List Int) (y6 y7 y8 y9 y10 y11 : Option Sl), mk < p.1 ∧ (p.1 : Int) ≤ mk + 10 ^ 31 ∧ (SI (-1) p.2 ∧ 1 ≤ p.2.length ∧ p.2.length ≤ 4) ∧ (∀ x ∈ l', 0 ≤ x) ∧
      trn (.nm 5) lp__law_postings_1 v ⟨[x0, some (.v (.r n)), so F, si mk, so (L.map vI), x5, x6, x7, x8, x9, x10, x11], sto⟩ = .ok .nx ⟨[x0, some (.v (.r n)), so (F ++ [.d (poD p)]), si p.1, so (L.map vI), some (.v v), y6, y7, y8, y9, y10, y11], sto.set n (.lst (l'.map vI))⟩ := by
  obtain ⟨y, l1, y0, p1, e⟩ := Sh.pop l hl n sto hn
  let s1 := sto.set n (.lst (l1.map vI))
  have hn1 : s1[n]? = some (.lst (l1.map vI)) := set_at' hn
  obtain ⟨y2, l2, y20, p2, e2⟩ := Sh.pop l1 p1 n s1 hn1
  let s2 := s1.set n (.lst (l2.map vI))
  have hn2 : s2[n]? = some (.lst (l2.map vI)) := set_at' hn1
  have e' : g__law_pop [.r n] sto = .ok (.val (vI y)) ⟨[], s1⟩ := e
  have e2' : g__law_pop [.r n] s1 = .ok (.val (vI y2)) ⟨[], s2⟩ := e2
  have hd4 : DivB 4 = true := divB (by omega) (by omega)
  have hd9 : DivB 9 = true := divB (by omega) (by omega)
  have hd36 : DivB 36 = true := divB (by omega) (by omega)
  have hd300 : DivB 300 = true := divB (by omega) (by omega)
  let rn : Option Sl := some (.v (.r n))
  let LL : Option Sl := so (L.map vI)
  -- the cell
  let j : Int := y / 36 % (L.length : Int)
  have hj : 0 ≤ j ∧ j < L.length := ⟨Int.emod_nonneg _ (by omega), Int.emod_lt_of_pos _ (by omega)⟩
  have hat : atI (L.map vI) j = some (vI L[j.toNat]) := by
    rw [atI_pos hj.1 (by simpa using hj.2)]
    simp [List.getElem?_eq_getElem (show j.toNat < L.length by omega)]
  generalize L[j.toNat] = c at hat
  have h10 : 0 ≤ c % (10 : Int) ^ 30 ∧ c % (10 : Int) ^ 30 < (10 : Int) ^ 30 := ⟨Int.emod_nonneg _ (by have := big30.2; omega), Int.emod_lt_of_pos _ big30.2⟩
  have hLs : L.length ≤ sizeLine := small _ (by omega)
  have hdl : DivB (L.length : Int) = true := divB (by omega) (by omega)
  have e30 : (30 : Int).toNat = 30 := rfl
  have hd := big30.1
  simp at hd
  simp only [j] at hat
  let X : Int := c % (10 : Int) ^ 30
  have u0 : sAsg 6 (fCall 1 (evA [(fVar 1)]) g__law_pop) ⟨[x0, rn, so F, si mk, LL, some (.v v), x6, x7, x8, x9, x10, x11], sto⟩ = .ok .nx ⟨[x0, rn, so F, si mk, LL, some (.v v), si y, x7, x8, x9, x10, x11], s1⟩ := by
    simp [rn, e']
  have u1 : sAsg 7 (ev2 (ev2 (fVar 4) (ev2 (ev2 (fVar 6) (fD (.int 36)) (binop .fdiv)) (fBlt (evA [(fVar 4)]) bLen) (binop .mod)) ixv) (ev2 (fD (.int 10)) (fD (.int 30)) (binop .pow)) (binop .mod)) ⟨[x0, rn, so F, si mk, LL, some (.v v), si y, x7, x8, x9, x10, x11], s1⟩ = .ok .nx ⟨[x0, rn, so F, si mk, LL, some (.v v), si y, si X, x8, x9, x10, x11], s1⟩ := by
    simp [LL, hd36, hLs, hdl, hat, e30, hd, hL, X]
  obtain ⟨st, hst, hat2⟩ : ∃ st : Nat, (st : Int) ≤ 10 ^ 30 ∧ atI [D.int 0, .int (y / 4 % 9), .int (y / 4 % 300), .int X] (y % 4) = some (.int st) := by
    have h4 : y % 4 = 0 ∨ y % 4 = 1 ∨ y % 4 = 2 ∨ y % 4 = 3 := by omega
    rcases h4 with h | h | h | h <;> rw [h]
    · exact ⟨0, by omega, rfl⟩
    · exact ⟨(y / 4 % 9).toNat, by omega, by rw [Int.toNat_of_nonneg (by omega)]; rfl⟩
    · exact ⟨(y / 4 % 300).toNat, by omega, by rw [Int.toNat_of_nonneg (by omega)]; rfl⟩
    · exact ⟨X.toNat, by rw [Int.toNat_of_nonneg h10.1]; exact Int.le_of_lt h10.2, by rw [Int.toNat_of_nonneg h10.1]; rfl⟩
  let q : Nat := (mk + 1 + st).toNat
  have hq : (q : Int) = mk + 1 + st := Int.toNat_of_nonneg (by omega)
  have z4 : (4 : Nat) ≤ sizeLine := small _ (by omega)
  have u2 : sAsg 3 (ev2 (ev2 (fVar 3) (fD (.int 1)) (binop .add)) (ev2 (fLst [(fD (.int 0)), (ev2 (ev2 (fVar 6) (fD (.int 4)) (binop .fdiv)) (fD (.int 9)) (binop .mod)), (ev2 (ev2 (fVar 6) (fD (.int 4)) (binop .fdiv)) (fD (.int 300)) (binop .mod)), (fVar 7)]) (ev2 (fVar 6) (fD (.int 4)) (binop .mod)) ixv) (binop .add)) ⟨[x0, rn, so F, si mk, LL, some (.v v), si y, si X, x8, x9, x10, x11], s1⟩ = .ok .nx ⟨[x0, rn, so F, si q, LL, some (.v v), si y, si X, x8, x9, x10, x11], s1⟩ := by
    simp [hd4, hd9, hd300, z4, hat2, hq]
  have u3 : sAsg 8 (fLst []) ⟨[x0, rn, so F, si q, LL, some (.v v), si y, si X, x8, x9, x10, x11], s1⟩ = .ok .nx ⟨[x0, rn, so F, si q, LL, some (.v v), si y, si X, so [], x9, x10, x11], s1⟩ := by simp
  have u4 : sAsg 9 (fNeg (fD (.int 1))) ⟨[x0, rn, so F, si q, LL, some (.v v), si y, si X, so [], x9, x10, x11], s1⟩ = .ok .nx ⟨[x0, rn, so F, si q, LL, some (.v v), si y, si X, so [], si (-1), x10, x11], s1⟩ := by simp
  obtain ⟨w, hw, hwl⟩ : ∃ w : Nat, 1 + y2 % 4 = (w : Int) ∧ 1 ≤ w ∧ w ≤ 4 := ⟨(1 + y2 % 4).toNat, by omega, by omega⟩
  obtain ⟨S, l3, y9, y10, y11, g1, g2, g3, ef⟩ := in_all n x0 (so F) (si q) LL (some (.v v)) (si y) (si X) ((List.range w).map vN) [] (-1) (by omega) l2 p2 (by simp; omega) x10 x11 s2 hn2
  simp only [List.length_map, List.length_range, List.map_nil, List.nil_append] at g1 ef
  have u5 : sFor (.nm 10) (SrcK (evA [(ev2 (fD (.int 1)) (ev2 (fCall 1 (evA [(fVar 1)]) g__law_pop) (fD (.int 4)) (binop .mod)) (binop .add))]) kRng1) lp__law_postings_0 ⟨[x0, rn, so F, si q, LL, some (.v v), si y, si X, so [], si (-1), x10, x11], s1⟩ = .ok .nx ⟨[x0, rn, so F, si q, LL, some (.v v), si y, si X, so (S.map vN), y9, y10, y11], s2.set n (.lst (l3.map vI))⟩ := by
    have hr := rngOf_nat (n := w) (by omega) (⟨[x0, rn, so F, si q, LL, some (.v v), si y, si X, so [], si (-1), x10, x11], s2⟩)
    have hsrc : SrcK (evA [(ev2 (fD (.int 1)) (ev2 (fCall 1 (evA [(fVar 1)]) g__law_pop) (fD (.int 4)) (binop .mod)) (binop .add))]) kRng1 ⟨[x0, rn, so F, si q, LL, some (.v v), si y, si X, so [], si (-1), x10, x11], s1⟩ = .ok ((List.range w).map vN) ⟨[x0, rn, so F, si q, LL, some (.v v), si y, si X, so [], si (-1), x10, x11], s2⟩ := by
      simp only [rn] at hr ⊢
      simp [e2', hd4, hw, hr]
      intro a _
      rfl
    rw [e_for, hsrc, Res.bind_ok]
    exact ef
  have u6 : sExpr (fMt "list" (fVar 2) (evA [(fTup [(fVar 3), (fVar 8)])]) bAppend tyLst) ⟨[x0, rn, so F, si q, LL, some (.v v), si y, si X, so (S.map vN), y9, y10, y11], s2.set n (.lst (l3.map vI))⟩ = .ok .nx ⟨[x0, rn, so (F ++ [.d (poD (q, S))]), si q, LL, some (.v v), si y, si X, sd (.lst (S.map fun (x : Nat) => .int (x : Int))), y9, y10, y11], s2.set n (.lst (l3.map vI))⟩ := by
    have z : F.length < sizeLine := small' _ (by omega)
    have z2 : (2 : Nat) ≤ sizeLine := small _ (by omega)
    have hD := toDs_vN S
    simp [z, z2, hD, poD]
  have hb : lp__law_postings_1 ⟨[x0, rn, so F, si mk, LL, some (.v v), x6, x7, x8, x9, x10, x11], sto⟩ = .ok .nx ⟨[x0, rn, so (F ++ [.d (poD (q, S))]), si q, LL, some (.v v), si y, si X, sd (.lst (S.map fun (x : Nat) => .int (x : Int))), y9, y10, y11], s2.set n (.lst (l3.map vI))⟩ :=
    (seq_nx u0).trans ((seq_nx u1).trans ((seq_nx u2).trans ((seq_nx u3).trans ((seq_nx u4).trans ((seq_nx u5).trans (seq_nx (r := []) u6))))))
  refine ⟨(q, S), l3, si y, si X, sd (.lst (S.map fun (x : Nat) => .int (x : Int))), y9, y10, y11, by simp only; omega, by simp only; omega, ⟨g2, by simp only; omega, by simp only; omega⟩, g3, ?_⟩
  simp only [rn, LL] at hb
  simp only [s2, s1, set2] at hb
  simp [hb]
end K12
namespace K12
open PySem L2 PyProof.Rows Vw Br
theorem out_all (n : Nat) (x0 : Option Sl) (L : List Int) (hL : 0 < L.length) (hLz : L.length ≤ 1000) : ∀ (vs : List Val) (F : List Val) (mk : Int) (hmk : -1 ≤ mk) (l : List Int) (hl : ∀ x ∈ l, 0 ≤ x) (hz : F.length + vs.length ≤ 1000) (x5 x6 x7 x8 x9 x10 x11 : Option Sl) (sto : List Ob) (hn : sto[n]? = some (.lst (l.map vI))),
    ∃ (Q : Po) (l' : List Int) (y3 y5 y6 y7 y8 y9 y10 y11 : Option Sl), Q.length = vs.length ∧ SP mk Q ∧ (∀ x ∈ l', 0 ≤ x) ∧
      sForI (.nm 5) lp__law_postings_1 vs ⟨[x0, some (.v (.r n)), so F, si mk, so (L.map vI), x5, x6, x7, x8, x9, x10, x11], sto⟩ = .ok .nx ⟨[x0, some (.v (.r n)), so (F ++ Q.map fun p => .d (poD p)), y3, so (L.map vI), y5, y6, y7, y8, y9, y10, y11], sto.set n (.lst (l'.map vI))⟩
  | [], F, mk, hmk, l, hl, hz, x5, x6, x7, x8, x9, x10, x11, sto, hn => ⟨[], l, si mk, x5, x6, x7, x8, x9, x10, x11, rfl, trivial, hl, by simp [sForI, set_same hn]⟩
  | v :: vs, F, mk, hmk, l, hl, hz, x5, x6, x7, x8, x9, x10, x11, sto, hn => by
    simp only [List.length_cons] at hz
    obtain ⟨p, l1, y6, y7, y8, y9, y10, y11, h1, h2, h3, h4, e1⟩ := out_turn n x0 L hL hLz F mk hmk l hl (by omega) v x5 x6 x7 x8 x9 x10 x11 sto hn
    obtain ⟨Q, l2, z3, z5, z6, z7, z8, z9, z10, z11, g1, g2, g3, e2⟩ := out_all n x0 L hL hLz vs (F ++ [.d (poD p)]) p.1 (by omega) l1 h4 (by simp; omega) (some (.v v)) y6 y7 y8 y9 y10 y11 _ (set_at' hn)
    refine ⟨p :: Q, l2, z3, z5, z6, z7, z8, z9, z10, z11, by simp [g1], ⟨h1, h2, h3, g2⟩, g3, ?_⟩
    rw [forc_trn e1, e2, set2]
    simp
theorem law_postings (ns : List Int) (hl : ns.length ≤ 63) (n : Nat) (l : List Int) (hp : ∀ x ∈ l, 0 ≤ x) (sto : List Ob) (hn : sto[n]? = some (.lst (l.map vI))) :
    ∃ (Q : Po) (l' : List Int), Q.length ≤ 4 ∧ SP (-1) Q ∧ (∀ x ∈ l', 0 ≤ x) ∧ g__law_postings [scrV ns, .r n] sto = .ok (.new (.lst (Q.map fun p => .d (poD p)))) ⟨[], sto.set n (.lst (l'.map vI))⟩ := by
  obtain ⟨y, l1, y0, p1, e⟩ := Sh.pop l hp n sto hn
  let s1 := sto.set n (.lst (l1.map vI))
  have hn1 : s1[n]? = some (.lst (l1.map vI)) := set_at' hn
  have e' : g__law_pop [.r n] sto = .ok (.val (vI y)) ⟨[], s1⟩ := e
  let a0 : Option Sl := some (.v (scrV ns))
  let rn : Option Sl := some (.v (.r n))
  generalize hT : ns.take 63 = T
  have hTl : T.length ≤ 63 := by rw [← hT]; simp; omega
  let L : List Int := T ++ [1]
  have hL : L.length ≤ 64 ∧ 0 < L.length := by simp [L]; omega
  have hd5 : DivB 5 = true := divB (by omega) (by omega)
  have t0 : t__law_postings_0 ⟨[a0, rn, none, none, none, none, none, none, none, none, none, none], sto⟩ = .ok .nx ⟨[a0, rn, so [], none, none, none, none, none, none, none, none, none], sto⟩ := by simp [t__law_postings_0]
  have t1 : t__law_postings_1 ⟨[a0, rn, so [], none, none, none, none, none, none, none, none, none], sto⟩ = .ok .nx ⟨[a0, rn, so [], si (-1), none, none, none, none, none, none, none, none], sto⟩ := by simp [t__law_postings_1]
  have t2 : t__law_postings_2 ⟨[a0, rn, so [], si (-1), none, none, none, none, none, none, none, none], sto⟩ = .ok .nx ⟨[a0, rn, so [], si (-1), so (L.map vI), none, none, none, none, none, none, none], sto⟩ := by
    have hcut : ∀ F : Int → Val, cutL (ns.map F) none (some 63) = T.map F := fun F => by rw [cutL_map, ← hT]; congr 1; exact Sh.cutL_take ns 63
    have h1s : (1 : Nat) ≤ sizeLine := small _ (by omega)
    have hsz : T.length + 1 ≤ sizeLine := small _ (by omega)
    simp [t__law_postings_2, a0, scrV, hcut, h1s, hsz, Function.comp_def, L]
  obtain ⟨w, hw, hwl⟩ : ∃ w : Nat, y % 5 = (w : Int) ∧ w ≤ 4 := ⟨(y % 5).toNat, by omega, by omega⟩
  obtain ⟨Q, l2, y3, y5, y6, y7, y8, y9, y10, y11, g1, g2, g3, ef⟩ := out_all n a0 L hL.2 (by omega) ((List.range w).map vN) [] (-1) (by omega) l1 p1 (by simp; omega) none none none none none none none s1 hn1
  simp only [List.length_map, List.length_range, List.nil_append] at g1 ef
  have t3 : t__law_postings_3 ⟨[a0, rn, so [], si (-1), so (L.map vI), none, none, none, none, none, none, none], sto⟩ = .ok .nx ⟨[a0, rn, so (Q.map fun p => .d (poD p)), y3, so (L.map vI), y5, y6, y7, y8, y9, y10, y11], s1.set n (.lst (l2.map vI))⟩ := by
    have hr := rngOf_nat (n := w) (by omega) (⟨[a0, rn, so [], si (-1), so (L.map vI), none, none, none, none, none, none, none], s1⟩)
    have hsrc : SrcK (evA [(ev2 (fCall 1 (evA [(fVar 1)]) g__law_pop) (fD (.int 5)) (binop .mod))]) kRng1 ⟨[a0, rn, so [], si (-1), so (L.map vI), none, none, none, none, none, none, none], sto⟩ = .ok ((List.range w).map vN) ⟨[a0, rn, so [], si (-1), so (L.map vI), none, none, none, none, none, none, none], s1⟩ := by
      simp only [rn] at hr ⊢
      simp [e', hd5, hw, hr]
      intro a _
      rfl
    rw [t__law_postings_3, e_for, hsrc, Res.bind_ok]
    exact ef
  have t4 : t__law_postings_4 ⟨[a0, rn, so (Q.map fun p => .d (poD p)), y3, so (L.map vI), y5, y6, y7, y8, y9, y10, y11], s1.set n (.lst (l2.map vI))⟩ = .ok (.ret (.own 2)) ⟨[a0, rn, so (Q.map fun p => .d (poD p)), y3, so (L.map vI), y5, y6, y7, y8, y9, y10, y11], s1.set n (.lst (l2.map vI))⟩ := by
    simp [t__law_postings_4]
  refine ⟨Q, l2, by omega, g2, g3, ?_⟩
  have h := fn_at (n := 12) (b := b__law_postings) (args := [scrV ns, .r n]) (st := sto) rfl ((seq_nx t0).trans ((seq_nx t1).trans ((seq_nx t2).trans ((seq_nx t3).trans (seq_end (r := []) t4))))) rfl
  rw [show (s1.set n (.lst (l2.map vI))) = sto.set n (.lst (l2.map vI)) from set2 _ _ _ _] at h
  exact h
theorem SI_S : ∀ (l : List Nat) (a : Nat), SI a l → a + 301 * l.length < 128 ^ 50 → IncS a l
  | [], a, h, hz => trivial
  | p :: l, a, h, hz => by
    simp only [List.length_cons] at hz
    have h1 := h.1
    have h2 := h.2.1
    exact ⟨by omega, by omega, SI_S l p h.2.2 (by omega)⟩
theorem IncS_Inc : ∀ (l : List Nat) (a : Nat), IncS a l → Inc a l
  | [], a, h => trivial
  | p :: l, a, h => ⟨Nat.le_of_lt h.1, h.2.1, IncS_Inc l p h.2.2⟩
theorem SI_Stp {l : List Nat} (h : SI (-1) l) (hl : l.length ≤ 4) : Stp [] 0 l ∧ Inc 0 l := by
  cases l with
  | nil => exact ⟨trivial, trivial⟩
  | cons p l =>
    simp only [List.length_cons] at hl
    have h1 := h.1
    have h2 := h.2.1
    have h3 := SI_S l p h.2.2 (by omega)
    exact ⟨⟨.inl rfl, by omega, by omega, h3⟩, by omega, by omega, IncS_Inc l p h3⟩
theorem SP_S (K : Nat) (hK : (10 : Int) ^ 31 ≤ K) (l : Po) : ∀ (a : Nat), SP a l → a + K * l.length < 128 ^ 50 → StpS a l ∧ IncP a l := by
  induction l with
  | nil => intro a h hz; exact ⟨trivial, trivial⟩
  | cons p l ih =>
    intro a h hz
    rw [List.length_cons, Nat.mul_succ] at hz
    have h1 := h.1
    have h2 := h.2.1
    obtain ⟨h3, h4, h5⟩ := h.2.2.1
    have hpa : p.1 ≤ a + K := by
      have : (p.1 : Int) ≤ a + K := Int.le_trans h2 (by omega)
      omega
    obtain ⟨k1, k2⟩ := ih p.1 h.2.2.2 (by omega)
    obtain ⟨j1, j2⟩ := SI_Stp h3 h5
    have hb : p.1 < 128 ^ 50 := by omega
    exact ⟨⟨by omega, ⟨hb, j1, by omega, by omega⟩, k1⟩, by omega, hb, ⟨j2, by omega⟩, k2⟩
theorem SP_ok {l : Po} (h : SP (-1) l) (hl : l.length ≤ 4) : StpP true 0 l ∧ IncP 0 l := by
  cases l with
  | nil => exact ⟨trivial, trivial⟩
  | cons p l =>
    simp only [List.length_cons] at hl
    have h1 := h.1
    have h2 := h.2.1
    obtain ⟨h3, h4, h5⟩ := h.2.2.1
    have hl3 : l.length ≤ 3 := by omega
    have hm : 10 ^ 31 * l.length ≤ 10 ^ 31 * 3 := Nat.mul_le_mul_left _ hl3
    obtain ⟨k1, k2⟩ := SP_S (10 ^ 31) (by omega) l p.1 h.2.2.2 (by omega)
    obtain ⟨j1, j2⟩ := SI_Stp h3 h5
    have hb : p.1 < 128 ^ 50 := by omega
    exact ⟨⟨.inl rfl, by omega, ⟨hb, j1, by omega, by omega⟩, k1⟩, by omega, hb, ⟨j2, by omega⟩, k2⟩
end K12
namespace K12
open PySem L2 PyProof.Rows Vw Br
theorem okDs_int : ∀ l : List Nat, Sh.okDs (l.map fun (b : Nat) => D.int (b : Int)) = true
  | [] => rfl
  | b :: l => by
    show (true && Sh.okDs (l.map fun (b : Nat) => D.int (b : Int))) = true
    rw [okDs_int l]; rfl
theorem dle_int (n : Nat) (b : Int) : dle n (.int b) = true := by cases n <;> rfl
theorem dles_int (n : Nat) : ∀ l : List Nat, dles n (l.map fun (b : Nat) => D.int (b : Int)) = true
  | [] => rfl
  | b :: l => by
    show (dle n (.int b) && dles n (l.map fun (b : Nat) => D.int (b : Int))) = true
    rw [dle_int, dles_int n l]; rfl
theorem plDs_int : ∀ l : List Nat, plDs (l.map fun (b : Nat) => D.int (b : Int)) = true
  | [] => rfl
  | b :: l => by
    show (true && plDs (l.map fun (b : Nat) => D.int (b : Int))) = true
    rw [plDs_int l]; rfl
def li (l : List Nat) : D := .lst (l.map fun (b : Nat) => .int (b : Int))
theorem ok_li {l : List Nat} (h : l.length ≤ 100000) : Sh.okD (li l) = true := by
  show (decide ((l.map fun (b : Nat) => D.int (b : Int)).length ≤ 100000) && Sh.okDs (l.map fun (b : Nat) => D.int (b : Int))) = true
  rw [okDs_int, decide_eq_true (by rw [List.length_map]; exact h)]; rfl
def due (a b : List Nat) : D := .lst [li a, li b]
theorem alike_due {a b : List Nat} (ha : a.length ≤ 100000) (hb : b.length ≤ 100000) : ∃ s, Sh.g__law_alike 8 [.d (due a b), .d (due a b)] [] = .ok (.val (.d (.bl true))) s :=
  Sh.alike 7 (due a b) (by
    show (true && (Sh.okD (li a) && (Sh.okD (li b) && true))) = true
    rw [ok_li ha, ok_li hb]; rfl) (by
    show (dles 5 (a.map fun (b : Nat) => D.int (b : Int)) && (dles 5 (b.map fun (b : Nat) => D.int (b : Int)) && true)) = true
    rw [dles_int, dles_int]; rfl)
theorem pl_due (a b : List Nat) : plD (due a b) = true := by
  show (plDs (a.map fun (b : Nat) => D.int (b : Int)) && (plDs (b.map fun (b : Nat) => D.int (b : Int)) && true)) = true
  rw [plDs_int, plDs_int]; rfl
theorem dl_due (a b : List Nat) : dle 7 (due a b) = true := by
  show (dles 5 (a.map fun (b : Nat) => D.int (b : Int)) && (dles 5 (b.map fun (b : Nat) => D.int (b : Int)) && true)) = true
  rw [dles_int, dles_int]; rfl
def qd (Q : Po) : D := .lst (Q.map poD)
theorem okDs_q : ∀ Q : Po, (∀ p ∈ Q, p.2.length ≤ 100) → Sh.okDs (Q.map poD) = true
  | [], _ => rfl
  | p :: Q, h => by
    show ((true && (true && (Sh.okD (li p.2) && true))) && Sh.okDs (Q.map poD)) = true
    rw [ok_li (by have := h p (by simp); omega), okDs_q Q fun p hp => h p (by simp [hp])]; rfl
theorem dles_q : ∀ Q : Po, dles 6 (Q.map poD) = true
  | [] => rfl
  | p :: Q => by
    show ((true && (dles 4 (p.2.map fun (b : Nat) => D.int (b : Int)) && true)) && dles 6 (Q.map poD)) = true
    rw [dles_int, dles_q Q]; rfl
theorem plDs_q : ∀ Q : Po, plDs (Q.map poD) = true
  | [] => rfl
  | p :: Q => by
    show ((true && (plDs (p.2.map fun (b : Nat) => D.int (b : Int)) && true)) && plDs (Q.map poD)) = true
    rw [plDs_int, plDs_q Q]; rfl
theorem alike_q {Q : Po} (h : Q.length ≤ 100) (h2 : ∀ p ∈ Q, p.2.length ≤ 100) : ∃ s, Sh.g__law_alike 8 [.d (qd Q), .d (qd Q)] [] = .ok (.val (.d (.bl true))) s :=
  Sh.alike 7 (qd Q) (by
    show (decide ((Q.map poD).length ≤ 100000) && Sh.okDs (Q.map poD)) = true
    rw [okDs_q Q h2, decide_eq_true (by rw [List.length_map]; omega)]; rfl) (dles_q Q)
theorem frzL_N (k : Nat) (s : State) : ∀ l : List Nat, frzL (frz k s) (l.map vN) = some (l.map fun (b : Nat) => D.int (b : Int))
  | [] => rfl
  | b :: l => by
    have e : frz k s (vN b) = some (.int (b : Int)) := by cases k <;> rfl
    rw [List.map_cons, frzL, e, frzL_N k s l]
    rfl
theorem frz_ls (k : Nat) (s : State) {j : Nat} {l : List Nat} (h : s.st[j]? = some (.lst (l.map vN))) : frz (k + 1) s (.r j) = some (li l) := by
  show (match s.st[j]? with
    | some o => frzO (frz k s) o
    | none => none) = _
  rw [h]
  show (frzL (frz k s) (l.map vN)).map D.lst = _
  rw [frzL_N]
  rfl
theorem frz_tps (k : Nat) (s : State) : ∀ (Q : Po) (b : Nat), (∀ i p, Q[i]? = some p → s.st[b + i]? = some (lsO p)) → frzL (frz (k + 2) s) (tps b Q) = some (Q.map poD)
  | [], b, h => rfl
  | p :: Q, b, h => by
    have e1 : frz (k + 1) s (.r b) = some (li p.2) := frz_ls k s (by have := h 0 p rfl; simpa [lsO] using this)
    have e2 : frz (k + 2) s (.tp [.d (.int (p.1 : Int)), .r b]) = some (poD p) := by
      show (frzL (frz (k + 1) s) [.d (.int (p.1 : Int)), .r b]).map D.tup = _
      have e0 : frz (k + 1) s (.d (.int (p.1 : Int))) = some (.int (p.1 : Int)) := rfl
      rw [frzL, e0, frzL, e1]
      rfl
    have e3 := frz_tps k s Q (b + 1) fun i p' hp => by
      have := h (i + 1) p' (by simpa using hp)
      rw [show b + 1 + i = b + (i + 1) by omega]; exact this
    rw [tps, frzL, e2, e3]
    rfl
theorem frz_told (s : State) {T b : Nat} {Q : Po} (hT : s.st[T]? = some (.lst (tps b Q))) (h : ∀ i p, Q[i]? = some p → s.st[b + i]? = some (lsO p)) : frz 6 s (.r T) = some (qd Q) := by
  show (match s.st[T]? with
    | some o => frzO (frz 5 s) o
    | none => none) = _
  rw [hT]
  show (frzL (frz 5 s) (tps b Q)).map D.lst = _
  rw [frz_tps 3 s Q b h]
  rfl
theorem eqQ_same {s : State} {x y : RV} {d : D} (p : plD d = true) (h : dle 7 d = true) (e1 : pvQ 6 s x = some d) (e2 : pvQ 6 s y = some d) : fCmpD 6 true x y s = okv (.bl false) s := by
  obtain ⟨h1, h2⟩ := deq_refl 7 (by omega) p h
  have e : eqQ 6 s x y = some true := by
    unfold eqQ
    rw [e1, e2]
    dsimp only
    rw [if_pos h1, h2]
  unfold fCmpD
  rw [e]
  rfl
theorem look2D {a b x : D} {m : Nat} {g : Vw.Fn} {s s1 s2 : State} {ra rb : RV} {fs : State → Res (List RV)} (h : fs s = .ok [ra, rb] s1) (h1 : pvQ m s1 ra = some a) (h2 : pvQ m s1 rb = some b) (hg : g [.d a, .d b] [] = .ok (.val (.d x)) s2) (hx : scal x = true) :
    fLookD m 2 fs g s = .ok (.val (.d x)) s1 := by
  have e : pvQs m s1 [ra, rb] = some [a, b] := by simp [pvQs, h1, h2]
  unfold fLookD
  rw [h, Res.bind_ok, e]
  have e2 : g ([a, b].map Val.d) [] = .ok (.val (.d x)) s2 := hg
  simp only [e2, hx, List.length_cons, List.length_nil, if_true]
theorem lp0 (sg : Slots) (v9 v10 : Option Sl) (j : Nat) (l : List Val) (hl : l.length < 100000) (h10 : sg[10]? = some (some (.v (.r j)))) (sto : List Ob) (hj : sto[j]? = some (.lst l)) : lp_law_0 ⟨sg, sto⟩ = .ok .nx ⟨sg, sto.set j (.lst (l ++ [vI 99]))⟩ := by
  have z : l.length < sizeLine := small' _ (by omega)
  simp [lp_law_0, h10, hj, z]
@[simp] theorem e_tvtp (s : State) (l : List Val) : tv s (.val (.tp l)) = some l := id rfl
theorem told_all (x0 x1 x2 x3 x4 x5 x6 x7 x8 : Option Sl) (T : Nat) (L : List Val) : ∀ (Q : Po) (b : Nat) (y9 y10 : Option Sl) (sto : List Ob), b + Q.length ≤ T → sto[T]? = some (.lst L) → (∀ i p, Q[i]? = some p → sto[b + i]? = some (lsO p) ∧ p.2.length ≤ 100) →
    ∃ z9 z10 sto', sto'[T]? = some (.lst L) ∧ sForSI T L (.tp [.nm 9, .nm 10]) lp_law_0 (tps b Q) ⟨[x0, x1, x2, x3, x4, x5, x6, x7, x8, y9, y10], sto⟩ = .ok .nx ⟨[x0, x1, x2, x3, x4, x5, x6, x7, x8, z9, z10], sto'⟩
  | [], b, y9, y10, sto, hb, hT, hQ => by
    refine ⟨y9, y10, sto, hT, ?_⟩
    rw [tps, sForSI, if_pos hT]
  | p :: Q, b, y9, y10, sto, hb, hT, hQ => by
    simp only [List.length_cons] at hb
    obtain ⟨h1, h2⟩ := hQ 0 p rfl
    simp only [Nat.add_zero] at h1
    have ha : asgT (.tp [.nm 9, .nm 10]) (.tp [.d (.int (p.1 : Int)), .r b]) ⟨[x0, x1, x2, x3, x4, x5, x6, x7, x8, y9, y10], sto⟩ = some ⟨[x0, x1, x2, x3, x4, x5, x6, x7, x8, si p.1, some (.v (.r b))], sto⟩ := by
      simp
    have hb0 := lp0 [x0, x1, x2, x3, x4, x5, x6, x7, x8, si p.1, some (.v (.r b))] none none b (p.2.map vN) (by simp; omega) rfl sto h1
    let s1 := sto.set b (.lst (p.2.map vN ++ [vI 99]))
    have hT1 : s1[T]? = some (.lst L) := by simp only [s1]; rw [List.getElem?_set_ne (by omega)]; exact hT
    obtain ⟨z9, z10, sto', k1, k2⟩ := told_all x0 x1 x2 x3 x4 x5 x6 x7 x8 T L Q (b + 1) (si p.1) (some (.v (.r b))) s1 (by omega) hT1 fun i p' hp => by
      have := hQ (i + 1) p' (by simpa using hp)
      refine ⟨?_, this.2⟩
      simp only [s1]
      rw [List.getElem?_set_ne (by omega), show b + 1 + i = b + (i + 1) by omega]
      exact this.1
    refine ⟨z9, z10, sto', k1, ?_⟩
    rw [tps, sForSI, if_pos hT, ha]
    dsimp only
    rw [hb0]
    exact k2
def H5 (b : Bool) (Q : Po) : Option Sl := if b then so (Q.map fun p => .d (poD p)) else sd (qd Q)
theorem pv5 (b : Bool) (Q : Po) (sg : Slots) (sto : List Ob) (h : sg[5]? = some (sd (qd Q))) : pvQ 6 ⟨sg, sto⟩ (.val (.d (qd Q))) = some (qd Q) := rfl
theorem pvQ_own {n i : Nat} {sg : Slots} {sto : List Ob} {l : List Val} (h : sg[i]? = some (some (.own (.lst l)))) : pvQ n ⟨sg, sto⟩ (.own i) = (frzL (frz n ⟨sg, sto⟩) l).map .lst := by
  unfold pvQ nrm
  simp [h]
  rfl
theorem turn (a0 r0 : Option Sl) (Q : Po) (t : List Nat) (hQ : Q.length ≤ 4) (hsp : SP (-1) Q) (ht : t.length ≤ 130) (hts : ∀ c ∈ t, c ∈ SIGNS) (b5 : Bool) (TB PB : List Nat) (eTB : nb t.length ++ t = TB) (ePB : nb Q.length ++ pB 0 Q = PB) (x6 x7 x8 x9 x10 : Option Sl) (v : Val) (sto : List Ob) :
    ∃ z6 z7 z8 z9 z10 sto', trn (.nm 6) lp_law_1 v ⟨[a0, r0, sd (qd Q), sd (.str t), so [.d (li TB), .d (li PB)], H5 b5 Q, x6, x7, x8, x9, x10], sto⟩ = .ok .nx ⟨[a0, r0, sd (qd Q), sd (.str t), so [.d (li TB), .d (li PB)], H5 false Q, z6, z7, z8, z9, z10], sto'⟩ := by
  obtain ⟨q1, q2⟩ := SP_ok hsp hQ
  have hTB : TB.length ≤ 1000 := by have := nb_len (n := t.length) (by omega); rw [← eTB]; simp; omega
  have hpl := pB_len Q 0 q2
  have hPB : PB.length ≤ 100000 := by have := nb_len (n := Q.length) (by omega); rw [← ePB]; simp; omega
  have hQ2 : ∀ p ∈ Q, p.2.length ≤ 100 := by
    have : ∀ (l : Po) (a : Nat), IncP a l → ∀ p ∈ l, p.2.length ≤ 100 := fun l => by
      induction l with
      | nil => intro a h p hp; simp at hp
      | cons x l ih =>
        intro a h p hp
        rcases List.mem_cons.mp hp with rfl | hp
        · exact h.2.2.1.2
        · exact ih _ h.2.2.2 p hp
    exact this Q 0 q2
  let b := sto.length
  let DU : Option Sl := so [.d (li TB), .d (li PB)]
  let s1 := sto ++ [Ob.lst (TB.map vN), .lst (PB.map vN)]
  let G (f7 f8 y9 y10 : Option Sl) : Slots := [a0, r0, sd (qd Q), sd (.str t), DU, sd (qd Q), some (.v v), f7, f8, y9, y10]
  let F7 : Option Sl := so [.r b, .r (b + 1)]
  have e1 := Br.text_bytes t (by omega) sto
  have e2 := Br.postings_bytes Q q2 (by omega) (sto ++ [Ob.lst (TB.map vN)])
  rw [eTB] at e1
  rw [ePB] at e2
  have z2 : (2 : Nat) ≤ sizeLine := small _ (by omega)
  have v0 : sAsg 7 (fLst [(fAl (fCall 1 (evA [(fVar 3)]) g_text_bytes)), (fAl (fCall 1 (evA [(fVar 5)]) g_postings_bytes))]) ⟨[a0, r0, sd (qd Q), sd (.str t), DU, H5 b5 Q, some (.v v), x7, x8, x9, x10], sto⟩ = .ok .nx ⟨G F7 x8 x9 x10, s1⟩ := by
    have hq : toDs (Q.map fun p => .d (poD p)) = some (Q.map poD) := by
      have : ∀ l : Po, toDs (l.map fun p => .d (poD p)) = some (l.map poD) := fun l => by
        induction l with
        | nil => rfl
        | cons p l ih => rw [List.map_cons, toDs, ih]; rfl
      exact this Q
    have e2' : Br.g_postings_bytes [.d (qd Q)] (sto ++ [Ob.lst (TB.map vN)]) = .ok (.new (.lst (PB.map vN))) ⟨[], sto ++ [Ob.lst (TB.map vN)]⟩ := e2
    cases b5 with
    | true =>
      simp only [qd] at e2'
      simp [same_tb, same_pb, e1, e2', alR, H5, hq, qd, z2, G, F7, s1, b, DU]
    | false =>
      simp only [qd] at e2'
      simp [same_tb, same_pb, e1, e2', alR, H5, hq, qd, z2, G, F7, s1, b, DU]
  have l1 : s1.length = b + 2 := by simp [s1, b]
  have hb0 : s1[b]? = some (.lst (TB.map vN)) := by simp [s1, b]
  have hb1 : s1[b + 1]? = some (.lst (PB.map vN)) := by simp [s1, b]
  have pdue : ∀ (f8 y9 y10 : Option Sl) (st : List Ob), pvQ 6 ⟨G F7 f8 y9 y10, st⟩ (.own 4) = some (due TB PB) := fun f8 y9 y10 st => by
    rw [pvQ_own (l := [.d (li TB), .d (li PB)]) rfl]
    rfl
  have pfound : ∀ (f8 y9 y10 : Option Sl) (st : List Ob), st[b]? = some (.lst (TB.map vN)) → st[b + 1]? = some (.lst (PB.map vN)) → pvQ 6 ⟨G F7 f8 y9 y10, st⟩ (.own 7) = some (due TB PB) := fun f8 y9 y10 st h1 h2 => by
    rw [pvQ_own (l := [.r b, .r (b + 1)]) rfl, frzL, frz_ls 5 _ h1, frzL, frz_ls 5 _ h2]
    rfl
  -- alike
  obtain ⟨w1, al1⟩ := alike_due (a := TB) (b := PB) (by omega) (by omega)
  have v1 : sIf (fNot (evB (fLookD 6 2 (evA [(fVar 7), (fVar 4)]) (g__law_alike 8)))) (sSeq [(sRet (fD (.bl false)))]) (sSeq []) ⟨G F7 x8 x9 x10, s1⟩ = .ok .nx ⟨G F7 x8 x9 x10, s1⟩ := by
    have hl := look2D (m := 6) (g := g__law_alike 8) (fs := evA [(fVar 7), (fVar 4)]) (s := ⟨G F7 x8 x9 x10, s1⟩) (ra := .own 7) (rb := .own 4) (by simp [G, F7, DU]) (pfound x8 x9 x10 s1 hb0 hb1) (pdue x8 x9 x10 s1) al1 rfl
    have hT : fNot (evB (fLookD 6 2 (evA [(fVar 7), (fVar 4)]) (g__law_alike 8))) ⟨G F7 x8 x9 x10, s1⟩ = .ok false ⟨G F7 x8 x9 x10, s1⟩ := by
      rw [e_not, e_evB, e_ev, hl]
      simp
    rw [e_if, hT, Res.bind_ok, if_neg (by simp), e_seq0]
  -- the postings read
  rw [← ePB] at hb1
  obtain ⟨o, rp⟩ := Br.read_postings (b + 1) Q s1 hb1 q1 (by omega) (by omega)
  rw [ePB] at hb1
  let T := b + 3 + Q.length
  let s2 := s1 ++ [o] ++ Q.map lsO ++ [.lst (tps (b + 3) Q)]
  have rp' : Br.g_read_postings [.r (b + 1)] s1 = .ok (.val (.r T)) ⟨[], s2⟩ := by
    rw [rp, l1]
  let F8 : Option Sl := some (.v (.r T))
  have v2 : sAsg 8 (fCallX 1 (evA [(ev2 (fVar 7) (fD (.int 1)) ixv)]) g_read_postings) ⟨G F7 x8 x9 x10, s1⟩ = .ok .nx ⟨G F7 F8 x9 x10, s2⟩ := by
    have hi : atI [Val.r b, Val.r (b + 1)] 1 = some (.r (b + 1)) := rfl
    simp [G, F7, F8, hi, same_rp, rp']
  have k0 : ∀ i, i < b + 2 → s2[i]? = s1[i]? := fun i hi => by
    simp only [s2]
    rw [List.append_assoc, List.append_assoc, List.getElem?_append_left (by omega)]
  have hlA : (s1 ++ [o] ++ Q.map lsO).length = b + 3 + Q.length := by simp only [List.length_append, List.length_map, List.length_singleton, l1] <;> omega
  have hlB : (s1 ++ [o]).length = b + 3 := by simp only [List.length_append, List.length_singleton, l1]
  have kT : s2[T]? = some (.lst (tps (b + 3) Q)) := by
    simp only [s2, T]
    rw [List.getElem?_append_right (by rw [hlA]; omega), hlA, Nat.sub_self]
    rfl
  have kQ : ∀ i p, Q[i]? = some p → s2[b + 3 + i]? = some (lsO p) := fun i p hp => by
    have hi := (List.getElem?_eq_some_iff.mp hp).1
    simp only [s2]
    rw [List.getElem?_append_left (by rw [hlA]; omega), List.getElem?_append_right (by rw [hlB]; omega), hlB, show b + 3 + i - (b + 3) = i by omega, List.getElem?_map, hp]
    rfl
  have c0 : s2[b]? = some (.lst (TB.map vN)) := by rw [k0 b (by omega)]; exact hb0
  have c1 : s2[b + 1]? = some (.lst (PB.map vN)) := by rw [k0 (b + 1) (by omega)]; exact hb1
  rw [← eTB] at c0
  obtain ⟨o2, rt⟩ := Br.read_text b t s2 c0 hts (by omega)
  rw [eTB] at c0
  let s3 := s2 ++ [o2]
  have up : ∀ i x, s2[i]? = some x → s3[i]? = some x := fun i x h => by
    simp only [s3]
    rw [List.getElem?_append_left (lt_of_get h)]
    exact h
  obtain ⟨w2, al2⟩ := alike_q (Q := Q) (by omega) hQ2
  obtain ⟨w3, al3⟩ : ∃ s, Sh.g__law_alike 8 [.d (.str t), .d (.str t)] [] = .ok (.val (.d (.bl true))) s := Sh.alike 7 (.str t) rfl rfl
  have v3 : sIf (fOr [(fNot (evB (fLookD 6 2 (evA [(fVar 8), (fVar 2)]) (g__law_alike 8)))), (fNot (evB (fLookD 6 2 (evA [(fCallX 1 (evA [(ev2 (fVar 7) (fD (.int 0)) ixv)]) g_read_text), (fVar 3)]) (g__law_alike 8))))]) (sSeq [(sRet (fD (.bl false)))]) (sSeq []) ⟨G F7 F8 x9 x10, s2⟩ = .ok .nx ⟨G F7 F8 x9 x10, s3⟩ := by
    have h1 := look2D (m := 6) (g := g__law_alike 8) (fs := evA [(fVar 8), (fVar 2)]) (s := ⟨G F7 F8 x9 x10, s2⟩) (ra := .val (.r T)) (rb := .val (.d (qd Q))) (by simp [G, F8]) (frz_told ⟨G F7 F8 x9 x10, s2⟩ kT kQ) rfl al2 rfl
    have h2 := look2D (m := 6) (g := g__law_alike 8) (fs := evA [(fCallX 1 (evA [(ev2 (fVar 7) (fD (.int 0)) ixv)]) g_read_text), (fVar 3)]) (s := ⟨G F7 F8 x9 x10, s2⟩) (s1 := ⟨G F7 F8 x9 x10, s3⟩) (ra := .val (.d (.str t))) (rb := .val (.d (.str t))) (by
      have hi : atI [Val.r b, Val.r (b + 1)] 0 = some (.r b) := rfl
      simp [G, F7, hi, same_rt, rt, s3]) rfl rfl al3 rfl
    have n1 : fNot (evB (fLookD 6 2 (evA [(fVar 8), (fVar 2)]) (g__law_alike 8))) ⟨G F7 F8 x9 x10, s2⟩ = .ok false ⟨G F7 F8 x9 x10, s2⟩ := by
      rw [e_not, e_evB, e_ev, h1]
      simp
    have n2 : fNot (evB (fLookD 6 2 (evA [(fCallX 1 (evA [(ev2 (fVar 7) (fD (.int 0)) ixv)]) g_read_text), (fVar 3)]) (g__law_alike 8))) ⟨G F7 F8 x9 x10, s2⟩ = .ok false ⟨G F7 F8 x9 x10, s3⟩ := by
      rw [e_not, e_evB, e_ev, h2]
      simp
    rw [e_if, e_or2, n1, Res.bind_ok, if_neg (by simp), e_or1, n2, Res.bind_ok, if_neg (by simp), e_seq0]
  have v4 : sIf (fOr [(evB (ev2 (fVar 7) (fVar 4) (fCmpD 6 true))), (evB (ev2 (fVar 5) (fVar 2) (fCmpD 6 true)))]) (sSeq [(sRet (fD (.bl false)))]) (sSeq []) ⟨G F7 F8 x9 x10, s3⟩ = .ok .nx ⟨G F7 F8 x9 x10, s3⟩ := by
    have q3 := eqQ_same (s := ⟨G F7 F8 x9 x10, s3⟩) (x := .own 7) (y := .own 4) (pl_due TB PB) (dl_due TB PB) (pfound F8 x9 x10 s3 (up _ _ c0) (up _ _ c1)) (pdue F8 x9 x10 s3)
    have q4 := eqQ_same (s := ⟨G F7 F8 x9 x10, s3⟩) (x := .val (.d (qd Q))) (y := .val (.d (qd Q))) (d := qd Q) (plDs_q Q) (dles_q Q) rfl rfl
    have n1 : evB (ev2 (fVar 7) (fVar 4) (fCmpD 6 true)) ⟨G F7 F8 x9 x10, s3⟩ = .ok false ⟨G F7 F8 x9 x10, s3⟩ := by
      have a1 : ev (fVar 7) ⟨G F7 F8 x9 x10, s3⟩ = .ok (.own 7) ⟨G F7 F8 x9 x10, s3⟩ := by simp [G, F7]
      have a2 : ev (fVar 4) ⟨G F7 F8 x9 x10, s3⟩ = .ok (.own 4) ⟨G F7 F8 x9 x10, s3⟩ := by simp [G, DU]
      rw [e_evB, e_ev, ev2, a1, Res.bind_ok, a2, Res.bind_ok, q3]
      rfl
    have n2 : evB (ev2 (fVar 5) (fVar 2) (fCmpD 6 true)) ⟨G F7 F8 x9 x10, s3⟩ = .ok false ⟨G F7 F8 x9 x10, s3⟩ := by
      have a1 : ev (fVar 5) ⟨G F7 F8 x9 x10, s3⟩ = .ok (.val (.d (qd Q))) ⟨G F7 F8 x9 x10, s3⟩ := by simp [G]
      have a2 : ev (fVar 2) ⟨G F7 F8 x9 x10, s3⟩ = .ok (.val (.d (qd Q))) ⟨G F7 F8 x9 x10, s3⟩ := by simp [G]
      rw [e_evB, e_ev, ev2, a1, Res.bind_ok, a2, Res.bind_ok, q4]
      rfl
    rw [e_if, e_or2, n1, Res.bind_ok, if_neg (by simp), e_or1, n2, Res.bind_ok, if_neg (by simp), e_seq0]
  -- changed all through
  have z7 : TB.length < sizeLine := small' _ (by omega)
  have z8 : PB.length < sizeLine := small' _ (by omega)
  have d0 := up _ _ c0
  have d1 := up _ _ c1
  have dT := up _ _ kT
  let s4 := s3.set b (.lst (TB.map vN ++ [vI 1]))
  let s5 := s4.set (b + 1) (.lst (PB.map vN ++ [vI 1]))
  have v5 : sExpr (fMt "list" (ev2 (fVar 7) (fD (.int 0)) ixv) (evA [(fD (.int 1))]) bAppend tyLst) ⟨G F7 F8 x9 x10, s3⟩ = .ok .nx ⟨G F7 F8 x9 x10, s4⟩ := by
    have hi : atI [Val.r b, Val.r (b + 1)] 0 = some (.r b) := rfl
    simp [G, F7, hi, d0, z7, s4]
  have d1' : s4[b + 1]? = some (.lst (PB.map vN)) := by simp only [s4]; rw [List.getElem?_set_ne (by omega)]; exact d1
  have v6 : sExpr (fMt "list" (ev2 (fVar 7) (fD (.int 1)) ixv) (evA [(fD (.int 1))]) bAppend tyLst) ⟨G F7 F8 x9 x10, s4⟩ = .ok .nx ⟨G F7 F8 x9 x10, s5⟩ := by
    have hi : atI [Val.r b, Val.r (b + 1)] 1 = some (.r (b + 1)) := rfl
    simp [G, F7, hi, d1', z8, s5]
  have keep : ∀ i x, b + 2 ≤ i → s3[i]? = some x → s5[i]? = some x := fun i x hi h => by
    simp only [s5, s4]
    rw [List.getElem?_set_ne (by omega), List.getElem?_set_ne (by omega)]
    exact h
  have f5 : s5[T]? = some (.lst (tps (b + 3) Q)) := keep T _ (by simp only [T]; omega) dT
  obtain ⟨z9, z10, s6, f6, ef⟩ := told_all a0 r0 (sd (qd Q)) (sd (.str t)) DU (sd (qd Q)) (some (.v v)) F7 F8 T (tps (b + 3) Q) Q (b + 3) x9 x10 s5 (by simp only [T]; omega) f5 fun i p hp =>
    ⟨keep _ _ (by omega) (up _ _ (kQ i p hp)), hQ2 p (List.mem_of_getElem? hp)⟩
  have v7 : sForS (.tp [.nm 9, .nm 10]) (fVar 8) lp_law_0 ⟨G F7 F8 x9 x10, s5⟩ = .ok .nx ⟨G F7 F8 z9 z10, s6⟩ := by
    have a1 : ev (fVar 8) ⟨G F7 F8 x9 x10, s5⟩ = .ok (.val (.r T)) ⟨G F7 F8 x9 x10, s5⟩ := by simp [G, F8]
    unfold sForS
    rw [a1, Res.bind_ok]
    show (match s5[T]? with
      | some (.lst l) => sForSI T l (.tp [.nm 9, .nm 10]) lp_law_0 l ⟨G F7 F8 x9 x10, s5⟩
      | _ => .stuck) = _
    rw [f5]
    exact ef
  have v8 : ∃ s7, sExpr (fMt "list" (fVar 8) (evA [(fTup [(fD (.int 1)), (fLst [])])]) bAppend tyLst) ⟨G F7 F8 z9 z10, s6⟩ = .ok .nx ⟨G F7 F8 z9 z10, s7⟩ := by
    have hl : ∀ (q : Po) (k : Nat), (tps k q).length = q.length := fun q => by
      induction q with
      | nil => intro k; rfl
      | cons p q ih => intro k; rw [tps, List.length_cons, ih, List.length_cons]
    have z : (tps (b + 3) Q).length < sizeLine := small' _ (by rw [hl]; omega)
    refine ⟨s6.set T (.lst (tps (b + 3) Q ++ [.d (.tup [.int 1, .lst []])])), ?_⟩
    simp [G, F8, f6, z, z2]
  obtain ⟨s7, v8⟩ := v8
  have hb : lp_law_1 ⟨[a0, r0, sd (qd Q), sd (.str t), DU, H5 b5 Q, some (.v v), x7, x8, x9, x10], sto⟩ = .ok .nx ⟨G F7 F8 z9 z10, s7⟩ :=
    (seq_nx v0).trans ((seq_nx v1).trans ((seq_nx v2).trans ((seq_nx v3).trans ((seq_nx v4).trans ((seq_nx v5).trans ((seq_nx v6).trans ((seq_nx v7).trans (seq_nx (r := []) v8))))))))
  refine ⟨some (.v v), F7, F8, z9, z10, s7, ?_⟩
  have ha : asgT (.nm 6) v ⟨[a0, r0, sd (qd Q), sd (.str t), DU, H5 b5 Q, x6, x7, x8, x9, x10], sto⟩ = some ⟨[a0, r0, sd (qd Q), sd (.str t), DU, H5 b5 Q, some (.v v), x7, x8, x9, x10], sto⟩ := by simp
  rw [e_trn]
  show (match asgT (.nm 6) v ⟨[a0, r0, sd (qd Q), sd (.str t), DU, H5 b5 Q, x6, x7, x8, x9, x10], sto⟩ with
    | some s => cntE (lp_law_1 s)
    | none => .stuck) = _
  rw [ha]
  dsimp only
  rw [hb]
  rfl
theorem law_ok (ns : List Int) (hl : ns.length ≤ 63) : ∃ s, g_law [scrV ns] [] = .ok (.val (.d (.bl true))) s := by
  obtain ⟨ds, d1, d2, d3⟩ := Sh.draws ns 2 160 [] (by omega) (by omega)
  have d3' : Sh.g__law_draws [scrV ns, vI 2, vI 160] [] = .ok (.new (.lst (ds.map vI))) ⟨[], []⟩ := d3
  obtain ⟨Q, l1, hQ, hsp, l1p, e1⟩ := law_postings ns hl 0 ds (fun y hy => (d2 y hy).1) [.lst (ds.map vI)] rfl
  obtain ⟨t, l2, tl, ts, l2p, e2⟩ := Sh.text 130 (by omega) 0 l1 l1p [.lst (l1.map vI)] rfl
  have e1' : g__law_postings [scrV ns, .r 0] [.lst (ds.map vI)] = .ok (.new (.lst (Q.map fun p => .d (poD p)))) ⟨[], [.lst (l1.map vI)]⟩ := e1
  have e2' : Sh.g__law_text [.r 0, vI 130] [.lst (l1.map vI)] = .ok (.val (.d (.str t))) ⟨[], [.lst (l2.map vI)]⟩ := e2
  have hts : ∀ c ∈ t, c ∈ SIGNS := ts
  obtain ⟨q1, q2⟩ := SP_ok hsp hQ
  obtain ⟨TB, eTB⟩ : ∃ TB, nb t.length ++ t = TB := ⟨_, rfl⟩
  obtain ⟨PB, ePB⟩ : ∃ PB, nb Q.length ++ pB 0 Q = PB := ⟨_, rfl⟩
  let a0 : Option Sl := some (.v (scrV ns))
  let r0 : Option Sl := some (.v (.r 0))
  let sto : List Ob := [.lst (l2.map vI)]
  have hq : toDs (Q.map fun p => .d (poD p)) = some (Q.map poD) := by
    have : ∀ l : Po, toDs (l.map fun p => .d (poD p)) = some (l.map poD) := fun l => by
      induction l with
      | nil => rfl
      | cons p l ih => rw [List.map_cons, toDs, ih]; rfl
    exact this Q
  let QO : Option Sl := so (Q.map fun p => .d (poD p))
  let DU : Option Sl := so [.d (li TB), .d (li PB)]
  have z2 : (2 : Nat) ≤ sizeLine := small _ (by omega)
  have t0 : t_law_0 ⟨[a0, none, none, none, none, none, none, none, none, none, none], []⟩ = .ok .nx ⟨[a0, r0, none, none, none, none, none, none, none, none, none], [.lst (ds.map vI)]⟩ := by
    rw [t_law_0, same_draws]
    simp [d3', a0, r0]
  have t1 : t_law_1 ⟨[a0, r0, none, none, none, none, none, none, none, none, none], [.lst (ds.map vI)]⟩ = .ok .nx ⟨[a0, r0, QO, none, none, none, none, none, none, none, none], [.lst (l1.map vI)]⟩ := by
    simp [t_law_1, a0, r0, e1', QO]
  have t2 : t_law_2 ⟨[a0, r0, QO, none, none, none, none, none, none, none, none], [.lst (l1.map vI)]⟩ = .ok .nx ⟨[a0, r0, QO, sd (.str t), none, none, none, none, none, none, none], sto⟩ := by
    rw [t_law_2, same_text]
    simp [r0, e2', sto]
  have b1 := law_text_bytes t hts (by omega) sto
  have b2 := law_postings_bytes Q q2 (by omega) sto
  rw [eTB] at b1
  rw [ePB] at b2
  have t3 : t_law_3 ⟨[a0, r0, QO, sd (.str t), none, none, none, none, none, none, none], sto⟩ = .ok .nx ⟨[a0, r0, sd (qd Q), sd (.str t), DU, none, none, none, none, none, none], sto⟩ := by
    have hD1 := toDs_vN TB
    have hD2 := toDs_vN PB
    simp [t_law_3, QO, b1, b2, hq, hD1, hD2, z2, DU, li, qd]
  have t4 : t_law_4 ⟨[a0, r0, sd (qd Q), sd (.str t), DU, none, none, none, none, none, none], sto⟩ = .ok .nx ⟨[a0, r0, sd (qd Q), sd (.str t), DU, QO, none, none, none, none, none], sto⟩ := by
    have h := lc_fm (vs := [9, 10]) (t := .tp [.nm 9, .nm 10]) (ft := fTrue) (fe := ce_law_0) (s := ⟨[a0, r0, sd (qd Q), sd (.str t), DU, none, none, none, none, none, none], sto⟩) (fun p => .d (poD p)) (fun p => some (.d (poD p))) Q [] (fun p _ => by
      simp [ce_law_0, poD, z2]) (small _ (by simp; omega))
    have z : Q.length ≤ sizeLine := small _ (by omega)
    simp only [qd] at h
    simp [t_law_4, qd, z, h, QO, Function.comp_def]
  obtain ⟨y6, y7, y8, y9, y10, s1, w1⟩ := turn a0 r0 Q t hQ hsp tl hts true TB PB eTB ePB none none none none none (vI 0) sto
  obtain ⟨z6, z7, z8, z9, z10, s2, w2⟩ := turn a0 r0 Q t hQ hsp tl hts false TB PB eTB ePB y6 y7 y8 y9 y10 (vI 1) s1
  have t5 : t_law_5 ⟨[a0, r0, sd (qd Q), sd (.str t), DU, QO, none, none, none, none, none], sto⟩ = .ok .nx ⟨[a0, r0, sd (qd Q), sd (.str t), DU, H5 false Q, z6, z7, z8, z9, z10], s2⟩ := by
    have hr := rngOf_nat (n := 2) (by omega) (⟨[a0, r0, sd (qd Q), sd (.str t), DU, QO, none, none, none, none, none], sto⟩)
    have hsrc : SrcK (evA [(fD (.int 2))]) kRng1 ⟨[a0, r0, sd (qd Q), sd (.str t), DU, QO, none, none, none, none, none], sto⟩ = .ok [vI 0, vI 1] ⟨[a0, r0, sd (qd Q), sd (.str t), DU, QO, none, none, none, none, none], sto⟩ := by
      have e2 : ((2 : Nat) : Int) = 2 := rfl
      rw [e2] at hr
      simp [hr]
      rfl
    rw [t_law_5, e_for, hsrc, Res.bind_ok, forc_trn (s := ⟨[a0, r0, sd (qd Q), sd (.str t), DU, QO, none, none, none, none, none], sto⟩) (s' := ⟨[a0, r0, sd (qd Q), sd (.str t), DU, H5 false Q, y6, y7, y8, y9, y10], s1⟩) w1, forc_trn w2]
    rfl
  have t6 : t_law_6 ⟨[a0, r0, sd (qd Q), sd (.str t), DU, H5 false Q, z6, z7, z8, z9, z10], s2⟩ = .ok (.ret (.val (.d (.bl true)))) ⟨[a0, r0, sd (qd Q), sd (.str t), DU, H5 false Q, z6, z7, z8, z9, z10], s2⟩ := by
    simp [t_law_6]
  exact ⟨_, fn_at (n := 11) (b := b_law) (args := [scrV ns]) (st := []) rfl ((seq_nx t0).trans ((seq_nx t1).trans ((seq_nx t2).trans ((seq_nx t3).trans ((seq_nx t4).trans ((seq_nx t5).trans (seq_end (r := []) t6))))))) rfl⟩
end K12
namespace K12
open PySem L2 PyProof.Rows Vw
def dd__law_draws : He.DefD := ⟨("_law_draws", none), "_law_draws", "_law_draws", defArgs (top 14), defBody (top 14), defScope (top 14), [], []⟩
def dd__law_pop : He.DefD := ⟨("_law_pop", none), "_law_pop", "_law_pop", defArgs (top 15), defBody (top 15), defScope (top 15), [], []⟩
def dd__law_postings : He.DefD := ⟨("_law_postings", none), "_law_postings", "_law_postings", defArgs (top 20), defBody (top 20), defScope (top 20), [], []⟩
def dd__law_signs : He.DefD := ⟨("_law_signs", none), "_law_signs", "_law_signs", defArgs (top 17), defBody (top 17), defScope (top 17), [], []⟩
def dd__law_text : He.DefD := ⟨("_law_text", none), "_law_text", "_law_text", defArgs (top 18), defBody (top 18), defScope (top 18), [], []⟩
def dd__law_number_bytes : He.DefD := ⟨("_law_number_bytes", none), "_law_number_bytes", "_law_number_bytes", defArgs (top 19), defBody (top 19), defScope (top 19), [], []⟩
def dd__law_text_bytes : He.DefD := ⟨("_law_text_bytes", none), "_law_text_bytes", "_law_text_bytes", defArgs (top 22), defBody (top 22), defScope (top 22), [], []⟩
def dd__law_postings_bytes : He.DefD := ⟨("_law_postings_bytes", none), "_law_postings_bytes", "_law_postings_bytes", defArgs (top 21), defBody (top 21), defScope (top 21), [], []⟩
def dd_number_bytes : He.DefD := ⟨("number_bytes", none), "number_bytes", "number_bytes", defArgs (top 6), defBody (top 6), defScope (top 6), [], []⟩
def dd_text_bytes : He.DefD := ⟨("text_bytes", none), "text_bytes", "text_bytes", defArgs (top 7), defBody (top 7), defScope (top 7), [], []⟩
def dd_places_bytes : He.DefD := ⟨("places_bytes", none), "places_bytes", "places_bytes", defArgs (top 8), defBody (top 8), defScope (top 8), [], []⟩
def dd_postings_bytes : He.DefD := ⟨("postings_bytes", none), "postings_bytes", "postings_bytes", defArgs (top 9), defBody (top 9), defScope (top 9), [], []⟩
def dd__law_alike : He.DefD := ⟨("_law_alike", none), "_law_alike", "_law_alike", defArgs (top 16), defBody (top 16), defScope (top 16), [], []⟩
def dd_ByteReader____init__ : He.DefD := ⟨("ByteReader", some "__init__"), "__init__", "ByteReader.__init__", defArgs (mth 10 0), defBody (mth 10 0), defScope (mth 10 0), [], []⟩
def dd_ByteReader__sure : He.DefD := ⟨("ByteReader", some "sure"), "sure", "ByteReader.sure", defArgs (mth 10 1), defBody (mth 10 1), defScope (mth 10 1), [], []⟩
def dd_ByteReader__ended : He.DefD := ⟨("ByteReader", some "ended"), "ended", "ByteReader.ended", defArgs (mth 10 11), defBody (mth 10 11), defScope (mth 10 11), [], []⟩
def dd_ByteReader__next_byte : He.DefD := ⟨("ByteReader", some "next_byte"), "next_byte", "ByteReader.next_byte", defArgs (mth 10 2), defBody (mth 10 2), defScope (mth 10 2), [], []⟩
def dd_ByteReader__next_number : He.DefD := ⟨("ByteReader", some "next_number"), "next_number", "ByteReader.next_number", defArgs (mth 10 3), defBody (mth 10 3), defScope (mth 10 3), [], []⟩
def dd_ByteReader__next_rising : He.DefD := ⟨("ByteReader", some "next_rising"), "next_rising", "ByteReader.next_rising", defArgs (mth 10 4), defBody (mth 10 4), defScope (mth 10 4), [], []⟩
def dd_ByteReader__next_postings : He.DefD := ⟨("ByteReader", some "next_postings"), "next_postings", "ByteReader.next_postings", defArgs (mth 10 6), defBody (mth 10 6), defScope (mth 10 6), [], []⟩
def dd_read_postings : He.DefD := ⟨("read_postings", none), "read_postings", "read_postings", defArgs (top 12), defBody (top 12), defScope (top 12), [], []⟩
def dd_ByteReader__next_text : He.DefD := ⟨("ByteReader", some "next_text"), "next_text", "ByteReader.next_text", defArgs (mth 10 5), defBody (mth 10 5), defScope (mth 10 5), [], []⟩
def dd_read_text : He.DefD := ⟨("read_text", none), "read_text", "read_text", defArgs (top 11), defBody (top 11), defScope (top 11), [], []⟩
def dd_law : He.DefD := ⟨("law", none), "law", "law", defArgs (top 23), defBody (top 23), defScope (top 23), [], []⟩
def fnL : List He.DefD := [dd__law_draws, dd__law_pop, dd__law_postings, dd__law_signs, dd__law_text, dd__law_number_bytes, dd__law_text_bytes, dd__law_postings_bytes, dd_number_bytes, dd_text_bytes, dd_places_bytes, dd_postings_bytes, dd__law_alike, dd_ByteReader____init__, dd_ByteReader__sure, dd_ByteReader__ended, dd_ByteReader__next_byte, dd_ByteReader__next_number, dd_ByteReader__next_rising, dd_ByteReader__next_postings, dd_read_postings, dd_ByteReader__next_text, dd_read_text, dd_law]
def faL : List He.Fa := [.glo "_law_draws", .glo "_law_pop", .glo "_law_postings", .glo "_law_signs", .glo "_law_text", .glo "_law_number_bytes", .glo "_law_text_bytes", .glo "_law_postings_bytes", .glo "number_bytes", .glo "text_bytes", .glo "places_bytes", .glo "postings_bytes", .glo "_law_alike", .meth "ByteReader" "sure", .meth "ByteReader" "ended", .meth "ByteReader" "next_byte", .meth "ByteReader" "next_number", .meth "ByteReader" "next_rising", .meth "ByteReader" "next_postings", .glo "read_postings", .meth "ByteReader" "next_text", .glo "read_text", .glo "law", .free "bool", .free "dict", .free "int", .free "isinstance", .free "len", .free "list", .free "ord", .free "range", .free "reversed", .free "str", .free "sum", .free "tuple", .str "SIGNS" " !\"#$&'()*+,-./0123456789:;<=>?@ABCDEFGHIJKLMNOPQRSTUVWXYZ[\\]^_`abcdefghijklmnopqrstuvwxyz{|}~", .glo "ByteReader", .glo "NoBytes", .exc "NoBytes", .cls "ByteReader", .mkr "ByteReader"]
def exL (K : PySem.W.Frag) : List Bool := [fldB K fT]
def exA (K : PySem.W.Frag) : Bool := (exL K).all id
theorem exI {K : PySem.W.Frag} (h : exA K = true) (i : Nat) {b : Bool} (e : (exL K)[i]? = some b) : b = true := List.all_eq_true.mp h b (List.mem_of_getElem? e)
abbrev Rr : PySem.W.OpenRow := PySem.W.OpenLaw.row PySem.Challenge.rw_findcourt_k12_texts_and_postings_as_byte
abbrev hk : PySem.W.Hook := hookW exA 6 faL fnL
def ob (s : PySem.W.SharedT) : AlW := obsW exA 6 faL fnL (HandSHeadRun.getT s)
theorem ob_eq (s : PySem.W.SharedT) : ob s = hk.obs s.abs := obsW_eq (HandSHeadRun.getT_eq s)
theorem run (w : World) : HandSHeadRun.RunEq Rr (PySem.W.view Rr.prog [23]) hk ob 6000 ["_wall", "FindError", "NoBytes", "SIGNS", "number_bytes", "text_bytes", "places_bytes", "postings_bytes", "ByteReader", "read_text", "read_postings", "_law_draws", "_law_pop", "_law_alike", "_law_signs", "_law_text", "_law_number_bytes", "_law_postings", "_law_postings_bytes", "_law_text_bytes"] w := by
  intro os
  kernel_rfl
theorem facts {P : Program} {w : World} {K : PySem.W.Frag} {h : Heap} {mg : Str → Option Value} {f : Addr} (X : K.In h) (G : h.Ns mainGlobals mg) (hfa : mg ("law" : Str) = some (.ref f)) (c : He.SaysD faL fnL K) (ex : exA K = true) :
    ∃ fd : FuncData, (∀ (s : Shared) (v : Value), BindsTo s fd ⟨[v], []⟩ [("_law_script", v)]) ∧ ∀ base : Heap, K.In base → base.Ns mainGlobals mg → FnOk P w K mg base CXA 14 f fd ["_law_script"] (spV (gaS K) 1 g_law) := by
  obtain ⟨d__law_draws, F__law_draws⟩ := c.def_ 0 (d := dd__law_draws) rfl
  obtain ⟨d__law_pop, F__law_pop⟩ := c.def_ 1 (d := dd__law_pop) rfl
  obtain ⟨d__law_postings, F__law_postings⟩ := c.def_ 2 (d := dd__law_postings) rfl
  obtain ⟨d__law_signs, F__law_signs⟩ := c.def_ 3 (d := dd__law_signs) rfl
  obtain ⟨d__law_text, F__law_text⟩ := c.def_ 4 (d := dd__law_text) rfl
  obtain ⟨d__law_number_bytes, F__law_number_bytes⟩ := c.def_ 5 (d := dd__law_number_bytes) rfl
  obtain ⟨d__law_text_bytes, F__law_text_bytes⟩ := c.def_ 6 (d := dd__law_text_bytes) rfl
  obtain ⟨d__law_postings_bytes, F__law_postings_bytes⟩ := c.def_ 7 (d := dd__law_postings_bytes) rfl
  obtain ⟨d_number_bytes, F_number_bytes⟩ := c.def_ 8 (d := dd_number_bytes) rfl
  obtain ⟨d_text_bytes, F_text_bytes⟩ := c.def_ 9 (d := dd_text_bytes) rfl
  obtain ⟨d_places_bytes, F_places_bytes⟩ := c.def_ 10 (d := dd_places_bytes) rfl
  obtain ⟨d_postings_bytes, F_postings_bytes⟩ := c.def_ 11 (d := dd_postings_bytes) rfl
  obtain ⟨d__law_alike, F__law_alike⟩ := c.def_ 12 (d := dd__law_alike) rfl
  obtain ⟨d_ByteReader____init__, F_ByteReader____init__⟩ := c.def_ 13 (d := dd_ByteReader____init__) rfl
  obtain ⟨d_ByteReader__sure, F_ByteReader__sure⟩ := c.def_ 14 (d := dd_ByteReader__sure) rfl
  obtain ⟨d_ByteReader__ended, F_ByteReader__ended⟩ := c.def_ 15 (d := dd_ByteReader__ended) rfl
  obtain ⟨d_ByteReader__next_byte, F_ByteReader__next_byte⟩ := c.def_ 16 (d := dd_ByteReader__next_byte) rfl
  obtain ⟨d_ByteReader__next_number, F_ByteReader__next_number⟩ := c.def_ 17 (d := dd_ByteReader__next_number) rfl
  obtain ⟨d_ByteReader__next_rising, F_ByteReader__next_rising⟩ := c.def_ 18 (d := dd_ByteReader__next_rising) rfl
  obtain ⟨d_ByteReader__next_postings, F_ByteReader__next_postings⟩ := c.def_ 19 (d := dd_ByteReader__next_postings) rfl
  obtain ⟨d_read_postings, F_read_postings⟩ := c.def_ 20 (d := dd_read_postings) rfl
  obtain ⟨d_ByteReader__next_text, F_ByteReader__next_text⟩ := c.def_ 21 (d := dd_ByteReader__next_text) rfl
  obtain ⟨d_read_text, F_read_text⟩ := c.def_ 22 (d := dd_read_text) rfl
  obtain ⟨d_law, F_law⟩ := c.def_ 23 (d := dd_law) rfl
  have e := hfa.symm.trans (He.glo_ok X G (c.fact 22 (f := .glo "law") rfl))
  cases e
  have b := FunD.bindsA (ps := ["_law_script"]) F_law fun _ _ _ _ _ _ us hl => match us, hl with | [_], _ => rfl
  obtain ⟨t_SIGNS, c_SIGNS⟩ := He.str_ok X G (c.fact 35 (f := .str "SIGNS" " !\"#$&'()*+,-./0123456789:;<=>?@ABCDEFGHIJKLMNOPQRSTUVWXYZ[\\]^_`abcdefghijklmnopqrstuvwxyz{|}~") rfl)
  refine ⟨d_law, fun s v => b s [v] rfl, fun base _ _ => fn_cxA (ok_law (cA := gaS K) (E := ⟨
    _, d__law_draws, F__law_draws, F__law_draws.bindsN fun _ _ _ _ _ _ us hl => match us, hl with | [_, _, _], _ => rfl, He.glo_ok X G (c.fact 0 (f := .glo "_law_draws") rfl),
    _, d__law_pop, F__law_pop, F__law_pop.bindsN fun _ _ _ _ _ _ us hl => match us, hl with | [_], _ => rfl, He.glo_ok X G (c.fact 1 (f := .glo "_law_pop") rfl),
    _, d__law_postings, F__law_postings, F__law_postings.bindsN fun _ _ _ _ _ _ us hl => match us, hl with | [_, _], _ => rfl, He.glo_ok X G (c.fact 2 (f := .glo "_law_postings") rfl),
    _, d__law_signs, F__law_signs, F__law_signs.bindsN fun _ _ _ _ _ _ us hl => match us, hl with | [], _ => rfl, He.glo_ok X G (c.fact 3 (f := .glo "_law_signs") rfl),
    _, d__law_text, F__law_text, F__law_text.bindsN fun _ _ _ _ _ _ us hl => match us, hl with | [_, _], _ => rfl, He.glo_ok X G (c.fact 4 (f := .glo "_law_text") rfl),
    _, d__law_number_bytes, F__law_number_bytes, F__law_number_bytes.bindsN fun _ _ _ _ _ _ us hl => match us, hl with | [_], _ => rfl, He.glo_ok X G (c.fact 5 (f := .glo "_law_number_bytes") rfl),
    _, d__law_text_bytes, F__law_text_bytes, F__law_text_bytes.bindsN fun _ _ _ _ _ _ us hl => match us, hl with | [_], _ => rfl, He.glo_ok X G (c.fact 6 (f := .glo "_law_text_bytes") rfl),
    _, d__law_postings_bytes, F__law_postings_bytes, F__law_postings_bytes.bindsN fun _ _ _ _ _ _ us hl => match us, hl with | [_], _ => rfl, He.glo_ok X G (c.fact 7 (f := .glo "_law_postings_bytes") rfl),
    _, d_number_bytes, F_number_bytes, F_number_bytes.bindsN fun _ _ _ _ _ _ us hl => match us, hl with | [_], _ => rfl, He.glo_ok X G (c.fact 8 (f := .glo "number_bytes") rfl),
    _, d_text_bytes, F_text_bytes, F_text_bytes.bindsN fun _ _ _ _ _ _ us hl => match us, hl with | [_], _ => rfl, He.glo_ok X G (c.fact 9 (f := .glo "text_bytes") rfl),
    _, d_places_bytes, F_places_bytes, F_places_bytes.bindsN fun _ _ _ _ _ _ us hl => match us, hl with | [_], _ => rfl, He.glo_ok X G (c.fact 10 (f := .glo "places_bytes") rfl),
    _, d_postings_bytes, F_postings_bytes, F_postings_bytes.bindsN fun _ _ _ _ _ _ us hl => match us, hl with | [_], _ => rfl, He.glo_ok X G (c.fact 11 (f := .glo "postings_bytes") rfl),
    _, d__law_alike, F__law_alike, F__law_alike.bindsN fun _ _ _ _ _ _ us hl => match us, hl with | [_, _], _ => rfl, He.glo_ok X G (c.fact 12 (f := .glo "_law_alike") rfl),
    _, d_ByteReader____init__, F_ByteReader____init__, F_ByteReader____init__.bindsN fun _ _ _ _ _ _ us hl => match us, hl with | [_, _], _ => rfl,
    _, d_ByteReader__sure, F_ByteReader__sure, F_ByteReader__sure.bindsN fun _ _ _ _ _ _ us hl => match us, hl with | [_, _], _ => rfl, He.meth_ok (c.fact 13 (f := .meth "ByteReader" "sure") rfl),
    _, d_ByteReader__ended, F_ByteReader__ended, F_ByteReader__ended.bindsN fun _ _ _ _ _ _ us hl => match us, hl with | [_, _], _ => rfl, He.meth_ok (c.fact 14 (f := .meth "ByteReader" "ended") rfl),
    _, d_ByteReader__next_byte, F_ByteReader__next_byte, F_ByteReader__next_byte.bindsN fun _ _ _ _ _ _ us hl => match us, hl with | [_], _ => rfl, He.meth_ok (c.fact 15 (f := .meth "ByteReader" "next_byte") rfl),
    _, d_ByteReader__next_number, F_ByteReader__next_number, F_ByteReader__next_number.bindsN fun _ _ _ _ _ _ us hl => match us, hl with | [_], _ => rfl, He.meth_ok (c.fact 16 (f := .meth "ByteReader" "next_number") rfl),
    _, d_ByteReader__next_rising, F_ByteReader__next_rising, F_ByteReader__next_rising.bindsN fun _ _ _ _ _ _ us hl => match us, hl with | [_, _], _ => rfl, He.meth_ok (c.fact 17 (f := .meth "ByteReader" "next_rising") rfl),
    _, d_ByteReader__next_postings, F_ByteReader__next_postings, F_ByteReader__next_postings.bindsN fun _ _ _ _ _ _ us hl => match us, hl with | [_], _ => rfl, He.meth_ok (c.fact 18 (f := .meth "ByteReader" "next_postings") rfl),
    _, d_read_postings, F_read_postings, F_read_postings.bindsN fun _ _ _ _ _ _ us hl => match us, hl with | [_], _ => rfl, He.glo_ok X G (c.fact 19 (f := .glo "read_postings") rfl),
    _, d_ByteReader__next_text, F_ByteReader__next_text, F_ByteReader__next_text.bindsN fun _ _ _ _ _ _ us hl => match us, hl with | [_], _ => rfl, He.meth_ok (c.fact 20 (f := .meth "ByteReader" "next_text") rfl),
    _, d_read_text, F_read_text, F_read_text.bindsN fun _ _ _ _ _ _ us hl => match us, hl with | [_], _ => rfl, He.glo_ok X G (c.fact 21 (f := .glo "read_text") rfl),
    _, d_law, F_law, F_law.bindsN fun _ _ _ _ _ _ us hl => match us, hl with | [_], _ => rfl, He.glo_ok X G (c.fact 22 (f := .glo "law") rfl),
    He.free_ok X G (c.fact 23 (f := .free "bool") rfl),
    He.free_ok X G (c.fact 24 (f := .free "dict") rfl),
    He.free_ok X G (c.fact 25 (f := .free "int") rfl),
    He.free_ok X G (c.fact 26 (f := .free "isinstance") rfl),
    He.free_ok X G (c.fact 27 (f := .free "len") rfl),
    He.free_ok X G (c.fact 28 (f := .free "list") rfl),
    He.free_ok X G (c.fact 29 (f := .free "ord") rfl),
    He.free_ok X G (c.fact 30 (f := .free "range") rfl),
    He.free_ok X G (c.fact 31 (f := .free "reversed") rfl),
    He.free_ok X G (c.fact 32 (f := .free "str") rfl),
    He.free_ok X G (c.fact 33 (f := .free "sum") rfl),
    He.free_ok X G (c.fact 34 (f := .free "tuple") rfl),
    t_SIGNS, c_SIGNS,
    He.glo_ok X G (c.fact 36 (f := .glo "ByteReader") rfl),
    He.glo_ok X G (c.fact 37 (f := .glo "NoBytes") rfl),
    exfB_ok (c.fact 38 (f := .exc "NoBytes") rfl),
    He.cls_ok (c.fact 39 (f := .cls "ByteReader") rfl),
    He.mkr_ok (c.fact 40 (f := .mkr "ByteReader") rfl),
    fldB_ok (exI ex 0 (b := fldB K fT) rfl)⟩))⟩
end K12
open PySem PySem.W PySem.Calls PyProof.Rows
theorem PySem.Challenge.cw_findcourt_k12_texts_and_postings_as_byte_holds : PySem.Challenge.rw_findcourt_k12_texts_and_postings_as_byte.Holds := by
  w_on; o_law
  refine HandSHeadRun.head_any (r := OpenLaw.row PySem.Challenge.rw_findcourt_k12_texts_and_postings_as_byte) (q := view (OpenLaw.row PySem.Challenge.rw_findcourt_k12_texts_and_postings_as_byte).prog [23]) (H := K12.hk) (ob := K12.ob) (M := 6000) (loose := ["_wall", "FindError", "NoBytes", "SIGNS", "number_bytes", "text_bytes", "places_bytes", "postings_bytes", "ByteReader", "read_text", "read_postings", "_law_draws", "_law_pop", "_law_alike", "_law_signs", "_law_text", "_law_number_bytes", "_law_postings", "_law_postings_bytes", "_law_text_bytes"]) (d := HandSHeadRun.topDef (OpenLaw.row PySem.Challenge.rw_findcourt_k12_texts_and_postings_as_byte).prog 23) (kwd := []) K12.ob_eq
    (by kernel_rfl) (fun s => by kernel_rfl) K12.run (by kernel_rfl) (by kernel_rfl) (by kernel_rfl) (by rfl) (by first | assumption | decide +kernel) (by decide +kernel) ⟨rfl, rfl, rfl, rfl, rfl, by decide +kernel⟩ ?hw ?hc
  case hw => w_witness2
  case hc =>
    refine L2.walk_ofE (l := PySem.Challenge.rw_findcourt_k12_texts_and_postings_as_byte) (n := 63) (k := 14) (x := "_law_script") (CX := Vw.CXA) rfl (by decide) (by kernel_rfl) ⟨rfl, by decide, by decide⟩ ?F Vw.cxA_no
    intro w mg fa h Y G hmg0
    obtain ⟨K, KX, c, nl, ex⟩ := Y
    have hmg : mg ("law" : PySem.Str) = some (.ref fa) := by
      have e : (HandSHeadRun.topDef (OpenLaw.row PySem.Challenge.rw_findcourt_k12_texts_and_postings_as_byte).prog 23).name = ("law" : PySem.Str) := by kernel_rfl
      rw [← e]
      exact hmg0
    obtain ⟨fd, hb, hF⟩ := K12.facts (P := (PySem.Challenge.rw_findcourt_k12_texts_and_postings_as_byte).prog) (w := w) KX G hmg c ex
    exact ⟨K, fd, _, KX, hb, fun H a ns hl _ hS => Vw.script_sp nl hS (K12.law_ok ns hl), hF⟩
