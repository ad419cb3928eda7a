import PyProof.Rows.All
import HandS.ForMost
import HandS.ForExc
import HandS.HeadHook1
import HandS.TupAny
import HandS.TupMul
import HandS.Flow
import HandS.Star
import HandS.WideBits
import HandS.CallSlots
import HandS.Style
import HandS.TryOnly
import HandS.Defaults
import KE.DataEq
import KE.DataMinMax
import HandS.RaiseMore
import HandS.Text
import HandS.Conv
import HandS.Zip
import HandS.IsInst
import HandS.ExcInit
import HandS.ExcField
import HandS.ExcIs
import HandS.TryMany
import HandS.AnyAll
import HandS.Deep
import KE.KExcIs
import KE.GoesMore
import HandS.Ends
import HandS.HeadEnd
import HandS.Head0
import HandS.Head1
import HandS.Head2
import HandS.HeadHook2
import PyProof.StrLawsIn
import KE.IntTextLaws
import PyProof.Rows.StrSplitJoin
import PyProof.Rows.StrItems
import PyProof.Rows.StrSplitAre
import HandS.Codes
import PyProof.StrLawsRepr
import PyProof.StrLaws
import PyProof.Rows.ReprOcc
import KE.KStateDown
import PySem.Challenge.RW_shoeparty_k56_halls_parsed
set_option Elab.async false
set_option linter.all false
set_option maxRecDepth 100000
set_option maxHeartbeats 4000000
/-! DL1: data, the store of mutable objects, results, the canonical readings. -/
namespace DL
open PySem PySem.Spec PyProof.Rows L2

/-! ### data -/
/-- a value as data: tuples and lists that nobody changes are values; a thing that may change is a place of the store -/
inductive D where
  | non | bl (b : Bool) | int (i : Int) | str (x : Str) | tup (ds : List D) | lst (ds : List D)
  /-- an empty dict that nobody changes -/
  | emp
  /-- the script itself -/
  | scr (ns : List Int)
  /-- a place of the store -/
  | ref (n : Nat)
  /-- a thing of the program's text, by its name -/
  | glo (x : Str)
  /-- a built-in type -/
  | ty (n : String)
/-- what may change -/
inductive O where
  | lst (ds : List D)
  | ins (c : Str) (fs : List (Str × D))
abbrev Sto := List O
/-- the places' addresses; addresses that nobody names (lists being made) -/
structure Pl where
  p : List Addr
  h : List Addr
instance : Membership Addr Pl := ⟨fun ρ a => a ∈ ρ.p ∨ a ∈ ρ.h⟩
theorem Pl.mem {ρ : Pl} {a : Addr} : a ∈ ρ ↔ a ∈ ρ.p ∨ a ∈ ρ.h := Iff.rfl
def Pl.add (ρ : Pl) (a : Addr) : Pl := ⟨ρ.p ++ [a], ρ.h⟩
def Pl.hide (ρ : Pl) (a : Addr) : Pl := ⟨ρ.p, a :: ρ.h⟩
/-- a class of exceptions: the program's, a built-in one -/
inductive Ec where
  | own (x : Str)
  | blt (T : String)
  deriving DecidableEq
def Ec.val (K : PySem.W.Frag) : Ec → Value
  | .own x => .ref (He.ga K x)
  | .blt T => .type T
/-- an exception: its class, its one field -/
structure Ex where
  cls : Ec
  fs : Option (Str × D)

def TupAt (K : PySem.W.Frag) (ρ : Pl) (H : Hp) (a : Addr) (vs : List V) : Prop :=
  (a ∉ ρ ∧ H a = some (.tup vs)) ∨ ∃ (o : Obj) (its : Array Value) (n : Nat), K.lookup a = some o ∧ o.cls = .type "tuple" ∧ o.data = .seq its n ∧ its.size ≤ sizeLine ∧ Vals vs its.toList
def LstAt (ρ : Pl) (H : Hp) (a : Addr) (vs : List V) : Prop := a ∉ ρ ∧ H a = some (.lst vs)
def ScrAt (K : PySem.W.Frag) (ρ : Pl) (H : Hp) (a : Addr) (vs : List V) : Prop :=
  (a ∉ ρ ∧ Rd H a (.lst vs)) ∨ ∃ (o : Obj) (its : Array Value) (n : Nat), K.lookup a = some o ∧ o.cls = .type "list" ∧ o.dict = none ∧ o.data = .seq its n ∧ its.size ≤ sizeLine ∧ Vals vs its.toList

/-- what was there stays there -/
structure Wk (ρ : Pl) (H : Hp) (ρ' : Pl) (H' : Hp) : Prop where
  pre : ρ.p <+: ρ'.p
  keep : ∀ a o, H a = some o → a ∉ ρ → a ∉ ρ' ∧ H' a = some o
theorem Wk.refl (ρ : Pl) (H : Hp) : Wk ρ H ρ H := ⟨List.prefix_refl _, fun _ _ h n => ⟨n, h⟩⟩
theorem Wk.trans {ρ ρ1 ρ2 : Pl} {H H1 H2 : Hp} (x : Wk ρ H ρ1 H1) (y : Wk ρ1 H1 ρ2 H2) : Wk ρ H ρ2 H2 :=
  ⟨x.pre.trans y.pre, fun a o h n => let ⟨n1, h1⟩ := x.keep a o h n; y.keep a o h1 n1⟩
/-- later: places are added; what is no place stays, and what is hidden -/
structure Ext (ρ : Pl) (H : Hp) (ρ' : Pl) (H' : Hp) : Prop where
  pre : ρ.p <+: ρ'.p
  hid : ρ'.h = ρ.h
  new : ∀ a, a ∈ ρ'.p → a ∈ ρ.p ∨ H a = none
  dom : ∀ a o, H a = some o → ∃ o', H' a = some o'
  stay : ∀ a o, H a = some o → a ∉ ρ.p → H' a = some o
theorem Ext.refl (ρ : Pl) (H : Hp) : Ext ρ H ρ H := ⟨List.prefix_refl _, rfl, fun _ h => .inl h, fun _ o h => ⟨o, h⟩, fun _ _ h _ => h⟩
theorem Ext.nmem {ρ ρ' : Pl} {H H' : Hp} {a : Addr} {o : HO} (x : Ext ρ H ρ' H') (h : H a = some o) (n : a ∉ ρ.p) : a ∉ ρ'.p := fun h1 => by
  rcases x.new a h1 with h1 | h1
  · exact n h1
  · rw [h] at h1; cases h1
theorem Ext.trans {ρ ρ1 ρ2 : Pl} {H H1 H2 : Hp} (x : Ext ρ H ρ1 H1) (y : Ext ρ1 H1 ρ2 H2) : Ext ρ H ρ2 H2 := by
  refine ⟨x.pre.trans y.pre, y.hid.trans x.hid, fun a h => ?_, fun a o h => ?_, fun a o h n => ?_⟩
  · rcases y.new a h with h | h
    · exact x.new a h
    · refine .inr ?_
      cases e : H a with
      | none => rfl
      | some o =>
        obtain ⟨o', e'⟩ := x.dom a o e
        rw [e'] at h; cases h
  · obtain ⟨o1, e1⟩ := x.dom a o h
    exact y.dom a o1 e1
  · exact y.stay a o (x.stay a o h n) (x.nmem h n)
theorem Ext.wk {ρ ρ' : Pl} {H H' : Hp} (x : Ext ρ H ρ' H') : Wk ρ H ρ' H' := ⟨x.pre, fun a o h n => by
  have n1 : a ∉ ρ.p := fun z => n (.inl z)
  have n2 : a ∉ ρ.h := fun z => n (.inr z)
  refine ⟨fun z => ?_, x.stay a o h n1⟩
  rcases z with z | z
  · exact x.nmem h n1 z
  · exact n2 (x.hid ▸ z)⟩
theorem TupAt.mono {K : PySem.W.Frag} {ρ ρ' : Pl} {H H' : Hp} {a : Addr} {vs : List V} (x : Wk ρ H ρ' H') (h : TupAt K ρ H a vs) : TupAt K ρ' H' a vs := by
  rcases h with ⟨n, h⟩ | h
  · exact .inl (x.keep a _ h n)
  · exact .inr h
theorem LstAt.mono {ρ ρ' : Pl} {H H' : Hp} {a : Addr} {vs : List V} (x : Wk ρ H ρ' H') (h : LstAt ρ H a vs) : LstAt ρ' H' a vs := x.keep a _ h.2 h.1
theorem ScrAt.mono {K : PySem.W.Frag} {ρ ρ' : Pl} {H H' : Hp} {a : Addr} {vs : List V} (x : Wk ρ H ρ' H') (h : ScrAt K ρ H a vs) : ScrAt K ρ' H' a vs := by
  rcases h with ⟨n, h | ⟨o, h⟩⟩ | h
  · exact .inl ⟨(x.keep a _ h n).1, .inl (x.keep a _ h n).2⟩
  · exact .inl ⟨(x.keep a _ h n).1, .inr ⟨o, (x.keep a _ h n).2⟩⟩
  · exact .inr h
theorem TupAt.sq {K : PySem.W.Frag} {ρ : Pl} {H : Hp} {a : Addr} {vs : List V} (h : TupAt K ρ H a vs) : SqT K H a vs := by
  rcases h with ⟨_, h⟩ | h
  · exact .inl (.inl h)
  · exact .inr h
theorem ScrAt.sq {K : PySem.W.Frag} {ρ : Pl} {H : Hp} {a : Addr} {vs : List V} (h : ScrAt K ρ H a vs) : SqL K H a vs := by
  rcases h with ⟨_, h⟩ | h
  · exact .inl h
  · exact .inr h

/-! ### what a value stands for -/
section
variable (K : PySem.W.Frag) (ρ : Pl) (H : Hp)
mutual
def Rep : D → V → Prop
  | .non, v => v = .non
  | .bl b, v => v = .bl b
  | .int i, v => v = .int i
  | .str x, v => v = .str x
  | .tup ds, v => ∃ a vs, v = .ref a ∧ TupAt K ρ H a vs ∧ Reps ds vs
  | .lst ds, v => ∃ a vs, v = .ref a ∧ LstAt ρ H a vs ∧ Reps ds vs
  | .emp, v => ∃ a, v = .ref a ∧ a ∉ ρ ∧ H a = some (.dK [])
  | .scr ns, v => ∃ a, v = .ref a ∧ ScrAt K ρ H a (ns.map V.int)
  | .ref n, v => ∃ a, v = .ref a ∧ ρ.p[n]? = some a
  | .glo x, v => v = .ref (He.ga K x)
  | .ty n, v => v = .ty n
def Reps : List D → List V → Prop
  | [], vs => vs = []
  | d :: ds, vs => ∃ v ws, vs = v :: ws ∧ Rep d v ∧ Reps ds ws
end
def FRep : List (Str × D) → List (Str × V) → Prop
  | [], vs => vs = []
  | (f, d) :: ds, vs => ∃ v ws, vs = (f, v) :: ws ∧ Rep K ρ H d v ∧ FRep ds ws
end
theorem pre_get {ρ ρ' : List Addr} {n : Nat} {a : Addr} (h : ρ <+: ρ') (e : ρ[n]? = some a) : ρ'[n]? = some a := by
  obtain ⟨t, rfl⟩ := h
  rw [List.getElem?_append_left (List.getElem?_eq_some_iff.mp e).1]
  exact e
section
variable {K : PySem.W.Frag} {ρ ρ' : Pl} {H H' : Hp}
mutual
theorem Rep.wk (x : Wk ρ H ρ' H') : ∀ {d : D} {v : V}, Rep K ρ H d v → Rep K ρ' H' d v
  | .non, v, h => by simpa only [Rep] using h
  | .bl b, v, h => by simpa only [Rep] using h
  | .int i, v, h => by simpa only [Rep] using h
  | .str s, v, h => by simpa only [Rep] using h
  | .tup ds, v, h => by
    simp only [Rep] at h ⊢
    obtain ⟨a, vs, e, t, r⟩ := h
    exact ⟨a, vs, e, t.mono x, Reps.wk x r⟩
  | .lst ds, v, h => by
    simp only [Rep] at h ⊢
    obtain ⟨a, vs, e, t, r⟩ := h
    exact ⟨a, vs, e, t.mono x, Reps.wk x r⟩
  | .emp, v, h => by
    simp only [Rep] at h ⊢
    obtain ⟨a, e, n, t⟩ := h
    exact ⟨a, e, x.keep a _ t n⟩
  | .scr ns, v, h => by
    simp only [Rep] at h ⊢
    obtain ⟨a, e, t⟩ := h
    exact ⟨a, e, t.mono x⟩
  | .ref n, v, h => by
    simp only [Rep] at h ⊢
    obtain ⟨a, e, t⟩ := h
    exact ⟨a, e, pre_get x.pre t⟩
  | .glo a, v, h => by simpa only [Rep] using h
  | .ty n, v, h => by simpa only [Rep] using h
theorem Reps.wk (x : Wk ρ H ρ' H') : ∀ {ds : List D} {vs : List V}, Reps K ρ H ds vs → Reps K ρ' H' ds vs
  | [], vs, h => by simpa only [Reps] using h
  | d :: ds, vs, h => by
    simp only [Reps] at h ⊢
    obtain ⟨v, ws, e, r, t⟩ := h
    exact ⟨v, ws, e, Rep.wk x r, Reps.wk x t⟩
end
theorem FRep.wk (x : Wk ρ H ρ' H') : ∀ {ds : List (Str × D)} {vs : List (Str × V)}, FRep K ρ H ds vs → FRep K ρ' H' ds vs
  | [], vs, h => h
  | (f, d) :: ds, vs, h => by
    obtain ⟨v, ws, e, r, t⟩ := h
    exact ⟨v, ws, e, r.wk x, FRep.wk x t⟩
theorem Rep.mono (x : Ext ρ H ρ' H') {d : D} {v : V} (h : Rep K ρ H d v) : Rep K ρ' H' d v := h.wk x.wk
theorem Reps.mono (x : Ext ρ H ρ' H') {d : List D} {v : List V} (h : Reps K ρ H d v) : Reps K ρ' H' d v := h.wk x.wk
theorem FRep.mono (x : Ext ρ H ρ' H') {d : List (Str × D)} {v : List (Str × V)} (h : FRep K ρ H d v) : FRep K ρ' H' d v := h.wk x.wk
theorem Reps.length : ∀ {ds : List D} {vs : List V}, Reps K ρ H ds vs → vs.length = ds.length
  | [], vs, h => by simp only [Reps] at h; subst h; rfl
  | d :: ds, vs, h => by
    simp only [Reps] at h
    obtain ⟨v, ws, rfl, r, t⟩ := h
    rw [List.length_cons, List.length_cons, Reps.length t]
theorem Reps.get : ∀ {ds : List D} {vs : List V} {i : Nat} {d : D}, Reps K ρ H ds vs → ds[i]? = some d → ∃ v, vs[i]? = some v ∧ Rep K ρ H d v
  | [], vs, i, d, h, e => by cases e
  | d :: ds, vs, 0, d', h, e => by
    simp only [Reps] at h
    obtain ⟨v, ws, rfl, r, t⟩ := h
    cases e
    exact ⟨v, rfl, r⟩
  | d :: ds, vs, i + 1, d', h, e => by
    simp only [Reps] at h
    obtain ⟨v, ws, rfl, r, t⟩ := h
    exact Reps.get (i := i) t (by simpa using e)
theorem Reps.append : ∀ {ds es : List D} {vs ws : List V}, Reps K ρ H ds vs → Reps K ρ H es ws → Reps K ρ H (ds ++ es) (vs ++ ws)
  | [], es, vs, ws, h, h' => by simp only [Reps] at h; subst h; exact h'
  | d :: ds, es, vs, ws, h, h' => by
    simp only [Reps] at h
    obtain ⟨v, us, rfl, r, t⟩ := h
    simp only [List.cons_append, Reps]
    exact ⟨v, us ++ ws, rfl, r, Reps.append t h'⟩
theorem Reps.take : ∀ (n : Nat) {ds : List D} {vs : List V}, Reps K ρ H ds vs → Reps K ρ H (ds.take n) (vs.take n)
  | 0, ds, vs, h => by simp only [List.take_zero, Reps]
  | n + 1, [], vs, h => by simp only [Reps] at h; subst h; simp only [List.take_nil, Reps]
  | n + 1, d :: ds, vs, h => by
    simp only [Reps] at h
    obtain ⟨v, us, rfl, r, t⟩ := h
    simp only [List.take_succ_cons, Reps]
    exact ⟨v, _, rfl, r, Reps.take n t⟩
theorem Reps.drop : ∀ (n : Nat) {ds : List D} {vs : List V}, Reps K ρ H ds vs → Reps K ρ H (ds.drop n) (vs.drop n)
  | 0, ds, vs, h => h
  | n + 1, [], vs, h => by simp only [Reps] at h; subst h; simp only [List.drop_nil, Reps]
  | n + 1, d :: ds, vs, h => by
    simp only [Reps] at h
    obtain ⟨v, us, rfl, r, t⟩ := h
    exact Reps.drop n t
theorem Reps.set : ∀ (n : Nat) {ds : List D} {vs : List V} {d : D} {v : V}, Reps K ρ H ds vs → Rep K ρ H d v → Reps K ρ H (ds.set n d) (vs.set n v)
  | _, [], vs, d', v', h, r' => by simp only [Reps] at h; subst h; simp only [List.set_nil, Reps]
  | 0, d :: ds, vs, d', v', h, r' => by
    simp only [Reps] at h
    obtain ⟨v, us, rfl, r, t⟩ := h
    simp only [List.set_cons_zero, Reps]
    exact ⟨v', us, rfl, r', t⟩
  | n + 1, d :: ds, vs, d', v', h, r' => by
    simp only [Reps] at h
    obtain ⟨v, us, rfl, r, t⟩ := h
    simp only [List.set_cons_succ, Reps]
    exact ⟨v, _, rfl, r, Reps.set n t r'⟩
theorem Reps.ints : ∀ {ns : List Int} {vs : List V}, Reps K ρ H (ns.map D.int) vs → vs = ns.map V.int
  | [], vs, h => by simpa only [List.map_nil, Reps] using h
  | n :: ns, vs, h => by
    simp only [List.map_cons, Reps] at h
    obtain ⟨v, us, rfl, r, t⟩ := h
    simp only [Rep] at r
    rw [r, Reps.ints t]
    rfl
theorem Reps.of_ints : ∀ {ns : List Int}, Reps K ρ H (ns.map D.int) (ns.map V.int)
  | [] => by simp only [List.map_nil, Reps]
  | n :: ns => by
    simp only [List.map_cons, Reps]
    exact ⟨_, _, rfl, by simp only [Rep], Reps.of_ints⟩
theorem Reps.strs : ∀ {ns : List Str} {vs : List V}, Reps K ρ H (ns.map D.str) vs → vs = ns.map V.str
  | [], vs, h => by simpa only [List.map_nil, Reps] using h
  | n :: ns, vs, h => by
    simp only [List.map_cons, Reps] at h
    obtain ⟨v, us, rfl, r, t⟩ := h
    simp only [Rep] at r
    rw [r, Reps.strs t]
    rfl
theorem Reps.of_strs : ∀ {ns : List Str}, Reps K ρ H (ns.map D.str) (ns.map V.str)
  | [] => by simp only [List.map_nil, Reps]
  | n :: ns => by
    simp only [List.map_cons, Reps]
    exact ⟨_, _, rfl, by simp only [Rep], Reps.of_strs⟩
end

/-! ### the store -/
def ObjR (K : PySem.W.Frag) (ρ : Pl) (H : Hp) (a : Addr) : O → Prop
  | .lst ds => ∃ vs, H a = some (.lst vs) ∧ Reps K ρ H ds vs
  | .ins c fs => ∃ dx vs, H a = some (.ins (He.ga K c) dx vs) ∧ FRep K ρ H fs vs
structure Abs (K : PySem.W.Frag) (ρ : Pl) (S : Sto) (H : Hp) : Prop where
  len : ρ.p.length = S.length
  nd : ρ.p.Nodup
  hn : ∀ a, a ∈ ρ.h → a ∉ ρ.p ∧ ∃ o, H a = some o
  obj : ∀ (n : Nat) (a : Addr) (o : O), ρ.p[n]? = some a → S[n]? = some o → ObjR K ρ H a o
section
variable {K : PySem.W.Frag} {ρ ρ' : Pl} {H H' : Hp} {S : Sto}
theorem ObjR.wk {a : Addr} {o : O} (x : Wk ρ H ρ' H') (h : ObjR K ρ H a o) (e : H' a = H a) : ObjR K ρ' H' a o := by
  cases o with
  | lst ds => obtain ⟨vs, q, r⟩ := h; exact ⟨vs, e.trans q, r.wk x⟩
  | ins C fs => obtain ⟨dx, vs, q, r⟩ := h; exact ⟨dx, vs, e.trans q, r.wk x⟩
theorem ObjR.mono {a : Addr} {o : O} (x : Ext ρ H ρ' H') (h : ObjR K ρ H a o) (e : H' a = H a) : ObjR K ρ' H' a o := h.wk x.wk e
theorem ObjR.some {a : Addr} {o : O} (h : ObjR K ρ H a o) : ∃ u, H a = Option.some u := by
  cases o with
  | lst ds => obtain ⟨vs, q, r⟩ := h; exact ⟨_, q⟩
  | ins C fs => obtain ⟨dx, vs, q, r⟩ := h; exact ⟨_, q⟩
theorem Abs.there (A : Abs K ρ S H) {a : Addr} (h : a ∈ ρ) : ∃ u, H a = some u := by
  rcases h with h | h
  case inr => exact (A.hn a h).2
  obtain ⟨n, hn, e⟩ := List.getElem_of_mem h
  have h1 : ρ.p[n]? = some a := by rw [List.getElem?_eq_getElem hn, e]
  have hs : n < S.length := by rw [← A.len]; exact hn
  exact (A.obj n a S[n] h1 (List.getElem?_eq_getElem hs)).some
theorem Abs.fresh (A : Abs K ρ S H) {p : Addr} (h : H p = none) : p ∉ ρ := fun q => by
  obtain ⟨u, e⟩ := A.there q
  rw [h] at e; cases e
theorem Abs.at (A : Abs K ρ S H) {n : Nat} {o : O} (h : S[n]? = some o) : ∃ a, ρ.p[n]? = some a ∧ ObjR K ρ H a o := by
  have hn : n < ρ.p.length := by rw [A.len]; exact (List.getElem?_eq_some_iff.mp h).1
  exact ⟨ρ.p[n], List.getElem?_eq_getElem hn, A.obj n _ o (List.getElem?_eq_getElem hn) h⟩
/-- a new thing that is no place -/
theorem Ext.put {p : Addr} {o : HO} (h : H p = none) : Ext ρ H ρ (upd H p o) :=
  ⟨List.prefix_refl _, rfl, fun _ h => .inl h, fun a u e => ⟨u, by rw [upd_ne (ne_of_none e h)]; exact e⟩, fun a u e _ => by rw [upd_ne (ne_of_none e h)]; exact e⟩
theorem Abs.put (A : Abs K ρ S H) {p : Addr} {o : HO} (h : H p = none) : Abs K ρ S (upd H p o) :=
  ⟨A.len, A.nd, fun a m => ⟨(A.hn a m).1, (Ext.put (ρ := ρ) h).dom a _ (A.hn a m).2.choose_spec⟩, fun n a u e1 e2 => (A.obj n a u e1 e2).mono (Ext.put h) (upd_ne (fun q => A.fresh h (q ▸ .inl (List.mem_of_getElem? e1))))⟩
/-- a new place -/
theorem Ext.add {p : Addr} {o : HO} (h : H p = none) : Ext ρ H (ρ.add p) (upd H p o) :=
  ⟨⟨[p], rfl⟩, rfl, fun a m => by
    rcases List.mem_append.mp m with m | m
    · exact .inl m
    · have e : a = p := by simpa using m
      subst e
      exact .inr h, fun a u e => ⟨u, by rw [upd_ne (ne_of_none e h)]; exact e⟩, fun a u e _ => by rw [upd_ne (ne_of_none e h)]; exact e⟩
theorem Abs.add (A : Abs K ρ S H) {p : Addr} {o : HO} {u : O} (h : H p = none) (hu : ObjR K (ρ.add p) (upd H p o) p u) : Abs K (ρ.add p) (S ++ [u]) (upd H p o) := by
  have hp := A.fresh h
  refine ⟨by simp [Pl.add, A.len], ?_, fun a m => ⟨fun q => ?_, ?_⟩, fun n a w e1 e2 => ?_⟩
  · show (ρ.p ++ [p]).Nodup
    rw [List.nodup_append]
    refine ⟨A.nd, by simp, fun a ha b hb => ?_⟩
    have : b = p := by simpa using hb
    subst this
    rintro rfl
    exact hp (.inl ha)
  · rcases List.mem_append.mp (show a ∈ ρ.p ++ [p] from q) with q | q
    · exact (A.hn a m).1 q
    · have e : a = p := by simpa using q
      exact hp (.inr (e ▸ m))
  · exact (Ext.put (ρ := ρ) h).dom a _ (A.hn a m).2.choose_spec
  · have e1' : (ρ.p ++ [p])[n]? = some a := e1
    by_cases hn : n < ρ.p.length
    · rw [List.getElem?_append_left hn] at e1'
      rw [List.getElem?_append_left (by rw [← A.len]; exact hn)] at e2
      exact (A.obj n a w e1' e2).mono (Ext.add h) (upd_ne fun q => hp (q ▸ .inl (List.mem_of_getElem? e1')))
    · have hn' : n = ρ.p.length := by
        have := (List.getElem?_eq_some_iff.mp e1').1
        simp at this
        omega
      subst hn'
      rw [List.getElem?_append_right (Nat.le_refl _)] at e1'
      rw [A.len, List.getElem?_append_right (Nat.le_refl _)] at e2
      simp at e1' e2
      subst e1' e2
      exact hu
/-- a place is changed -/
theorem Ext.chgA {a : Addr} {o : HO} (e : a ∈ ρ.p) : Ext ρ H ρ (upd H a o) :=
  ⟨List.prefix_refl _, rfl, fun _ h => .inl h, fun b u q => by
    by_cases hb : b = a
    · subst hb; exact ⟨o, upd_same⟩
    · exact ⟨u, by rw [upd_ne hb]; exact q⟩, fun b u q m => by
    have hb : b ≠ a := fun z => m (by rw [z]; exact e)
    rw [upd_ne hb]; exact q⟩
theorem Ext.chg {n : Nat} {a : Addr} {o : HO} (e : ρ.p[n]? = some a) : Ext ρ H ρ (upd H a o) := Ext.chgA (List.mem_of_getElem? e)
theorem Abs.chg (A : Abs K ρ S H) {n : Nat} {a : Addr} {o : HO} {u : O} (e : ρ.p[n]? = some a) (hu : ObjR K ρ (upd H a o) a u) : Abs K ρ (S.set n u) (upd H a o) := by
  refine ⟨by simp [A.len], A.nd, fun b m => ⟨(A.hn b m).1, (Ext.chg (H := H) (o := o) e).dom b _ (A.hn b m).2.choose_spec⟩, fun m b w e1 e2 => ?_⟩
  by_cases hm : m = n
  · subst hm
    rw [e] at e1; cases e1
    have hl : m < S.length := by rw [← A.len]; exact (List.getElem?_eq_some_iff.mp e).1
    rw [List.getElem?_set_self hl] at e2
    cases e2
    exact hu
  · rw [List.getElem?_set_ne (Ne.symm hm)] at e2
    have nb : b ≠ a := fun z => hm (nd_ix A.nd e1 (z ▸ e))
    exact (A.obj m b w e1 e2).mono (Ext.chg e) (upd_ne nb)
/-! an address hidden, changed, shown again -/
theorem Wk.hide {p : Addr} {o : HO} (h : H p = none) : Wk ρ H (ρ.hide p) (upd H p o) := ⟨List.prefix_refl _, fun a u e n => ⟨fun z => by
  rcases z with z | z
  · exact n (.inl z)
  · rcases List.mem_cons.mp z with z | z
    · rw [z, h] at e; cases e
    · exact n (.inr z), by rw [upd_ne (ne_of_none e h)]; exact e⟩⟩
theorem Wk.app {p : Addr} {o : HO} (h : p ∈ ρ.h) : Wk ρ H ρ (upd H p o) := ⟨List.prefix_refl _, fun a u e n => ⟨n, by
  have hb : a ≠ p := fun z => n (by rw [z]; exact .inr h)
  rw [upd_ne hb]; exact e⟩⟩
theorem Wk.show {h' : List Addr} (h : ∀ a ∈ h', a ∈ ρ.h) : Wk ρ H ⟨ρ.p, h'⟩ H := ⟨List.prefix_refl _, fun a u e n => ⟨fun z => n (z.elim .inl fun z => .inr (h a z)), e⟩⟩
theorem Abs.hide (A : Abs K ρ S H) {p : Addr} {o : HO} (h : H p = none) : Abs K (ρ.hide p) S (upd H p o) :=
  ⟨A.len, A.nd, fun a m => by
    rcases List.mem_cons.mp m with m | m
    · subst m
      exact ⟨fun z => A.fresh h (.inl z), o, upd_same⟩
    · exact ⟨(A.hn a m).1, (Ext.put (ρ := ρ) h).dom a _ (A.hn a m).2.choose_spec⟩,
    fun n a u e1 e2 => (A.obj n a u e1 e2).wk (Wk.hide h) (upd_ne (fun q => A.fresh h (q ▸ .inl (List.mem_of_getElem? e1))))⟩
theorem Abs.app (A : Abs K ρ S H) {p : Addr} {o : HO} (h : p ∈ ρ.h) : Abs K ρ S (upd H p o) :=
  ⟨A.len, A.nd, fun a m => ⟨(A.hn a m).1, by
    by_cases e : a = p
    · subst e; exact ⟨o, upd_same⟩
    · rw [upd_ne e]; exact (A.hn a m).2⟩,
    fun n a u e1 e2 => (A.obj n a u e1 e2).wk (Wk.app h) (upd_ne (fun q => (A.hn p h).1 (q ▸ List.mem_of_getElem? e1)))⟩
theorem Abs.show (A : Abs K ρ S H) {h' : List Addr} (h : ∀ a ∈ h', a ∈ ρ.h) : Abs K ⟨ρ.p, h'⟩ S H :=
  ⟨A.len, A.nd, fun a m => A.hn a (h a m), fun n a u e1 e2 => (A.obj n a u e1 e2).wk (Wk.show h) rfl⟩
end

/-! ### names -/
abbrev Loc := List (Option D)
structure LocR (K : PySem.W.Frag) (ρ : Pl) (H : Hp) (σ : L2.St) (δ : Loc) : Prop where
  len : σ.length = δ.length
  rel : ∀ (i : Nat) (d : D), δ[i]? = some (some d) → ∃ v, σ[i]? = some (some v) ∧ Rep K ρ H d v
section
variable {K : PySem.W.Frag} {ρ ρ' : Pl} {H H' : Hp} {σ : L2.St} {δ : Loc}
theorem LocR.wk (x : Wk ρ H ρ' H') (L : LocR K ρ H σ δ) : LocR K ρ' H' σ δ := ⟨L.len, fun i d e => let ⟨v, e1, r⟩ := L.rel i d e; ⟨v, e1, r.wk x⟩⟩
theorem LocR.mono (x : Ext ρ H ρ' H') (L : LocR K ρ H σ δ) : LocR K ρ' H' σ δ := ⟨L.len, fun i d e => let ⟨v, e1, r⟩ := L.rel i d e; ⟨v, e1, r.mono x⟩⟩
theorem LocR.set (L : LocR K ρ H σ δ) {i : Nat} {d : D} {v : V} (r : Rep K ρ H d v) : LocR K ρ H (σ.set i (some v)) (δ.set i (some d)) := by
  refine ⟨by simp [L.len], fun j e h => ?_⟩
  by_cases hj : j = i
  · subst hj
    by_cases hl : j < δ.length
    · rw [List.getElem?_set_self hl] at h
      cases h
      exact ⟨v, List.getElem?_set_self (by rw [L.len]; exact hl), r⟩
    · rw [List.getElem?_eq_none (by simpa using hl)] at h
      cases h
  · rw [List.getElem?_set_ne (Ne.symm hj)] at h ⊢
    exact L.rel j e h
theorem LocR.hid (L : LocR K ρ H σ δ) {i : Nat} {v : Option V} : LocR K ρ H (σ.set i v) (δ.set i none) := by
  refine ⟨by simp [L.len], fun j e h => ?_⟩
  by_cases hj : j = i
  · subst hj
    by_cases hl : j < δ.length
    · rw [List.getElem?_set_self hl] at h
      cases h
    · rw [List.getElem?_eq_none (by simpa using hl)] at h
      cases h
  · rw [List.getElem?_set_ne (Ne.symm hj)] at h ⊢
    exact L.rel j e h
theorem LocR.wipe (L : LocR K ρ H σ δ) {i : Nat} : LocR K ρ H (σ.set i none) (δ.set i none) := by
  refine ⟨by simp [L.len], fun j e h => ?_⟩
  by_cases hj : j = i
  · subst hj
    by_cases hl : j < δ.length
    · rw [List.getElem?_set_self hl] at h
      cases h
    · rw [List.getElem?_eq_none (by simpa using hl)] at h
      cases h
  · rw [List.getElem?_set_ne (Ne.symm hj)] at h ⊢
    exact L.rel j e h
end

/-! ### results -/
inductive RE (α : Type) where
  | ok (a : α) (S : Sto)
  | exc (x : Ex) (S : Sto)
  | bad
def RE.bind {α β : Type} (r : RE α) (k : α → Sto → RE β) : RE β := match r with
  | .ok a S => k a S
  | .exc x S => .exc x S
  | .bad => .bad
inductive RS where
  | nx (δ : Loc) (S : Sto)
  | rt (d : D) (S : Sto)
  | bk (δ : Loc) (S : Sto)
  | ct (δ : Loc) (S : Sto)
  | exc (x : Ex) (δ : Loc) (S : Sto)
  | bad
def RS.andThen (r : RS) (k : Loc → Sto → RS) : RS := match r with
  | .nx δ S => k δ S
  | r => r
def RE.toS {α : Type} (r : RE α) (δ : Loc) (k : α → Sto → RS) : RS := match r with
  | .ok a S => k a S
  | .exc x S => .exc x δ S
  | .bad => .bad
abbrev ME := Loc → Sto → RE D
abbrev MB := Loc → Sto → RE Bool
abbrev MA := Loc → Sto → RE (List D)
abbrev MS := Loc → Sto → RS

/-! ### the context of a reading: the written part, the wish about exceptions, what else stands -/
structure Gam where
  W : WX
  J : Pl → Hp → Prop
  mono : ∀ {ρ : Pl} {H : Hp} {ρ' : Pl} {H' : Hp}, Wk ρ H ρ' H' → J ρ H → J ρ' H'
  /-- slots that are kept as they are -/
  L : L2.St → Prop
  fr : Nat → Prop
  lset : ∀ {i : Nat} {v : Option V} {σ : L2.St}, fr i → L σ → L (σ.set i v)
def XRep (K : PySem.W.Frag) (ρ : Pl) (H : Hp) (x : Ex) (cv : Value) (dp : Option Addr) : Prop :=
  cv = x.cls.val K ∧ match x.fs with
    | none => dp = none
    | some (f, d) => ∃ a v, dp = some a ∧ a ∉ ρ ∧ H a = some (.xd [(f, v)]) ∧ Rep K ρ H d v
theorem XRep.wk {K : PySem.W.Frag} {ρ ρ' : Pl} {H H' : Hp} {x : Ex} {cv : Value} {dp : Option Addr} (e : Wk ρ H ρ' H') (h : XRep K ρ H x cv dp) : XRep K ρ' H' x cv dp := by
  obtain ⟨c, fs⟩ := x
  refine ⟨h.1, ?_⟩
  have h2 := h.2
  cases fs with
  | none => exact h2
  | some p =>
    obtain ⟨f, d⟩ := p
    obtain ⟨a, v, e1, n, e2, r⟩ := h2
    exact ⟨a, v, e1, (e.keep a _ e2 n).1, (e.keep a _ e2 n).2, r.wk e⟩
theorem XRep.mono {K : PySem.W.Frag} {ρ ρ' : Pl} {H H' : Hp} {x : Ex} {cv : Value} {dp : Option Addr} (e : Ext ρ H ρ' H') (h : XRep K ρ H x cv dp) : XRep K ρ' H' x cv dp := h.wk e.wk
section
variable (K : PySem.W.Frag) (Γ : Gam)
/-- what is wished behind an expression: ok | exc -/
def PoE {α β : Type} (R : Pl → Hp → α → β → Prop) (ρ : Pl) (σ : L2.St) (H : Hp) (Q : β → Hp → Prop) : RE α → Prop
  | .ok d S => ∀ ρ' v H', Ext ρ H ρ' H' → Abs K ρ' S H' → R ρ' H' d v → Q v H'
  | .exc x S => ∀ ρ' H' cv dp, Ext ρ H ρ' H' → Abs K ρ' S H' → XRep K ρ' H' x cv dp → Γ.W cv dp σ H'
  | .bad => False
def RB (_ : Pl) (_ : Hp) (b c : Bool) : Prop := c = b
/-- all that a state tells -/
structure At (ρ : Pl) (σ : L2.St) (H : Hp) (δ : Loc) (S : Sto) : Prop where
  loc : LocR K ρ H σ δ
  abs : Abs K ρ S H
  j : Γ.J ρ H
  l : Γ.L σ
def tE (m : ME) : TE := fun σ H Q => ∃ ρ δ S, At K Γ ρ σ H δ S ∧ PoE K Γ (Rep K) ρ σ H Q (m δ S)
def tT (m : MB) : TT := fun σ H Q => ∃ ρ δ S, At K Γ ρ σ H δ S ∧ PoE K Γ RB ρ σ H Q (m δ S)
def tA (m : MA) : TA := fun σ H Q => ∃ ρ δ S, At K Γ ρ σ H δ S ∧ PoE K Γ (Reps K) ρ σ H Q (m δ S)
def PoS (ρ : Pl) (H : Hp) (E : Ends) : RS → Prop
  | .nx δ S => ∀ ρ' σ' H', Ext ρ H ρ' H' → LocR K ρ' H' σ' δ → Γ.L σ' → Abs K ρ' S H' → E.nx σ' H'
  | .rt d S => ∀ ρ' v H', Ext ρ H ρ' H' → Abs K ρ' S H' → Rep K ρ' H' d v → E.rt v H'
  | .bk δ S => ∀ ρ' σ' H', Ext ρ H ρ' H' → LocR K ρ' H' σ' δ → Γ.L σ' → Abs K ρ' S H' → E.bk σ' H'
  | .ct δ S => ∀ ρ' σ' H', Ext ρ H ρ' H' → LocR K ρ' H' σ' δ → Γ.L σ' → Abs K ρ' S H' → E.ct σ' H'
  | .exc x δ S => ∀ ρ' σ' H' cv dp, Ext ρ H ρ' H' → LocR K ρ' H' σ' δ → Γ.L σ' → Abs K ρ' S H' → XRep K ρ' H' x cv dp → Γ.W cv dp σ' H'
  | .bad => False
def tS (m : MS) : TS := fun E σ H => ∃ ρ δ S, At K Γ ρ σ H δ S ∧ PoS K Γ ρ H E (m δ S)
end
section
variable {K : PySem.W.Frag} {Γ : Gam} {ρ ρ' : Pl} {H H' : Hp} {σ : L2.St} {δ : Loc} {S S' : Sto}
theorem At.go (a : At K Γ ρ σ H δ S) (x : Ext ρ H ρ' H') (A : Abs K ρ' S' H') : At K Γ ρ' σ H' δ S' := ⟨a.loc.mono x, A, Γ.mono x.wk a.j, a.l⟩
theorem PoE.mono {α β : Type} {R : Pl → Hp → α → β → Prop} {Q : β → Hp → Prop} (x : Ext ρ H ρ' H') : ∀ {r : RE α}, PoE K Γ R ρ σ H Q r → PoE K Γ R ρ' σ H' Q r
  | .ok d S, h => fun ρ2 v H2 e A r => h ρ2 v H2 (x.trans e) A r
  | .exc y S, h => fun ρ2 H2 cv dp e A r => h ρ2 H2 cv dp (x.trans e) A r
  | .bad, h => h
theorem PoE.imp {α β : Type} {R : Pl → Hp → α → β → Prop} {Q Q' : β → Hp → Prop} (k : ∀ v H', Q v H' → Q' v H') : ∀ {r : RE α}, PoE K Γ R ρ σ H Q r → PoE K Γ R ρ σ H Q' r
  | .ok d S, h => fun ρ2 v H2 e A r => k _ _ (h ρ2 v H2 e A r)
  | .exc y S, h => h
  | .bad, h => h
theorem PoS.mono {E : Ends} (x : Ext ρ H ρ' H') : ∀ {r : RS}, PoS K Γ ρ H E r → PoS K Γ ρ' H' E r
  | .nx δ S, h => fun ρ2 v H2 e A l r => h ρ2 v H2 (x.trans e) A l r
  | .rt δ S, h => fun ρ2 v H2 e A r => h ρ2 v H2 (x.trans e) A r
  | .bk δ S, h => fun ρ2 v H2 e A l r => h ρ2 v H2 (x.trans e) A l r
  | .ct δ S, h => fun ρ2 v H2 e A l r => h ρ2 v H2 (x.trans e) A l r
  | .exc y δ S, h => fun ρ2 v H2 cv dp e A l r => h ρ2 v H2 cv dp (x.trans e) A l r
  | .bad, h => h
/-- one part after another -/
theorem PoE.then {α β γ δ' : Type} {R : Pl → Hp → α → β → Prop} {R' : Pl → Hp → γ → δ' → Prop} {Q : δ' → Hp → Prop} {k : α → Sto → RE γ} : ∀ {r : RE α}, PoE K Γ R' ρ σ H Q (r.bind k) →
    PoE K Γ R ρ σ H (fun v H1 => ∃ ρ1 d S1, Ext ρ H ρ1 H1 ∧ Abs K ρ1 S1 H1 ∧ R ρ1 H1 d v ∧ PoE K Γ R' ρ1 σ H1 Q (k d S1)) r
  | .ok d S, h => fun ρ1 v H1 e A r => ⟨ρ1, d, S, e, A, r, PoE.mono e h⟩
  | .exc y S, h => h
  | .bad, h => h
theorem PoE.thenS {α β : Type} {R : Pl → Hp → α → β → Prop} {E : Ends} {k : α → Sto → RS} {δ : Loc} (L : LocR K ρ H σ δ) (l : Γ.L σ) : ∀ {r : RE α}, PoS K Γ ρ H E (r.toS δ k) →
    PoE K Γ R ρ σ H (fun v H1 => ∃ ρ1 d S1, Ext ρ H ρ1 H1 ∧ Abs K ρ1 S1 H1 ∧ R ρ1 H1 d v ∧ PoS K Γ ρ1 H1 E (k d S1)) r
  | .ok d S, h => fun ρ1 v H1 e A r => ⟨ρ1, d, S, e, A, r, PoS.mono e h⟩
  | .exc y S, h => fun ρ1 H1 cv dp e A r => h ρ1 σ H1 cv dp e (L.mono e) l A r
  | .bad, h => h
end
/-- the judgements -/
abbrev DE (X : Cx) (Γ : Gam) (e : Expr) (m : ME) : Prop := PE X e (tE X.K Γ m)
abbrev DT (X : Cx) (Γ : Gam) (e : Expr) (m : MB) : Prop := PT X e (tT X.K Γ m)
abbrev DA (X : Cx) (Γ : Gam) (es : List Expr) (m : MA) : Prop := PA X es (tA X.K Γ m)
abbrev DS (X : Cx) (Γ : Gam) (st : Stmt) (m : MS) : Prop := PS X st (tS X.K Γ m)
abbrev DSs (X : Cx) (Γ : Gam) (st : List Stmt) (m : MS) : Prop := PSs X st (tS X.K Γ m)
theorem pe_imp {X : Cx} {e : Expr} {t t' : TE} (h : PE X e t) (k : ∀ σ H Q, t' σ H Q → t σ H Q) : PE X e t' := ⟨fun pins s σ H Q I q => h.run pins s σ H Q I (k σ H Q q)⟩
theorem pt_imp {X : Cx} {e : Expr} {t t' : TT} (h : PT X e t) (k : ∀ σ H Q, t' σ H Q → t σ H Q) : PT X e t' := ⟨fun pins s σ H Q I q => h.run pins s σ H Q I (k σ H Q q)⟩
theorem pw_imp {X : Cx} {e : Expr} {t t' : TT} (h : PW X e t) (k : ∀ σ H Q, t' σ H Q → t σ H Q) : PW X e t' := ⟨fun wh pins s σ H Q I q => h.run wh pins s σ H Q I (k σ H Q q)⟩
theorem pa_imp {X : Cx} {e : List Expr} {t t' : TA} (h : PA X e t) (k : ∀ σ H Q, t' σ H Q → t σ H Q) : PA X e t' := ⟨fun pos pins s σ H Q I q => h.run pos pins s σ H Q I (k σ H Q q)⟩
theorem ps_imp {X : Cx} {e : Stmt} {t t' : TS} (h : PS X e t) (k : ∀ D σ H, t' D σ H → t D σ H) : PS X e t' := ⟨fun pins s σ H D I q => h.run pins s σ H D I (k D σ H q)⟩
theorem pss_imp {X : Cx} {e : List Stmt} {t t' : TS} (h : PSs X e t) (k : ∀ D σ H, t' D σ H → t D σ H) : PSs X e t' := ⟨fun pins s σ H D I q => h.run pins s σ H D I (k D σ H q)⟩
end DL

/-! DL2: names, constants, operators, tests, displays. -/
namespace DL
open PySem PySem.Spec PyProof.Rows L2

/-! ### names and constants -/
def varE (i : Nat) : ME := fun δ S => match δ[i]? with
  | some (some d) => .ok d S
  | _ => .bad
def conE (d : D) : ME := fun _ S => .ok d S
section
variable {X : Cx} {Γ : Gam}
theorem de_var (i : Nat) {x : Str} {pos : Pos} (hN : X.N[i]? = some x := by rfl) (hv : Vis X.env.scope x := by first | exact Or.inl rfl | exact Or.inr (Or.inl rfl) | exact Or.inr (Or.inr rfl)) (hd : (x == ("__debug__" : Str)) = false := by decide)
    (hcd : (x == ("__classdict__" : Str)) = false := by decide) : DE X Γ (.Name x pos) (varE i) := by
  refine pe_imp (pe_var hN hv hd hcd) ?_
  rintro σ H Q ⟨ρ, δ, S, a, h⟩
  unfold varE at h
  split at h
  · rename_i d e
    obtain ⟨v, e1, r⟩ := a.loc.rel i d e
    exact ⟨v, e1, h ρ v H (Ext.refl _ _) a.abs r⟩
  · exact h.elim
theorem de_con {e : Expr} {v : V} {d : D} (h : PE X e (tC v)) (r : ∀ ρ H S, Abs X.K ρ S H → Rep X.K ρ H d v) : DE X Γ e (conE d) := by
  refine pe_imp h ?_
  rintro σ H Q ⟨ρ, δ, S, a, h⟩
  exact h ρ v H (Ext.refl _ _) a.abs (r ρ H S a.abs)
theorem de_int {i j pos} : DE X Γ (.Constant (.int i) j pos) (conE (.int i)) := de_con pe_int fun _ _ _ _ => by simp only [Rep]
theorem de_bl {i j pos} : DE X Γ (.Constant (.bool i) j pos) (conE (.bl i)) := de_con pe_bl fun _ _ _ _ => by simp only [Rep]
theorem de_non {j pos} : DE X Γ (.Constant .none j pos) (conE .non) := de_con pe_non fun _ _ _ _ => by simp only [Rep]
theorem de_str {x j pos} : DE X Γ (.Constant (.str x) j pos) (conE (.str x)) := de_con pe_str fun _ _ _ _ => by simp only [Rep]
/-- a global's value -/
def GVal (K : PySem.W.Frag) (mg : Str → Option Value) (x : Str) (d : D) : Prop := ∃ u v, mg x = some u ∧ RelV v u ∧ ∀ ρ H S, Abs K ρ S H → Rep K ρ H d v
theorem de_gl {x : Str} {pos : Pos} {d : D} (h : GVal X.K X.mg x d) (hg : Gl X x := by rfl) (hd : (x == ("__debug__" : Str)) = false := by decide) : DE X Γ (.Name x pos) (conE d) := by
  obtain ⟨u, v, hm, r, hr⟩ := h
  exact de_con (pe_glob hg hm r hd) hr
theorem gval_int {K : PySem.W.Frag} {mg : Str → Option Value} {x : Str} {i : Int} (h : ∃ t, mg x = some (.int i t)) : GVal K mg x (.int i) := by
  obtain ⟨t, h⟩ := h
  exact ⟨_, .int i, h, ⟨t, rfl⟩, fun _ _ _ _ => by simp only [Rep]⟩
theorem gval_str {K : PySem.W.Frag} {mg : Str → Option Value} {x z : Str} (h : ∃ t, mg x = some (.str z t)) : GVal K mg x (.str z) := by
  obtain ⟨t, h⟩ := h
  exact ⟨_, .str z, h, ⟨t, rfl⟩, fun _ _ _ _ => by simp only [Rep]⟩
theorem gval_glo {K : PySem.W.Frag} {mg : Str → Option Value} {x : Str} (h : mg x = some (.ref (He.ga K x))) : GVal K mg x (.glo x) := ⟨_, .ref (He.ga K x), h, rfl, fun _ _ _ _ => by simp only [Rep]⟩
theorem gval_strs {K : PySem.W.Frag} {mg : Str → Option Value} {x : Str} {a : Addr} {zs : List Str} (h : mg x = some (.ref a)) (ht : ∀ H, SqT K H a (zs.map V.str)) : GVal K mg x (.tup (zs.map D.str)) := by
  refine ⟨_, .ref a, h, rfl, fun ρ H S A => ?_⟩
  simp only [Rep]
  refine ⟨a, zs.map V.str, rfl, ?_, Reps.of_strs⟩
  rcases ht (fun _ => none) with (h1 | ⟨o, h1⟩) | h1
  · cases h1
  · cases h1
  · exact .inr h1
end

/-! ### operators by values -/
def lstOf (S : Sto) : D → Option (List D)
  | .lst ds => some ds
  | .ref n => (match S[n]? with
    | some (.lst ds) => some ds
    | _ => none)
  | _ => none
theorem lst_rep {K : PySem.W.Frag} {ρ : Pl} {H : Hp} {S : Sto} {d : D} {ds : List D} {v : V} (A : Abs K ρ S H) (e : lstOf S d = some ds) (r : Rep K ρ H d v) : ∃ a vs, v = .ref a ∧ H a = some (.lst vs) ∧ Reps K ρ H ds vs := by
  cases d with
  | lst es =>
    simp only [lstOf, Option.some.injEq] at e
    subst e
    simp only [Rep] at r
    obtain ⟨a, vs, e1, l, r⟩ := r
    exact ⟨a, vs, e1, l.2, r⟩
  | ref n =>
    simp only [lstOf] at e
    simp only [Rep] at r
    obtain ⟨a, e1, e2⟩ := r
    split at e
    · rename_i es q
      cases e
      obtain ⟨vs, e3, r3⟩ := A.obj n a _ e2 q
      exact ⟨a, vs, e1, e3, r3⟩
    · cases e
  | _ => simp only [lstOf] at e <;> cases e
/-- g is what f does of values -/
def OpD (X : Cx) (f : Value → Value → Sem Value) (g : D → D → Sto → RE D) : Prop :=
  ∃ r, OpR X f r ∧ ∀ {Γ : Gam} {ρ : Pl} {σ : L2.St} {H : Hp} {S : Sto} {x y : D} {vx vy : V} {Q : VK}, Abs X.K ρ S H → Rep X.K ρ H x vx → Rep X.K ρ H y vy → PoE X.K Γ (Rep X.K) ρ σ H Q (g x y S) → r vx vy H Q
/-- a new tuple, a new list -/
theorem new_tup {K : PySem.W.Frag} {Γ : Gam} {ρ : Pl} {σ : L2.St} {H : Hp} {S : Sto} {Q : VK} {ds : List D} {vs : List V} {p : Addr} (A : Abs K ρ S H) (r : Reps K ρ H ds vs) (h : PoE K Γ (Rep K) ρ σ H Q (.ok (.tup ds) S)) (hp : H p = none) : Q (.ref p) (upd H p (.tup vs)) := by
  refine h ρ _ _ (Ext.put hp) (A.put hp) ?_
  simp only [Rep]
  exact ⟨p, vs, rfl, .inl ⟨A.fresh hp, upd_same⟩, r.mono (Ext.put hp)⟩
theorem new_lst {K : PySem.W.Frag} {Γ : Gam} {ρ : Pl} {σ : L2.St} {H : Hp} {S : Sto} {Q : VK} {ds : List D} {vs : List V} {p : Addr} (A : Abs K ρ S H) (r : Reps K ρ H ds vs) (h : PoE K Γ (Rep K) ρ σ H Q (.ok (.lst ds) S)) (hp : H p = none) : Q (.ref p) (upd H p (.lst vs)) := by
  refine h ρ _ _ (Ext.put hp) (A.put hp) ?_
  simp only [Rep]
  exact ⟨p, vs, rfl, ⟨A.fresh hp, upd_same⟩, r.mono (Ext.put hp)⟩
/-- a new place that holds a list -/
theorem new_ref {K : PySem.W.Frag} {Γ : Gam} {ρ : Pl} {σ : L2.St} {H : Hp} {S : Sto} {Q : VK} {ds : List D} {vs : List V} {p : Addr} (A : Abs K ρ S H) (r : Reps K ρ H ds vs) (h : PoE K Γ (Rep K) ρ σ H Q (.ok (.ref S.length) (S ++ [.lst ds]))) (hp : H p = none) : Q (.ref p) (upd H p (.lst vs)) := by
  refine h (ρ.add p) _ _ (Ext.add hp) (A.add hp ⟨vs, upd_same, r.mono (Ext.add hp)⟩) ?_
  simp only [Rep]
  exact ⟨p, rfl, by show (ρ.p ++ [p])[S.length]? = some p; rw [← A.len, List.getElem?_append_right (Nat.le_refl _)]; simp⟩
theorem PoE.val {K : PySem.W.Frag} {Γ : Gam} {ρ : Pl} {σ : L2.St} {H : Hp} {S : Sto} {Q : VK} {d : D} {v : V} (h : PoE K Γ (Rep K) ρ σ H Q (.ok d S)) (A : Abs K ρ S H) (r : Rep K ρ H d v) : Q v H := h ρ v H (Ext.refl _ _) A r

def addD (x y : D) (S : Sto) : RE D := match x, y with
  | .int i, .int j => .ok (.int (i + j)) S
  | .str a, .str b => if a.length + b.length ≤ sizeLine then .ok (.str (a ++ b)) S else .bad
  | .tup a, .tup b => if a.length + b.length ≤ sizeLine then .ok (.tup (a ++ b)) S else .bad
  | x, y => match lstOf S x, lstOf S y with
    | some a, some b => if a.length + b.length ≤ sizeLine then .ok (.lst (a ++ b)) S else .bad
    | _, _ => .bad
def intOp (f : Int → Int → Int) (x y : D) (S : Sto) : RE D := match x, y with
  | .int i, .int j => .ok (.int (f i j)) S
  | _, _ => .bad
def intOpC (C : Int → Int → Bool) (f : Int → Int → Int) (x y : D) (S : Sto) : RE D := match x, y with
  | .int i, .int j => if C i j = true then .ok (.int (f i j)) S else .bad
  | _, _ => .bad
def cmpD (p : Int → Int → Bool) (x y : D) (S : Sto) : RE D := match x, y with
  | .int i, .int j => .ok (.bl (p i j)) S
  | _, _ => .bad
section
variable {X : Cx}
theorem od_add : OpD X (binaryOp .Add) addD := by
  refine ⟨_, (op_add (X := X)).or ((op_add_str (X := X)).or ((op_catA (X := X)).or (op_cat (X := X)))), fun {Γ ρ σ H S x y vx vy Q} A rx ry h => ?_⟩
  unfold addD at h
  split at h
  · simp only [Rep] at rx ry
    subst rx ry
    exact .inl ⟨_, _, rfl, rfl, h.val A (by simp only [Rep])⟩
  · simp only [Rep] at rx ry
    subst rx ry
    split at h
    · rename_i hz
      exact .inr (.inl ⟨_, _, rfl, rfl, hz, h.val A (by simp only [Rep])⟩)
    · exact h.elim
  · simp only [Rep] at rx ry
    obtain ⟨a, vs, rfl, ta, ra⟩ := rx
    obtain ⟨b, ws, rfl, tb, rb⟩ := ry
    split at h
    · rename_i hz
      refine .inr (.inr (.inl ⟨a, b, vs, ws, rfl, rfl, ta.sq, tb.sq, by rw [ra.length, rb.length]; exact hz, fun e => ?_, fun _ e => ?_, fun _ _ p hp => new_tup A (ra.append rb) h hp⟩))
      · subst e
        have : _ = [] := List.eq_nil_of_length_eq_zero (by rw [← ra.length]; rfl)
        rw [this, List.nil_append] at h
        exact h.val A (by simp only [Rep]; exact ⟨b, ws, rfl, tb, rb⟩)
      · subst e
        have : _ = [] := List.eq_nil_of_length_eq_zero (by rw [← rb.length]; rfl)
        rw [this, List.append_nil] at h
        exact h.val A (by simp only [Rep]; exact ⟨a, vs, rfl, ta, ra⟩)
    · exact h.elim
  · split at h
    · rename_i a b e1 e2
      obtain ⟨pa, vs, rfl, ha, ra⟩ := lst_rep A e1 rx
      obtain ⟨pb, ws, rfl, hb, rb⟩ := lst_rep A e2 ry
      split at h
      · rename_i hz
        exact .inr (.inr (.inr ⟨pa, pb, vs, ws, rfl, rfl, ha, hb, by rw [ra.length, rb.length]; exact hz, fun p hp => new_lst A (ra.append rb) h hp⟩))
      · exact h.elim
    · exact h.elim
theorem od_int {f : Value → Value → Sem Value} {g : Int → Int → Int} (h : OpR X f (rI0 fun i j => .int (g i j))) : OpD X f (intOp g) := by
  refine ⟨_, h, fun {Γ ρ σ H S x y vx vy Q} A rx ry h => ?_⟩
  unfold intOp at h
  split at h
  · simp only [Rep] at rx ry
    subst rx ry
    exact ⟨_, _, rfl, rfl, h.val A (by simp only [Rep])⟩
  · exact h.elim
theorem od_intC {f : Value → Value → Sem Value} {C : Int → Int → Prop} {c : Int → Int → Bool} {g : Int → Int → Int} (h : OpR X f (rI C fun i j => .int (g i j))) (hc : ∀ i j, c i j = true → C i j) : OpD X f (intOpC c g) := by
  refine ⟨_, h, fun {Γ ρ σ H S x y vx vy Q} A rx ry h => ?_⟩
  unfold intOpC at h
  split at h
  · simp only [Rep] at rx ry
    subst rx ry
    split at h
    · rename_i q
      exact ⟨_, _, rfl, rfl, hc _ _ q, h.val A (by simp only [Rep])⟩
    · exact h.elim
  · exact h.elim
theorem od_cmp {f : Value → Value → Sem Value} {p : Int → Int → Bool} (h : OpR X f (rI0 fun i j => .bl (p i j))) : OpD X f (cmpD p) := by
  refine ⟨_, h, fun {Γ ρ σ H S x y vx vy Q} A rx ry h => ?_⟩
  unfold cmpD at h
  split at h
  · simp only [Rep] at rx ry
    subst rx ry
    exact ⟨_, _, rfl, rfl, h.val A (by simp only [Rep])⟩
  · exact h.elim
abbrev subD := intOp fun i j => i - j
abbrev divD := intOpC (fun i j => decide (0 < j ∧ j < 1073741824)) fun i j => i / j
abbrev modD := intOpC (fun i j => decide (0 < j)) fun i j => i % j
abbrev powD := intOpC (fun i j => decide (0 ≤ j ∧ j ≤ 1000000 ∧ i.natAbs < 2 ^ 64)) fun i j => i ^ j.toNat
abbrev ltD := cmpD fun i j => decide (i < j)
abbrev leD := cmpD fun i j => decide (i ≤ j)
abbrev gtD := cmpD fun i j => decide (j < i)
abbrev geD := cmpD fun i j => decide (j ≤ i)
theorem od_sub : OpD X (binaryOp .Sub) subD := od_int op_sub
theorem od_div : OpD X (binaryOp .FloorDiv) divD := od_intC op_fdiv fun i j h => by simpa [CDiv] using h
theorem od_mod : OpD X (binaryOp .Mod) modD := od_intC op_mod fun i j h => by simpa using h
theorem od_pow : OpD X (binaryOp .Pow) powD := od_intC op_pow fun i j h => by simpa [CPow] using h
theorem od_lt : OpD X (compareOp .Lt) ltD := od_cmp op_lt
theorem od_le : OpD X (compareOp .LtE) leD := od_cmp op_le
theorem od_gt : OpD X (compareOp .Gt) gtD := od_cmp op_gt
theorem od_ge : OpD X (compareOp .GtE) geD := od_cmp op_ge
end

/-! ### expressions of two parts -/
def binE (g : D → D → Sto → RE D) (ma mb : ME) : ME := fun δ S => (ma δ S).bind fun x S1 => (mb δ S1).bind fun y S2 => g x y S2
def unE (g : D → Sto → RE D) (ma : ME) : ME := fun δ S => (ma δ S).bind g
def testE (m : ME) : MB := fun δ S => (m δ S).bind fun d S1 => match d with
  | .bl b => .ok b S1
  | _ => .bad
def chainE (g g' : D → D → Sto → RE D) (ma mb mc : ME) : ME := fun δ S => (ma δ S).bind fun x S1 => (mb δ S1).bind fun y S2 => (g x y S2).bind fun z S3 => match z with
  | .bl true => (mc δ S3).bind fun w S4 => g' y w S4
  | .bl false => .ok (.bl false) S3
  | _ => .bad
section
variable {X : Cx} {Γ : Gam} {a b c : Expr} {ma mb mc : ME} {pos : Pos}
theorem bin_go {g : D → D → Sto → RE D} {r : R2} (hr : ∀ {Γ : Gam} {ρ : Pl} {σ : L2.St} {H : Hp} {S : Sto} {x y : D} {vx vy : V} {Q : VK}, Abs X.K ρ S H → Rep X.K ρ H x vx → Rep X.K ρ H y vy → PoE X.K Γ (Rep X.K) ρ σ H Q (g x y S) → r vx vy H Q)
    (σ : L2.St) (H : Hp) (Q : VK) (h : DL.tE X.K Γ (binE g ma mb) σ H Q) : tOp r (DL.tE X.K Γ ma) (DL.tE X.K Γ mb) σ H Q := by
  obtain ⟨ρ, δ, S, w, h⟩ := h
  refine ⟨ρ, δ, S, w, PoE.imp ?_ (PoE.then h)⟩
  rintro v1 H1 ⟨ρ1, d1, S1, e1, A1, r1, h1⟩
  refine ⟨ρ1, δ, S1, w.go e1 A1, PoE.imp ?_ (PoE.then h1)⟩
  rintro v2 H2 ⟨ρ2, d2, S2, e2, A2, r2, h2⟩
  exact hr A2 (r1.mono e2) r2 h2
theorem de_op {op : Operator} {g : D → D → Sto → RE D} (ho : OpD X (binaryOp op) g) (ha : DE X Γ a ma) (hb : DE X Γ b mb) : DE X Γ (.BinOp a op b pos) (binE g ma mb) := by
  obtain ⟨r, h1, h2⟩ := ho
  exact pe_imp (pe_op h1 ha hb) (bin_go h2)
theorem de_cmp {op : CmpOp} {g : D → D → Sto → RE D} (ho : OpD X (compareOp op) g) (ha : DE X Γ a ma) (hb : DE X Γ b mb) (hm : behindInMarks op b = false := by first | exact nomark _ | rfl) : DE X Γ (.Compare a [op] [b] pos) (binE g ma mb) := by
  obtain ⟨r, h1, h2⟩ := ho
  exact pe_imp (pe_cmpR h1 ha hb hm) (bin_go h2)
theorem tTest_go {t : TE} {m : ME} (ht : ∀ σ H Q, DL.tE X.K Γ m σ H Q → t σ H Q) (σ : L2.St) (H : Hp) (Q : Bool → Hp → Prop) (h : DL.tT X.K Γ (testE m) σ H Q) : tTest t σ H Q := by
  obtain ⟨ρ, δ, S, w, h⟩ := h
  refine ht _ _ _ ⟨ρ, δ, S, w, PoE.imp ?_ (PoE.then h)⟩
  rintro v1 H1 ⟨ρ1, d1, S1, e1, A1, r1, h1⟩
  split at h1
  · rename_i b
    simp only [Rep] at r1
    exact ⟨b, r1, h1 ρ1 b H1 (Ext.refl _ _) A1 rfl⟩
  · exact h1.elim
theorem dt_cmp {op : CmpOp} {g : D → D → Sto → RE D} (ho : OpD X (compareOp op) g) (ha : DE X Γ a ma) (hb : DE X Γ b mb) (hm : behindInMarks op b = false := by first | exact nomark _ | rfl) : DT X Γ (.Compare a [op] [b] pos) (testE (binE g ma mb)) := by
  obtain ⟨r, h1, h2⟩ := ho
  exact pt_imp (pt_cmpR h1 ha hb hm) (tTest_go (bin_go h2))
theorem chain_go {g g' : D → D → Sto → RE D} {r r' : R2} (hr : ∀ {Γ : Gam} {ρ : Pl} {σ : L2.St} {H : Hp} {S : Sto} {x y : D} {vx vy : V} {Q : VK}, Abs X.K ρ S H → Rep X.K ρ H x vx → Rep X.K ρ H y vy → PoE X.K Γ (Rep X.K) ρ σ H Q (g x y S) → r vx vy H Q)
    (hr' : ∀ {Γ : Gam} {ρ : Pl} {σ : L2.St} {H : Hp} {S : Sto} {x y : D} {vx vy : V} {Q : VK}, Abs X.K ρ S H → Rep X.K ρ H x vx → Rep X.K ρ H y vy → PoE X.K Γ (Rep X.K) ρ σ H Q (g' x y S) → r' vx vy H Q)
    (σ : L2.St) (H : Hp) (Q : VK) (h : DL.tE X.K Γ (chainE g g' ma mb mc) σ H Q) : tChain r r' (DL.tE X.K Γ ma) (DL.tE X.K Γ mb) (DL.tE X.K Γ mc) σ H Q := by
  obtain ⟨ρ, δ, S, w, h⟩ := h
  refine ⟨ρ, δ, S, w, PoE.imp ?_ (PoE.then h)⟩
  rintro v1 H1 ⟨ρ1, d1, S1, e1, A1, r1, h1⟩
  refine ⟨ρ1, δ, S1, w.go e1 A1, PoE.imp ?_ (PoE.then h1)⟩
  rintro v2 H2 ⟨ρ2, d2, S2, e2, A2, r2, h2⟩
  refine hr (σ := σ) (Γ := Γ) A2 (r1.mono e2) r2 (PoE.imp ?_ (PoE.then h2))
  rintro v3 H3 ⟨ρ3, d3, S3, e3, A3, r3, h3⟩
  split at h3
  · simp only [Rep] at r3
    refine ⟨true, r3, ?_⟩
    rw [if_pos rfl]
    refine ⟨ρ3, δ, S3, w.go ((e1.trans e2).trans e3) A3, PoE.imp ?_ (PoE.then h3)⟩
    rintro v4 H4 ⟨ρ4, d4, S4, e4, A4, r4, h4⟩
    exact hr' A4 ((r2.mono e3).mono e4) r4 h4
  · simp only [Rep] at r3
    refine ⟨false, r3, ?_⟩
    rw [if_neg Bool.false_ne_true]
    exact h3.val A3 (by simp only [Rep])
  · exact h3.elim
theorem de_chain {op op' : CmpOp} {g g' : D → D → Sto → RE D} (ho : OpD X (compareOp op) g) (ho' : OpD X (compareOp op') g') (ha : DE X Γ a ma) (hb : DE X Γ b mb) (hc : DE X Γ c mc) (hm : lastMarks [op, op'] [b, c] = false := by with_unfolding_all rfl) : DE X Γ (.Compare a [op, op'] [b, c] pos) (chainE g g' ma mb mc) := by
  obtain ⟨r, h1, h2⟩ := ho
  obtain ⟨r', h1', h2'⟩ := ho'
  exact pe_imp (pe_chain h1 h1' ha hb hc hm) (chain_go h2 h2')
theorem dt_chain {op op' : CmpOp} {g g' : D → D → Sto → RE D} (ho : OpD X (compareOp op) g) (ho' : OpD X (compareOp op') g') (ha : DE X Γ a ma) (hb : DE X Γ b mb) (hc : DE X Γ c mc) (hm : lastMarks [op, op'] [b, c] = false := by with_unfolding_all rfl) : DT X Γ (.Compare a [op, op'] [b, c] pos) (testE (chainE g g' ma mb mc)) := by
  obtain ⟨r, h1, h2⟩ := ho
  obtain ⟨r', h1', h2'⟩ := ho'
  exact pt_imp (pt_chain h1 h1' ha hb hc hm) (tTest_go (chain_go h2 h2'))
/-- -x -/
def negD (x : D) (S : Sto) : RE D := match x with
  | .int i => .ok (.int (-i)) S
  | _ => .bad
theorem de_neg (ha : DE X Γ a ma) : DE X Γ (.UnaryOp .USub a pos) (unE negD ma) := by
  refine pe_imp (pe_un un_neg ha) ?_
  rintro σ H Q ⟨ρ, δ, S, w, h⟩
  refine ⟨ρ, δ, S, w, PoE.imp ?_ (PoE.then h)⟩
  rintro v1 H1 ⟨ρ1, d1, S1, e1, A1, r1, h1⟩
  unfold negD at h1
  split at h1
  · simp only [Rep] at r1
    exact ⟨_, r1, h1.val A1 (by simp only [Rep])⟩
  · exact h1.elim

/-! ### truth -/
def truD (S : Sto) : D → Option Bool
  | .non => some false
  | .bl b => some b
  | .int i => some (i != 0)
  | .str x => if x.length ≤ sizeLine then some ((x.length : Int) != 0) else none
  | .tup ds => some (!ds.isEmpty)
  | .emp => some false
  | d => (lstOf S d).map fun ds => !ds.isEmpty
theorem tru_rep {K : PySem.W.Frag} {ρ : Pl} {H : Hp} {S : Sto} {d : D} {b : Bool} {v : V} (A : Abs K ρ S H) (e : truD S d = some b) (r : Rep K ρ H d v) : TruV K v H b := by
  have emp : ∀ {ds : List D} {vs : List V}, Reps K ρ H ds vs → (!ds.isEmpty) = !vs.isEmpty := fun {ds vs} r => by
    have := r.length
    cases ds <;> cases vs <;> first | rfl | (simp at this)
  have lst : ∀ {d}, (lstOf S d).map (fun ds => !ds.isEmpty) = some b → Rep K ρ H d v → TruV K v H b := fun {d} e r => by
    obtain ⟨ds, e1, e2⟩ := Option.map_eq_some_iff.mp e
    obtain ⟨a, vs, rfl, ha, ra⟩ := lst_rep A e1 r
    exact .inl ⟨vs, SqL.of ha, by rw [← e2]; exact emp ra⟩
  cases d with
  | non => simp only [truD, Option.some.injEq] at e; simp only [Rep] at r; subst r e; rfl
  | bl c => simp only [truD, Option.some.injEq] at e; simp only [Rep] at r; subst r e; rfl
  | int c => simp only [truD, Option.some.injEq] at e; simp only [Rep] at r; subst r e; rfl
  | str x =>
    simp only [truD] at e
    simp only [Rep] at r
    subst r
    split at e
    · rename_i hz
      cases e
      exact ⟨hz, rfl⟩
    · cases e
  | tup ds =>
    simp only [truD, Option.some.injEq] at e
    simp only [Rep] at r
    obtain ⟨a, vs, rfl, t, ra⟩ := r
    exact .inr (.inl ⟨vs, t.sq, by rw [← e]; exact emp ra⟩)
  | lst ds => exact lst (d := .lst ds) e r
  | emp =>
    simp only [truD, Option.some.injEq] at e
    simp only [Rep] at r
    obtain ⟨a, rfl, _, h⟩ := r
    exact .inr (.inr ⟨[], h, by rw [← e]; rfl⟩)
  | scr ns => simp only [truD, lstOf, Option.map_none] at e; cases e
  | ref n => exact lst (d := .ref n) e r
  | glo n => simp only [truD, lstOf, Option.map_none] at e; cases e
  | ty n => simp only [truD, lstOf, Option.map_none] at e; cases e
def truE (m : ME) : MB := fun δ S => (m δ S).bind fun d S1 => match truD S1 d with
  | some b => .ok b S1
  | none => .bad
theorem dt_truth (ha : DE X Γ a ma) (he : ∀ whole, isTrue a X.env whole = (do let v ← whole; standAt a.pos; holding [v] (truthy v)) := by intro _; rfl) : DT X Γ a (truE ma) := by
  refine pt_imp (pt_truth ha he) ?_
  rintro σ H Q ⟨ρ, δ, S, w, h⟩
  refine ⟨ρ, δ, S, w, PoE.imp ?_ (PoE.then h)⟩
  rintro v1 H1 ⟨ρ1, d1, S1, e1, A1, r1, h1⟩
  split at h1
  · rename_i b e
    exact ⟨b, tru_rep A1 e r1, h1 ρ1 b H1 (Ext.refl _ _) A1 rfl⟩
  · exact h1.elim
def notT (m : MB) : MB := fun δ S => (m δ S).bind fun b S1 => .ok (!b) S1
def andT (m n : MB) : MB := fun δ S => (m δ S).bind fun b S1 => match b with
  | true => n δ S1
  | false => .ok false S1
def orT (m n : MB) : MB := fun δ S => (m δ S).bind fun b S1 => match b with
  | true => .ok true S1
  | false => n δ S1
abbrev DW (X : Cx) (Γ : Gam) (e : Expr) (m : MB) : Prop := PW X e (DL.tT X.K Γ m)
variable {rest : List Expr} {na nb : MB}
theorem dt_not (ha : DT X Γ a na) : DT X Γ (.UnaryOp .Not a pos) (notT na) := by
  refine pt_imp (pt_not ha) ?_
  rintro σ H Q ⟨ρ, δ, S, w, h⟩
  refine ⟨ρ, δ, S, w, PoE.imp ?_ (PoE.then h)⟩
  rintro v1 H1 ⟨ρ1, d1, S1, e1, A1, r1, h1⟩
  have : v1 = d1 := r1
  subst this
  exact h1 ρ1 _ H1 (Ext.refl _ _) A1 rfl
theorem dw_and1 (ha : DT X Γ a na) : DW X Γ (.BoolOp .And [a] pos) na := pw_and1 ha
theorem dw_or1 (ha : DT X Γ a na) : DW X Γ (.BoolOp .Or [a] pos) na := pw_or1 ha
theorem dw_and (ha : DT X Γ a na) (hb : DW X Γ (.BoolOp .And (b :: rest) pos) nb) : DW X Γ (.BoolOp .And (a :: b :: rest) pos) (andT na nb) := by
  refine pw_imp (pw_and ha hb) ?_
  rintro σ H Q ⟨ρ, δ, S, w, h⟩
  refine ⟨ρ, δ, S, w, PoE.imp ?_ (PoE.then h)⟩
  rintro v1 H1 ⟨ρ1, d1, S1, e1, A1, r1, h1⟩
  have : v1 = d1 := r1
  subst this
  cases v1 with
  | true =>
    rw [if_pos rfl]
    exact ⟨ρ1, δ, S1, w.go e1 A1, h1⟩
  | false =>
    rw [if_neg Bool.false_ne_true]
    exact h1 ρ1 _ H1 (Ext.refl _ _) A1 rfl
theorem dw_or (ha : DT X Γ a na) (hb : DW X Γ (.BoolOp .Or (b :: rest) pos) nb) : DW X Γ (.BoolOp .Or (a :: b :: rest) pos) (orT na nb) := by
  refine pw_imp (pw_or ha hb) ?_
  rintro σ H Q ⟨ρ, δ, S, w, h⟩
  refine ⟨ρ, δ, S, w, PoE.imp ?_ (PoE.then h)⟩
  rintro v1 H1 ⟨ρ1, d1, S1, e1, A1, r1, h1⟩
  have : v1 = d1 := r1
  subst this
  cases v1 with
  | true =>
    rw [if_pos rfl]
    exact h1 ρ1 _ H1 (Ext.refl _ _) A1 rfl
  | false =>
    rw [if_neg Bool.false_ne_true]
    exact ⟨ρ1, δ, S1, w.go e1 A1, h1⟩
theorem dt_bool {op : BoolOp} (h : DW X Γ (.BoolOp op rest pos) na) : DT X Γ (.BoolOp op rest pos) na := h.pt
/-- as values -/
def andE (m n : ME) : ME := fun δ S => (m δ S).bind fun d S1 => match truD S1 d with
  | some true => n δ S1
  | some false => .ok d S1
  | none => .bad
def orE (m n : ME) : ME := fun δ S => (m δ S).bind fun d S1 => match truD S1 d with
  | some true => .ok d S1
  | some false => n δ S1
  | none => .bad
def notE (m : ME) : ME := fun δ S => (m δ S).bind fun d S1 => match truD S1 d with
  | some b => .ok (.bl (!b)) S1
  | none => .bad
theorem de_one {op : BoolOp} (ha : DE X Γ a ma) : DE X Γ (.BoolOp op [a] pos) ma := pe_one ha
theorem de_and (ha : DE X Γ a ma) (hb : DE X Γ (.BoolOp .And (b :: rest) pos) mb) : DE X Γ (.BoolOp .And (a :: b :: rest) pos) (andE ma mb) := by
  refine pe_imp (pe_andT ha hb) ?_
  rintro σ H Q ⟨ρ, δ, S, w, h⟩
  refine ⟨ρ, δ, S, w, PoE.imp ?_ (PoE.then h)⟩
  rintro v1 H1 ⟨ρ1, d1, S1, e1, A1, r1, h1⟩
  split at h1
  · rename_i e
    refine ⟨true, tru_rep A1 e r1, ?_⟩
    rw [if_pos rfl]
    exact ⟨ρ1, δ, S1, w.go e1 A1, h1⟩
  · rename_i e
    refine ⟨false, tru_rep A1 e r1, ?_⟩
    rw [if_neg Bool.false_ne_true]
    exact h1.val A1 r1
  · exact h1.elim
theorem de_or (ha : DE X Γ a ma) (hb : DE X Γ (.BoolOp .Or (b :: rest) pos) mb) : DE X Γ (.BoolOp .Or (a :: b :: rest) pos) (orE ma mb) := by
  refine pe_imp (pe_orT ha hb) ?_
  rintro σ H Q ⟨ρ, δ, S, w, h⟩
  refine ⟨ρ, δ, S, w, PoE.imp ?_ (PoE.then h)⟩
  rintro v1 H1 ⟨ρ1, d1, S1, e1, A1, r1, h1⟩
  split at h1
  · rename_i e
    refine ⟨true, tru_rep A1 e r1, ?_⟩
    rw [if_pos rfl]
    exact h1.val A1 r1
  · rename_i e
    refine ⟨false, tru_rep A1 e r1, ?_⟩
    rw [if_neg Bool.false_ne_true]
    exact ⟨ρ1, δ, S1, w.go e1 A1, h1⟩
  · exact h1.elim
theorem de_not (ha : DE X Γ a ma) : DE X Γ (.UnaryOp .Not a pos) (notE ma) := by
  refine pe_imp (pe_notT ha) ?_
  rintro σ H Q ⟨ρ, δ, S, w, h⟩
  refine ⟨ρ, δ, S, w, PoE.imp ?_ (PoE.then h)⟩
  rintro v1 H1 ⟨ρ1, d1, S1, e1, A1, r1, h1⟩
  split at h1
  · rename_i b e
    exact ⟨b, tru_rep A1 e r1, h1.val A1 (by simp only [Rep])⟩
  · exact h1.elim
def ifE (c : MB) (m n : ME) : ME := fun δ S => (c δ S).bind fun b S1 => match b with
  | true => m δ S1
  | false => n δ S1
theorem de_if (hc : DT X Γ c na) (ha : DE X Γ a ma) (hb : DE X Γ b mb) : DE X Γ (.IfExp c a b pos) (ifE na ma mb) := by
  refine pe_imp (pe_ifExp hc ha hb) ?_
  rintro σ H Q ⟨ρ, δ, S, w, h⟩
  refine ⟨ρ, δ, S, w, PoE.imp ?_ (PoE.then h)⟩
  rintro v1 H1 ⟨ρ1, d1, S1, e1, A1, r1, h1⟩
  have : v1 = d1 := r1
  subst this
  cases v1 with
  | true =>
    rw [if_pos rfl]
    exact ⟨ρ1, δ, S1, w.go e1 A1, h1⟩
  | false =>
    rw [if_neg Bool.false_ne_true]
    exact ⟨ρ1, δ, S1, w.go e1 A1, h1⟩

/-! ### argument lists, displays -/
def nilA : MA := fun _ S => .ok [] S
def consA (m : ME) (n : MA) : MA := fun δ S => (m δ S).bind fun d S1 => (n δ S1).bind fun ds S2 => .ok (d :: ds) S2
def starA (m : ME) (n : MA) : MA := fun δ S => (m δ S).bind fun d S1 => match (match d with
    | .tup es => some es
    | d => lstOf S1 d) with
  | some es => (n δ S1).bind fun ds S2 => .ok (es ++ ds) S2
  | none => .bad
variable {es : List Expr} {mes : MA}
theorem da_nil : DA X Γ [] nilA := by
  refine pa_imp pa_nil ?_
  rintro σ H Q ⟨ρ, δ, S, w, h⟩
  exact h ρ [] H (Ext.refl _ _) w.abs (by simp only [Reps])
theorem da_cons (ha : DE X Γ a ma) (hr : DA X Γ es mes) (hs : starEach (a :: es) X.env = (false, eval a X.env) :: starEach es X.env := by rfl) : DA X Γ (a :: es) (consA ma mes) := by
  refine pa_imp (pa_cons ha hr hs) ?_
  rintro σ H Q ⟨ρ, δ, S, w, h⟩
  refine ⟨ρ, δ, S, w, PoE.imp ?_ (PoE.then h)⟩
  rintro v1 H1 ⟨ρ1, d1, S1, e1, A1, r1, h1⟩
  refine ⟨ρ1, δ, S1, w.go e1 A1, PoE.imp ?_ (PoE.then h1)⟩
  rintro v2 H2 ⟨ρ2, d2, S2, e2, A2, r2, h2⟩
  exact h2 ρ2 _ H2 (Ext.refl _ _) A2 (by simp only [Reps]; exact ⟨_, _, rfl, r1.mono e2, r2⟩)
theorem da_star {p : Pos} (ha : DE X Γ a ma) (hr : DA X Γ es mes) (hs : starEach (.Starred a p :: es) X.env = (true, eval a X.env) :: starEach es X.env := by rfl) : DA X Γ (.Starred a p :: es) (starA ma mes) := by
  refine pa_imp (StX.pa_star ha hr hs) ?_
  rintro σ H Q ⟨ρ, δ, S, w, h⟩
  refine ⟨ρ, δ, S, w, PoE.imp ?_ (PoE.then h)⟩
  rintro v1 H1 ⟨ρ1, d1, S1, e1, A1, r1, h1⟩
  split at h1
  · rename_i es' e
    have key : ∃ p xs, v1 = V.ref p ∧ (SqT X.K H1 p xs ∨ SqL X.K H1 p xs) ∧ Reps X.K ρ1 H1 es' xs := by
      split at e
      · cases e
        simp only [Rep] at r1
        obtain ⟨q, vs, e, t, r⟩ := r1
        exact ⟨q, vs, e, .inl t.sq, r⟩
      · obtain ⟨q, vs, e, t, r⟩ := lst_rep A1 e r1
        exact ⟨q, vs, e, .inr (SqL.of t), r⟩
    obtain ⟨q, vs, rfl, t, r⟩ := key
    refine ⟨q, vs, rfl, t, ρ1, δ, S1, w.go e1 A1, PoE.imp ?_ (PoE.then h1)⟩
    rintro v2 H2 ⟨ρ2, d2, S2, e2, A2, r2, h2⟩
    exact h2 ρ2 _ H2 (Ext.refl _ _) A2 ((r.mono e2).append r2)
  · exact h1.elim
def tupE (m : MA) : ME := fun δ S => (m δ S).bind fun ds S1 => if ds.length ≤ sizeLine then .ok (.tup ds) S1 else .bad
def lstE (m : MA) : ME := fun δ S => (m δ S).bind fun ds S1 => if ds.length ≤ sizeLine then .ok (.lst ds) S1 else .bad
/-- a list that will change -/
def refE (m : MA) : ME := fun δ S => (m δ S).bind fun ds S1 => if ds.length ≤ sizeLine then .ok (.ref S1.length) (S1 ++ [.lst ds]) else .bad
theorem de_tup {j} (h : DA X Γ es mes) : DE X Γ (.Tuple es j pos) (tupE mes) := by
  refine pe_imp (pe_tup h) ?_
  rintro σ H Q ⟨ρ, δ, S, w, h⟩
  refine ⟨ρ, δ, S, w, PoE.imp ?_ (PoE.then h)⟩
  rintro v1 H1 ⟨ρ1, d1, S1, e1, A1, r1, h1⟩
  split at h1
  · rename_i hz
    exact ⟨by rw [r1.length]; exact hz, fun p hp => new_tup A1 r1 h1 hp⟩
  · exact h1.elim
theorem de_lst (h : DA X Γ es mes) : DE X Γ (.List es pos) (lstE mes) := by
  refine pe_imp (pe_lst h) ?_
  rintro σ H Q ⟨ρ, δ, S, w, h⟩
  refine ⟨ρ, δ, S, w, PoE.imp ?_ (PoE.then h)⟩
  rintro v1 H1 ⟨ρ1, d1, S1, e1, A1, r1, h1⟩
  split at h1
  · rename_i hz
    exact ⟨by rw [r1.length]; exact hz, fun p hp => new_lst A1 r1 h1 hp⟩
  · exact h1.elim
theorem de_ref (h : DA X Γ es mes) : DE X Γ (.List es pos) (refE mes) := by
  refine pe_imp (pe_lst h) ?_
  rintro σ H Q ⟨ρ, δ, S, w, h⟩
  refine ⟨ρ, δ, S, w, PoE.imp ?_ (PoE.then h)⟩
  rintro v1 H1 ⟨ρ1, d1, S1, e1, A1, r1, h1⟩
  split at h1
  · rename_i hz
    exact ⟨by rw [r1.length]; exact hz, fun p hp => new_ref A1 r1 h1 hp⟩
  · exact h1.elim
end
end DL

/-! DL3: targets, statements, defs and calls. -/
namespace DL
open PySem PySem.Spec PyProof.Rows L2

/-! ### targets -/
abbrev MG := D → Sto → Loc → Option Loc
abbrev MGs := List D → Sto → Loc → Option Loc
section
variable (K : PySem.W.Frag) (Γ : Gam)
def tG (g : MG) : TG := fun v σ H Q => ∃ ρ δ S d, At K Γ ρ σ H δ S ∧ Rep K ρ H d v ∧ ∃ δ', g d S δ = some δ' ∧ ∀ σ', LocR K ρ H σ' δ' → Γ.L σ' → Q σ' H
def tGs (g : MGs) : TGs := fun vs σ H Q => ∃ ρ δ S ds, At K Γ ρ σ H δ S ∧ Reps K ρ H ds vs ∧ ∃ δ', g ds S δ = some δ' ∧ ∀ σ', LocR K ρ H σ' δ' → Γ.L σ' → Q σ' H
end
abbrev DG (X : Cx) (Γ : Gam) (e : Expr) (g : MG) : Prop := PG X e (tG X.K Γ g)
abbrev DGs (X : Cx) (Γ : Gam) (es : List Expr) (g : MGs) : Prop := PGs X es (tGs X.K Γ g)
def nameG (i : Nat) : MG := fun d _ δ => some (δ.set i (some d))
def nilG : MGs := fun ds _ δ => match ds with
  | [] => some δ
  | _ => none
def consG (g : MG) (gs : MGs) : MGs := fun ds S δ => match ds with
  | d :: r => (g d S δ).bind fun δ1 => gs r S δ1
  | [] => none
def seqOf (S : Sto) : D → Option (List D)
  | .tup ds => some ds
  | d => lstOf S d
def tupG (n : Nat) (gs : MGs) : MG := fun d S δ => match seqOf S d with
  | some ds => if ds.length = n then gs ds S δ else none
  | none => none
theorem pg_imp {X : Cx} {e : Expr} {t t' : TG} (h : PG X e t) (k : ∀ v σ H Q, t' v σ H Q → t v σ H Q) : PG X e t' := ⟨fun pins s σ H v u Q I r q => h.run pins s σ H v u Q I r (k v σ H Q q)⟩
theorem pgs_imp {X : Cx} {e : List Expr} {t t' : TGs} (h : PGs X e t) (k : ∀ v σ H Q, t' v σ H Q → t v σ H Q) : PGs X e t' := ⟨fun pins s σ H v u Q I r q => h.run pins s σ H v u Q I r (k v σ H Q q)⟩
theorem pg_or {X : Cx} {e : Expr} {t t' : TG} (h : PG X e t) (h' : PG X e t') : PG X e (fun v σ H Q => t v σ H Q ∨ t' v σ H Q) := ⟨fun pins s σ H v u Q I r q => q.elim (h.run pins s σ H v u Q I r) (h'.run pins s σ H v u Q I r)⟩
section
variable {X : Cx} {Γ : Gam} {e : Expr} {es : List Expr} {pos : Pos} {g : MG} {gs : MGs}
theorem dg_name (i : Nat) {x : Str} (hN : X.N.Nodup) (hi : X.N[i]? = some x := by rfl) (hx : L2.Loc X.env.scope x := by first | exact Or.inl rfl | exact Or.inr rfl) (hf : X.fn x = true ∨ X.env.scope.names.lookup x = some .local := by first | exact .inl rfl | exact .inr rfl | assumption) (hfr : Γ.fr i := by first | trivial | decide) : DG X Γ (.Name x pos) (nameG i) := by
  refine pg_imp (pg_name hN hi hx hf) ?_
  rintro v σ H Q ⟨ρ, δ, S, d, w, r, δ', e, k⟩
  cases e
  exact k _ (w.loc.set r) (Γ.lset hfr w.l)
theorem dgs_nil : DGs X Γ [] nilG := by
  refine pgs_imp pgs_nil ?_
  rintro v σ H Q ⟨ρ, δ, S, ds, w, r, δ', e, k⟩
  cases ds with
  | nil =>
    cases e
    simp only [Reps] at r
    exact ⟨r, k _ w.loc w.l⟩
  | cons d r => cases e
theorem dgs_cons (h1 : DG X Γ e g) (h2 : DGs X Γ es gs) (hs : (assignEach (e :: es) X.env).map (·.2) = assign e X.env :: (assignEach es X.env).map (·.2) := by rfl) : DGs X Γ (e :: es) (consG g gs) := by
  refine pgs_imp (pgs_cons h1 h2 hs) ?_
  rintro v σ H Q ⟨ρ, δ, S, ds, w, r, δ', e, k⟩
  cases ds with
  | nil => cases e
  | cons d r' =>
    simp only [Reps] at r
    obtain ⟨v', ws, rfl, r1, r2⟩ := r
    obtain ⟨δ1, e1, e2⟩ := Option.bind_eq_some_iff.mp (show (g d S δ).bind (fun δ1 => gs r' S δ1) = some δ' from e)
    refine ⟨v', ws, rfl, ρ, δ, S, d, w, r1, δ1, e1, fun σ1 L1 l1 => ?_⟩
    exact ⟨ρ, δ1, S, r', ⟨L1, w.abs, w.j, l1⟩, r2, δ', e2, k⟩
theorem dg_tup {n k : Nat} (hc : X.calm = true) (h : DGs X Γ es gs) (hn : (assignEach es X.env).length = n := by rfl) (hst : (assignEach es X.env).findIdx? (·.1) = none := by rfl) : DG X Γ (.Tuple es k pos) (tupG n gs) := by
  refine pg_imp (pg_or (pg_tup hc h hn hst) (pg_lst hc h hn hst)) ?_
  rintro v σ H Q ⟨ρ, δ, S, d, w, r, δ', e, k⟩
  unfold tupG at e
  split at e
  · rename_i ds eq
    split at e
    · rename_i hl
      unfold seqOf at eq
      split at eq
      · cases eq
        simp only [Rep] at r
        obtain ⟨a, vs, rfl, t, r⟩ := r
        exact .inl ⟨a, vs, rfl, t.sq, by rw [r.length]; exact hl, ρ, δ, S, _, w, r, δ', e, k⟩
      · obtain ⟨a, vs, rfl, t, r⟩ := lst_rep w.abs eq r
        exact .inr ⟨a, vs, rfl, SqL.of t, by rw [r.length]; exact hl, ρ, δ, S, _, w, r, δ', e, k⟩
    · cases e
  · cases e
end

/-! ### statements -/
def passS : MS := fun δ S => .nx δ S
def seqS (m n : MS) : MS := fun δ S => (m δ S).andThen n
def asgS (m : ME) (g : MG) : MS := fun δ S => (m δ S).toS δ fun d S1 => match g d S1 δ with
  | some δ' => .nx δ' S1
  | none => .bad
def retS (m : ME) : MS := fun δ S => (m δ S).toS δ fun d S1 => .rt d S1
def exprS (m : ME) : MS := fun δ S => (m δ S).toS δ fun _ S1 => .nx δ S1
def ifS (c : MB) (m n : MS) : MS := fun δ S => (c δ S).toS δ fun b S1 => match b with
  | true => m δ S1
  | false => n δ S1
def parS (is : List Nat) (m : MA) : MS := fun δ S => (m δ S).toS δ fun ds S1 => if ds.length = is.length then .nx ((is.zip ds).foldl (fun δ p => δ.set p.1 (some p.2)) δ) S1 else .bad
section
variable {X : Cx} {Γ : Gam} {st : Stmt} {rest : List Stmt} {m n : MS} {e : Expr} {me : ME} {pos : Pos}
theorem dss_nil : DSs X Γ [] passS := by
  refine pss_imp pss_nil ?_
  rintro D σ H ⟨ρ, δ, S, w, h⟩
  exact h ρ σ H (Ext.refl _ _) w.loc w.l w.abs
theorem seq_go (D : Ends) (σ : L2.St) (H : Hp) (h : DL.tS X.K Γ (seqS m n) D σ H) : tSeq (DL.tS X.K Γ m) (DL.tS X.K Γ n) D σ H := by
  obtain ⟨ρ, δ, S, w, h⟩ := h
  refine ⟨ρ, δ, S, w, ?_⟩
  unfold seqS at h
  cases e : m δ S with
  | nx δ1 S1 =>
    rw [e] at h
    intro ρ1 σ1 H1 x L l A
    exact ⟨ρ1, δ1, S1, ⟨L, A, Γ.mono x.wk w.j, l⟩, PoS.mono x h⟩
  | rt d S1 => rw [e] at h; exact h
  | bk δ1 S1 => rw [e] at h; exact h
  | ct δ1 S1 => rw [e] at h; exact h
  | exc y δ1 S1 => rw [e] at h; exact h
  | bad => rw [e] at h; exact h
theorem dss_cons (h1 : DS X Γ st m) (h2 : DSs X Γ rest n) : DSs X Γ (st :: rest) (seqS m n) := pss_imp (pss_cons h1 h2) seq_go
theorem dss_one (h1 : DS X Γ st m) : DSs X Γ [st] m := pss_one h1
theorem ds_pass : DS X Γ (.Pass pos) passS := by
  refine ps_imp ps_pass ?_
  rintro D σ H ⟨ρ, δ, S, w, h⟩
  exact h ρ σ H (Ext.refl _ _) w.loc w.l w.abs
theorem ds_asg {tg : Expr} {g : MG} (he : DE X Γ e me) (hg : DG X Γ tg g) (hs : swapsWithSole [tg] e pos.line X.env = pure false := by rfl) (hw : swappedStores [tg] e X.env = pure none := by rfl)
    (h1 : (assignEach [tg] X.env).map (·.2) = [assign tg X.env] := by rfl) : DS X Γ (.Assign [tg] e pos) (asgS me g) := by
  refine ps_imp (ps_asg he hg hs hw h1) ?_
  rintro D σ H ⟨ρ, δ, S, w, h⟩
  refine ⟨ρ, δ, S, w, PoE.imp ?_ (PoE.thenS w.loc w.l h)⟩
  rintro v1 H1 ⟨ρ1, d1, S1, e1, A1, r1, h1⟩
  split at h1
  · rename_i δ' eg
    refine ⟨ρ1, δ, S1, d1, w.go e1 A1, r1, δ', eg, fun σ' L' l' => ?_⟩
    exact h1 ρ1 σ' H1 (Ext.refl _ _) L' l' A1
  · exact h1.elim
theorem ds_ret (he : DE X Γ e me) : DS X Γ (.Return (some e) pos) (retS me) := by
  refine ps_imp (ps_ret he) ?_
  rintro D σ H ⟨ρ, δ, S, w, h⟩
  refine ⟨ρ, δ, S, w, PoE.imp ?_ (PoE.thenS w.loc w.l h)⟩
  rintro v1 H1 ⟨ρ1, d1, S1, e1, A1, r1, h1⟩
  exact h1 ρ1 v1 H1 (Ext.refl _ _) A1 r1
theorem ds_expr (he : DE X Γ e me) (hs : swapsWith e none pos.line X.env = pure false := by rfl) : DS X Γ (.Expr e pos) (exprS me) := by
  refine ps_imp (ps_expr he hs) ?_
  rintro D σ H ⟨ρ, δ, S, w, h⟩
  refine ⟨ρ, δ, S, w, PoE.imp ?_ (PoE.thenS w.loc w.l h)⟩
  rintro v1 H1 ⟨ρ1, d1, S1, e1, A1, r1, h1⟩
  exact h1 ρ1 σ H1 (Ext.refl _ _) (w.loc.mono e1) w.l A1
theorem ds_if {c : Expr} {a b : List Stmt} {mc : MB} (hc : DT X Γ c mc) (ha : DSs X Γ a m) (hb : DSs X Γ b n) : DS X Γ (.If c a b pos) (ifS mc m n) := by
  refine ps_imp (ps_if hc ha hb) ?_
  rintro D σ H ⟨ρ, δ, S, w, h⟩
  refine ⟨ρ, δ, S, w, PoE.imp ?_ (PoE.thenS w.loc w.l h)⟩
  rintro v1 H1 ⟨ρ1, d1, S1, e1, A1, r1, h1⟩
  have : v1 = d1 := r1
  subst this
  cases v1 with
  | true =>
    rw [if_pos rfl]
    exact ⟨ρ1, δ, S1, w.go e1 A1, h1⟩
  | false =>
    rw [if_neg Bool.false_ne_true]
    exact ⟨ρ1, δ, S1, w.go e1 A1, h1⟩
theorem ds_par {i j : Nat} {x y : Str} {a b : Expr} {ma : MA} {px py pt : Pos} {kt k2 pt2} (hc : X.calm = true) (hN : X.N.Nodup) (ha : DA X Γ [a, b] ma) (hi : X.N[i]? = some x := by rfl) (hj : X.N[j]? = some y := by rfl) (hij : i ≠ j := by decide)
    (hx : X.env.scope.names.lookup x = some .local := by rfl) (hy : X.env.scope.names.lookup y = some .local := by rfl)
    (hw : swappedStores [.Tuple [.Name x px, .Name y py] kt pt] (.Tuple [a, b] k2 pt2) X.env = pure (some [x, y]) := by rfl)
    (hs : swapsWithSole [.Tuple [.Name x px, .Name y py] kt pt] (.Tuple [a, b] k2 pt2) pos.line X.env = pure false := by rfl) (hfr : ∀ i, Γ.fr i := by intro _; trivial) :
    DS X Γ (.Assign [.Tuple [.Name x px, .Name y py] kt pt] (.Tuple [a, b] k2 pt2) pos) (parS [i, j] ma) := by
  refine ps_imp (ps_par hc hN hi hj hij hx hy ha hw hs) ?_
  rintro D σ H ⟨ρ, δ, S, w, h⟩
  refine ⟨ρ, δ, S, w, PoE.imp ?_ (PoE.thenS w.loc w.l h)⟩
  rintro v1 H1 ⟨ρ1, d1, S1, e1, A1, r1, h1⟩
  split at h1
  · rename_i hl
    match d1, hl with
    | [d, d'], _ =>
      simp only [Reps] at r1
      obtain ⟨v, ws, rfl, r, v', ws', rfl, r', rfl⟩ := r1
      refine ⟨v, v', rfl, h1 ρ1 _ H1 (Ext.refl _ _) ?_ (Γ.lset (hfr _) (Γ.lset (hfr _) w.l)) A1⟩
      exact (((w.loc.mono e1).set r).set r')
  · exact h1.elim
theorem ds_par3 {i j l : Nat} {x y z : Str} {a b c : Expr} {ma : MA} {px py pz pt : Pos} {kt k2 pt2} (hc : X.calm = true) (hN : X.N.Nodup) (ha : DA X Γ [a, b, c] ma) (hi : X.N[i]? = some x := by rfl) (hj : X.N[j]? = some y := by rfl) (hl : X.N[l]? = some z := by rfl) (hij : i ≠ j := by decide) (hil : i ≠ l := by decide) (hjl : j ≠ l := by decide)
    (hx : X.env.scope.names.lookup x = some .local := by rfl) (hy : X.env.scope.names.lookup y = some .local := by rfl) (hz : X.env.scope.names.lookup z = some .local := by rfl)
    (hw : swappedStores [.Tuple [.Name x px, .Name y py, .Name z pz] kt pt] (.Tuple [a, b, c] k2 pt2) X.env = pure (some [x, y, z]) := by rfl)
    (hs : swapsWithSole [.Tuple [.Name x px, .Name y py, .Name z pz] kt pt] (.Tuple [a, b, c] k2 pt2) pos.line X.env = pure false := by rfl) (hfr : ∀ i, Γ.fr i := by intro _; trivial) :
    DS X Γ (.Assign [.Tuple [.Name x px, .Name y py, .Name z pz] kt pt] (.Tuple [a, b, c] k2 pt2) pos) (parS [i, j, l] ma) := by
  refine ps_imp (ps_par3 hc hN hi hj hl hij hil hjl hx hy hz ha hw hs) ?_
  rintro D σ H ⟨ρ, δ, S, w, h⟩
  refine ⟨ρ, δ, S, w, PoE.imp ?_ (PoE.thenS w.loc w.l h)⟩
  rintro v1 H1 ⟨ρ1, d1, S1, e1, A1, r1, h1⟩
  split at h1
  · rename_i hl
    match d1, hl with
    | [d, d', d''], _ =>
      simp only [Reps] at r1
      obtain ⟨v, ws, rfl, r, v', ws', rfl, r', v'', ws'', rfl, r'', rfl⟩ := r1
      refine ⟨v, v', v'', rfl, h1 ρ1 _ H1 (Ext.refl _ _) ?_ (Γ.lset (hfr _) (Γ.lset (hfr _) (Γ.lset (hfr _) w.l))) A1⟩
      exact ((((w.loc.mono e1).set r).set r').set r'')
  · exact h1.elim
end

/-! ### defs -/
def gam (E : XK) : Gam := ⟨fun cv dp _ H => E cv dp H, fun _ _ => True, fun _ h => h, fun _ => True, fun _ => True, fun _ h => h⟩
def spM (K : PySem.W.Frag) (n : Nat) (m : List D → Sto → RE D) : Sp := fun vs H Q E => ∃ ρ ds S, vs.length = n ∧ Reps K ρ H ds vs ∧ Abs K ρ S H ∧ PoE K (gam E) (Rep K) ρ [] H Q (m ds S)
def startD (n : Nat) (ds : List D) : Loc := ds.map some ++ List.replicate (n - ds.length) none
def fnB (n : Nat) (body : MS) : List D → Sto → RE D := fun ds S => match body (startD n ds) S with
  | .nx _ S' => .ok .non S'
  | .rt d S' => .ok d S'
  | .exc x _ S' => .exc x S'
  | _ => .bad
/-- a def's promise where no repr runs around it -/
structure FnG (P : Program) (w : World) (K : PySem.W.Frag) (mg : Str → Option Value) (base : Heap) (k : Nat) (f : Addr) (fd : FuncData) (ps : List Str) (sp : Sp) : Prop where
  len : ∀ vs H Q E, sp vs H Q E → vs.length = ps.length
  go : ∀ (A : Around) (outer : List Env) (s : Shared) (H : Hp) (args : Args) (us : List Value) (vs : List V) (Q : VK) (E : XK), Room k A → A.guards = some [] → Env0 P w K mg base A outer s H →
    BindsTo s fd args (ps.zip us) → Vals vs us → sp vs H Q E → codeAny (model P w) A (.call (.ref f) args) (CR (L2.CX P w) outer P w H s Q E) s
/-- a def that does m: its level, its address, how many parameters are given, which stand by default -/
structure FnM (P : Program) (w : World) (K : PySem.W.Frag) (mg : Str → Option Value) (base : Heap) (k : Nat) (f : Addr) (n : Nat) (dd : List D) (m : List D → Sto → RE D) : Prop where
  ex : ∃ (fd : FuncData) (ps : List Str) (dvs : List V) (ds : List Value), FnG P w K mg base k f fd ps (spM K (n + dd.length) m) ∧ Binds K fd ps ds ∧ Vals dvs ds ∧ (∀ ρ H, Reps K ρ H dd dvs)
  kp : PySem.W.keepIn K (.ref f) = true
theorem LocR.start {K : PySem.W.Frag} {ρ : Pl} {H : Hp} {N : List Str} {ds : List D} {vs : List V} (r : Reps K ρ H ds vs) : LocR K ρ H (L2.start N vs) (startD N.length ds) := by
  have hl := r.length
  refine ⟨by simp [L2.start, startD, hl], fun i d e => ?_⟩
  unfold startD at e
  by_cases hi : i < ds.length
  · rw [List.getElem?_append_left (by simpa using hi), List.getElem?_map] at e
    obtain ⟨d', e1, e2⟩ := Option.map_eq_some_iff.mp e
    cases e2
    obtain ⟨v, e3, r3⟩ := r.get e1
    refine ⟨v, ?_, r3⟩
    unfold L2.start
    rw [List.getElem?_append_left (by rw [List.length_map, hl]; exact hi), List.getElem?_map, e3]
    rfl
  · rw [List.getElem?_append_right (by simpa using hi), List.getElem?_replicate] at e
    split at e <;> cases e
section
variable {P : Program} {w : World} {K : PySem.W.Frag} {mg : Str → Option Value} {base : Heap}
/-- the rule for a def, by its body -/
theorem fnG_of {f : Addr} {name qual : Str} {params : Arguments} {body : List Stmt} {scope : Scope} {dV kV doc pm cdv ct oc : Value} {an od : Option Addr} {osl : Array (Option Value)} {N ps : List Str} {k : Nat} {sp : Sp}
    (lk : K.lookup f = some ⟨oc, od, .func (PySem.W.fnOf name qual params body scope dV kV doc pm an cdv ct), osl⟩) (hcd : PySem.W.codeIn K cdv qual = true) (S : FnScope N ps scope) (len : ∀ vs H Q E, sp vs H Q E → vs.length = ps.length)
    (hbody : ∀ (A : Around) (outer : List Env) (s : Shared) (H : Hp) (vs : List V) (Q : VK) (E : XK), Room k (A.deeper (envOfC qual scope s.heap.objs.size f cdv)) → A.guards = some [] → sp vs H Q E →
      ∃ t, PSs (cxOf (L2.CX P w) P w K mg base N qual scope f cdv A outer s H E) body t ∧ t { nx := fun _ H' => Q .non H', rt := Q } (L2.start N vs) H) :
    FnG P w K mg base (k + 1) f (PySem.W.fnOf name qual params body scope dV kV doc pm an cdv ct) ps sp := by
  constructor
  · exact len
  intro A outer s H args us vs Q E room gd e0 bnd rel wish
  have kin : K.In s.heap := e0.mod.kin.keeps (fun b o e => (e0.bs b o e).1)
  have nl : s.heap.NoLimit := e0.mod.nolimit.keeps (fun b o e => (e0.bs b o e).1)
  have kinds : ∀ y ∈ ps.zip us, scope.names.lookup y.1 = some .local ∨ (scope.names.lookup y.1 = some .cell ∧ ((cellsFrom (s.heap.objs.size + 1) scope.names []).lookup y.1).isSome = true) := by
    rintro ⟨x, u⟩ hy
    exact (S.par x (List.of_mem_zip hy).1).imp id fun q => ⟨q, PySem.W.cellsFrom_some _ _ _ (Or.inl q)⟩
  refine codeAny_call_function room.depth (kin _ _ lk) rfl S.co S.gen rfl (PySem.W.codeRec_of kin hcd) (bnd _ _ _ _ ?_)
  refine wpAny_newFunctionEnv_cells S.kind kinds fun env henv s1 entered => ?_
  subst henv
  refine ⟨nl.keeps entered.toInCall.keep, codeAny_func ?_⟩
  obtain ⟨t, body_ok, read⟩ := hbody A outer s H vs Q E (room.deeper _) gd wish
  have I := inv_start (CX := L2.CX P w) (P := P) (w := w) (mg := mg) (E := E) (qual := qual) (f := f) (cd := cdv) S room.hd e0 (len _ _ _ _ wish) rel entered
  refine wpAny_mono (body_ok.run [] s1 (L2.start N vs) H _ I read) ?_ (fun _ _ x => x)
  intro fl s' done
  match fl, done with
  | .ret u, ⟨v, _, H', J, rv, q⟩ => exact ⟨v, H', J.os, J.bare, J.base, J.hok, rv, q⟩
  | .next, ⟨_, H', J, q⟩ => exact ⟨.non, H', J.os, J.bare, J.base, J.hok, rfl, q⟩
  | .brk, ⟨_, _, _, q⟩ => exact q.elim
  | .cont, ⟨_, _, _, q⟩ => exact q.elim
theorem fnG_mk {x qual : Str} {params : Arguments} {body : List Stmt} {scope : Scope} {dvs : List V} {kws : List (Str × V)} {f : Addr} {fd : FuncData} {N ps : List Str} {k n : Nat} {mb : MS} (F : FunD K x qual params body scope dvs kws f fd) (S : FnScope N ps scope)
    (hn : ps.length = n) (hbody : ∀ (cdv : Value) (A : Around) (outer : List Env) (s : Shared) (H : Hp) (E : XK), Room k (A.deeper (envOfC qual scope s.heap.objs.size f cdv)) → A.guards = some [] → DSs (cxOf (L2.CX P w) P w K mg base N qual scope f cdv A outer s H E) (gam E) body mb) :
    FnG P w K mg base (k + 1) f fd ps (spM K n (fnB N.length mb)) := by
  obtain ⟨oc, od, dV, kV, doc, pm, an, cdv, ct, osl, rfl, lk, hcd, _, _⟩ := F.ex
  refine fnG_of lk hcd S (fun vs H Q E h => ?_) (fun A outer s H vs Q E hr hg h => ⟨_, hbody cdv A outer s H E hr hg, ?_⟩)
  · obtain ⟨ρ, ds, S, hl, _⟩ := h
    rw [hl, hn]
  · obtain ⟨ρ, ds, S, hl, r, A, h⟩ := h
    refine ⟨ρ, startD N.length ds, S, ⟨LocR.start r, A, trivial, trivial⟩, ?_⟩
    unfold fnB at h
    cases e : mb (startD N.length ds) S with
    | nx δ S' =>
      rw [e] at h
      intro ρ' σ' H' x L _ A'
      exact h ρ' .non H' x A' (by simp only [Rep])
    | rt d S' =>
      rw [e] at h
      exact h
    | bk δ S' => rw [e] at h; exact h.elim
    | ct δ S' => rw [e] at h; exact h.elim
    | exc y δ S' =>
      rw [e] at h
      exact fun ρ' σ' H' cv dp x L _ A' r => h ρ' H' cv dp x A' r
    | bad => rw [e] at h; exact h.elim
end

/-! ### calls -/
def callE (n : Nat) (dd : List D) (m : List D → Sto → RE D) (mes : MA) : ME := fun δ S => (mes δ S).bind fun ds S1 => if ds.length = n then m (ds ++ dd) S1 else .bad
theorem takesW {X : Cx} : Takes X (fun _ _ _ _ => False) := takes0
section
variable {X : Cx} {Γ : Gam} {k j n : Nat} {f : Addr} {dd : List D} {m : List D → Sto → RE D} {e o : Expr} {es : List Expr} {mes : MA} {x : Str} {p pos apos : Pos}
/-- the callee runs -/
theorem run_m {pins : List (Addr × Obj)} {ρ : Pl} {σ : L2.St} {H : Hp} {s : Shared} {S : Sto} {Q : VK} {us : List Value} {vs : List V} {ds : List D} (F : FnM X.prog X.w X.K X.mg X.base k f n dd m) (hr : Room j X.A) (hg : X.A.guards = some []) (hk : k ≤ j) (tk : Takes X Γ.W)
    (I : Inv X pins σ H s) (r : Vals vs us) (A : Abs X.K ρ S H) (rr : Reps X.K ρ H ds vs) (hl : ds.length = n) (h : PoE X.K Γ (Rep X.K) ρ σ H Q (m (ds ++ dd) S)) : wpAny (model X.prog X.w) X.A (call (.ref f) us) (EP X pins σ Q) X.xe s := by
  obtain ⟨fd, ps, dvs, dvals, F1, hb, hd, hdd⟩ := F.ex
  have wish : spM X.K (n + dd.length) m (vs ++ dvs) H Q (WE Γ.W σ) := by
    refine ⟨ρ, ds ++ dd, S, ?_, rr.append (hdd ρ H), A, ?_⟩
    · rw [List.length_append, rr.length, hl, (hdd ρ H).length]
    · revert h
      cases m (ds ++ dd) S with
      | ok d S' => exact fun h => h
      | exc y S' => exact fun h => h
      | bad => exact fun h => h
  have rel : Vals (vs ++ dvs) (us ++ dvals) := r.append hd
  have ln : (us ++ dvals).length = ps.length := rel.length.symm.trans (F1.len _ _ _ _ wish)
  refine wpAny_call (codeAny_mono (F1.go X.A X.stack s H ⟨us, []⟩ (us ++ dvals) (vs ++ dvs) Q (WE Γ.W σ) (hr.mono hk) hg I.env0 (hb s us I.kIn ln) rel wish) ?_)
  intro res s' done
  match res, done with
  | .error e, done => exact passAt tk σ pins H s e s' I done
  | .ok (.ret u), done => exact I.after done
theorem de_call (F : FnM X.prog X.w X.K X.mg X.base k f n dd m) (hr : Room j X.A) (hg : X.A.guards = some []) (hk : k ≤ j) (hm : X.mg x = some (.ref f)) (tk : Takes X Γ.W) (ha : DA X Γ (e :: es) mes) (hx : Gl X x := by rfl)
    (hdb : (x == ("__debug__" : Str)) = false := by decide) (he : starEach (e :: es) X.env = (false, eval e X.env) :: starEach es X.env := by rfl) (hpl : (backTo pos (starEach es X.env)).any (·.1) = false := by rfl) :
    DE X Γ (.Call (.Name x p) (e :: es) [] pos) (callE n dd m mes) := by
  refine ⟨fun pins s σ H Q I h => ?_⟩
  obtain ⟨ρ, δ, S, w, h⟩ := h
  refine wpAny_Call_Name_kw (ld_glob I hx hm ?_ hdb)
  refine PySem.W.callWith_K (h₀ := X.base) I.ok.mod.kin F.kp (thn (ha.run pos pins s σ H _ I ⟨ρ, δ, S, w, PoE.then h⟩) fun us s1 ⟨vs, H1, I1, r, q⟩ => ⟨I1.kIn, ?_⟩) he hpl
  obtain ⟨ρ1, ds, S1, x1, A1, rr, h1⟩ := q
  split at h1
  · rename_i hl
    exact run_m F hr hg hk tk I1 r A1 rr hl h1
  · exact h1.elim
theorem de_call0 (F : FnM X.prog X.w X.K X.mg X.base k f n dd m) (hr : Room j X.A) (hg : X.A.guards = some []) (hk : k ≤ j) (hm : X.mg x = some (.ref f)) (tk : Takes X Γ.W) (hx : Gl X x := by rfl) (hdb : (x == ("__debug__" : Str)) = false := by decide) :
    DE X Γ (.Call (.Name x p) [] [] pos) (callE n dd m nilA) := by
  refine ⟨fun pins s σ H Q I h => ?_⟩
  obtain ⟨ρ, δ, S, w, h⟩ := h
  refine wpAny_Call_Name_kw (ld_glob I hx hm ?_ hdb)
  have h1 : PoE X.K Γ (Rep X.K) ρ σ H Q (if ([] : List D).length = n then m ([] ++ dd) S else .bad) := h
  split at h1
  · rename_i hl
    exact PySem.W.callWith_K0 I.kIn F.kp (run_m (us := []) F hr hg hk tk I .nil w.abs (by simp only [Reps]) hl h1)
  · exact h1.elim
end
end DL

/-! DL4: values that read as plain data: ==, !=, in, repr. -/
namespace DL
open PySem PySem.Spec PyProof.Rows L2

section
variable (f : Nat → Option PyData)
mutual
/-- what a value is as plain data; f says what the places are -/
def py : D → Option PyData
  | .non => some .none
  | .bl b => some (.bool b)
  | .int i => some (.int i)
  | .str x => some (.str x)
  | .tup ds => (pys ds).map .tuple
  | .lst ds => (pys ds).map .list
  | .emp => some (.dict [])
  | .ref n => f n
  | _ => none
def pys : List D → Option (List PyData)
  | [] => some []
  | d :: ds => match py d, pys ds with
    | some p, some ps => some (p :: ps)
    | _, _ => none
end
end
def noPlace (_ : Nat) : Option PyData := none
def deref (S : Sto) (n : Nat) : Option PyData := match S[n]? with
  | some (.lst ds) => (pys noPlace ds).map .list
  | _ => none
abbrev pyS (S : Sto) : D → Option PyData := py (deref S)
/-- the interpreter's own table of modules is a dict of the written part -/
def SysK (K : PySem.W.Frag) : Prop := ∃ o, K.lookup sysModules = some o ∧ o.cls = .type "dict"
section
variable {X : Cx} {pins : List (Addr × Obj)} {σ : L2.St} {H : Hp} {s : Shared} {ρ : Pl} {S : Sto}
theorem no_sys (hy : SysK X.K) (I : Inv X pins σ H s) {a : Addr} {o : Obj} (e : s.heap.get? a = some o) (c : o.cls = .type "list") : a ≠ sysModules := fun q => by
  obtain ⟨u, hu, cu⟩ := hy
  have := I.kIn _ _ hu
  rw [← q, e] at this
  cases this
  rw [c] at cu
  injection cu with q
  exact absurd q (by decide)
mutual
theorem reads_of (hy : SysK X.K) (I : Inv X pins σ H s) {f : Nat → Option PyData} (hf : ∀ n p a, f n = some p → ρ.p[n]? = some a → ∃ as, Reads s.heap (.ref a) p as ∧ sysModules ∉ as) : ∀ {d : D} {v : V} {u : Value} {p : PyData}, Rep X.K ρ H d v → RelV v u → py f d = some p → ∃ as, Reads s.heap u p as ∧ sysModules ∉ as
  | .non, v, u, p, h, r, e => by
    simp only [Rep] at h; subst h
    simp only [py, Option.some.injEq] at e; subst e
    cases r; exact ⟨_, .none, by simp⟩
  | .bl b, v, u, p, h, r, e => by
    simp only [Rep] at h; subst h
    simp only [py, Option.some.injEq] at e; subst e
    cases r; exact ⟨_, .bool b, by simp⟩
  | .int i, v, u, p, h, r, e => by
    simp only [Rep] at h; subst h
    simp only [py, Option.some.injEq] at e; subst e
    obtain ⟨t, rfl⟩ := r; exact ⟨_, .int i t, by simp⟩
  | .str x, v, u, p, h, r, e => by
    simp only [Rep] at h; subst h
    simp only [py, Option.some.injEq] at e; subst e
    obtain ⟨t, rfl⟩ := r; exact ⟨_, .str x t, by simp⟩
  | .tup ds, v, u, p, h, r, e => by
    simp only [Rep] at h
    obtain ⟨a, vs, rfl, t, rr⟩ := h
    cases r
    simp only [py] at e
    obtain ⟨ps, e1, rfl⟩ := Option.map_eq_some_iff.mp e
    obtain ⟨its, rv, ⟨o, ho, hc, n, hd⟩, _⟩ := I.tuple t.sq
    obtain ⟨as, ra, na⟩ := reads_all hy I hf rr rv e1
    exact ⟨as, .tuple ho hc hd (by simpa using ra), na⟩
  | .lst ds, v, u, p, h, r, e => by
    simp only [Rep] at h
    obtain ⟨a, vs, rfl, t, rr⟩ := h
    cases r
    simp only [py] at e
    obtain ⟨ps, e1, rfl⟩ := Option.map_eq_some_iff.mp e
    obtain ⟨its, rv, ⟨o, n, ho, hc, hdd, hd⟩, _⟩ := I.list (SqL.of (K := X.K) t.2)
    obtain ⟨as, ra, na⟩ := reads_all hy I hf rr rv e1
    refine ⟨a :: as, .list ho hc hd (by simpa using ra), fun q => ?_⟩
    rcases List.mem_cons.mp q with q | q
    · exact no_sys hy I ho hc q.symm
    · exact na q
  | .emp, v, u, p, h, r, e => by
    simp only [Rep] at h
    obtain ⟨a, rfl, _, ha⟩ := h
    cases r
    simp only [py, Option.some.injEq] at e
    subst e
    obtain ⟨_, ns, vs, kv, o, es, ep, ho, hx, hd, _, hp, _⟩ := I.hok a _ ha
    cases kv
    have he : es.toList = [] := by
      cases q : es.toList with
      | nil => rfl
      | cons c r => rw [q] at hp; cases hp
    have c := Reads.dict (kvs := []) ho hx.1 hd (as := []) (bs := []) (by rw [he]; exact .nil) (by rw [he]; exact .nil)
    refine ⟨_, c, fun q => ?_⟩
    have q2 : sysModules = a := by simpa using q
    rw [← q2] at ns
    exact absurd ns (by simp)
  | .scr ns, v, u, p, h, r, e => by simp only [py] at e <;> cases e
  | .ref n, v, u, p, h, r, e => by
    simp only [Rep] at h
    obtain ⟨a, rfl, ha⟩ := h
    cases r
    exact hf n p a (by simpa only [py] using e) ha
  | .glo x, v, u, p, h, r, e => by simp only [py] at e <;> cases e
theorem reads_all (hy : SysK X.K) (I : Inv X pins σ H s) {f : Nat → Option PyData} (hf : ∀ n p a, f n = some p → ρ.p[n]? = some a → ∃ as, Reads s.heap (.ref a) p as ∧ sysModules ∉ as) : ∀ {ds : List D} {vs : List V} {us : List Value} {ps : List PyData}, Reps X.K ρ H ds vs → Vals vs us → pys f ds = some ps → ∃ as, ReadsAll s.heap us ps as ∧ sysModules ∉ as
  | [], vs, us, ps, h, r, e => by
    simp only [Reps] at h; subst h
    simp only [pys, Option.some.injEq] at e; subst e
    cases r
    exact ⟨_, .nil, by simp⟩
  | d :: ds, vs, us, ps, h, r, e => by
    simp only [Reps] at h
    obtain ⟨v, ws, rfl, rd, rr⟩ := h
    simp only [pys] at e
    cases r with
    | cons r1 r2 =>
      split at e
      · rename_i p ps' e1 e2
        cases e
        obtain ⟨as, c1, n1⟩ := reads_of hy I hf rd r1 e1
        obtain ⟨bs, c2, n2⟩ := reads_all hy I hf rr r2 e2
        exact ⟨_, .cons c1 c2, by simp [n1, n2]⟩
      · cases e
end
theorem deref_reads (hy : SysK X.K) (I : Inv X pins σ H s) (A : Abs X.K ρ S H) (n : Nat) (p : PyData) (a : Addr) (e : deref S n = some p) (ha : ρ.p[n]? = some a) : ∃ as, Reads s.heap (.ref a) p as ∧ sysModules ∉ as := by
  unfold deref at e
  split at e
  · rename_i ds q
    obtain ⟨vs, hv, rr⟩ := A.obj n a _ ha q
    obtain ⟨ps, e1, rfl⟩ := Option.map_eq_some_iff.mp e
    obtain ⟨its, rv, ⟨o, m, ho, hc, hdd, hd⟩, _⟩ := I.list (SqL.of (K := X.K) hv)
    obtain ⟨as, ra, na⟩ := reads_all (f := noPlace) hy I (fun _ _ _ q => nomatch q) rr rv e1
    refine ⟨a :: as, .list ho hc hd (by simpa using ra), fun q => ?_⟩
    rcases List.mem_cons.mp q with q | q
    · exact no_sys hy I ho hc q.symm
    · exact na q
  · cases e
theorem reads_S (hy : SysK X.K) (I : Inv X pins σ H s) (A : Abs X.K ρ S H) {d : D} {v : V} {u : Value} {p : PyData} (h : Rep X.K ρ H d v) (r : RelV v u) (e : pyS S d = some p) : ∃ as, Reads s.heap u p as ∧ sysModules ∉ as :=
  reads_of hy I (deref_reads hy I A) h r e
end

/-! ### == and != -/
def eqD (x y : D) (S : Sto) : RE D := match pyS S x, pyS S y with
  | some p, some q => if p.plain = true ∧ q.plain = true ∧ p.depth ≤ 16 then .ok (.bl (PyData.eqv p q)) S else .bad
  | _, _ => .bad
def neD (x y : D) (S : Sto) : RE D := match pyS S x, pyS S y with
  | some p, some q => if p.plain = true ∧ q.plain = true ∧ p.depth ≤ 16 then .ok (.bl (!PyData.eqv p q)) S else .bad
  | _, _ => .bad
def inD (neg : Bool) (x y : D) (S : Sto) : RE D := match pyS S x, pyS S y with
  | some p, some (.list qs) => if p.plain = true ∧ PyData.plainAll qs = true ∧ p.depth ≤ 16 then .ok (.bl (xor neg (qs.any fun q => PyData.eqv q p))) S else .bad
  | some p, some (.tuple qs) => if p.plain = true ∧ PyData.plainAll qs = true ∧ p.depth ≤ 16 then .ok (.bl (xor neg (qs.any fun q => PyData.eqv q p))) S else .bad
  | some (.str a), some (.str b) => .ok (.bl (xor neg (!(Builtin.Str.occurrences b a 0 b.length 1).isEmpty))) S
  | _, _ => .bad
/-- a reading of two values by the state -/
def R2s (X : Cx) (g : D → D → Sto → RE D) : R2 := fun vx vy H Q => ∃ Γ ρ σ S x y, Abs X.K ρ S H ∧ Rep X.K ρ H x vx ∧ Rep X.K ρ H y vy ∧ PoE X.K Γ (Rep X.K) ρ σ H Q (g x y S)
theorem od_of {X : Cx} {f : Value → Value → Sem Value} {g : D → D → Sto → RE D} (h : OpR X f (R2s X g)) : OpD X f g := ⟨R2s X g, h, fun A rx ry h => ⟨_, _, _, _, _, _, A, rx, ry, h⟩⟩
section
variable {X : Cx}
theorem fin_ok {Γ : Gam} {pins : List (Addr × Obj)} {ρ : Pl} {σ σ' : L2.St} {H : Hp} {s s' : Shared} {S : Sto} {d : D} {v : V} {u : Value} {Q : VK} (J : Inv X pins σ H s') (A : Abs X.K ρ S H) (h : PoE X.K Γ (Rep X.K) ρ σ' H Q (.ok d S)) (r : Rep X.K ρ H d v) (rv : RelV v u) : EP X pins σ Q u s' :=
  ⟨v, H, J, rv, h.val A r⟩
theorem od_eq (hy : SysK X.K) (hu : X.A.units + 16 < cLine) : OpD X (compareOp .Eq) eqD := od_of <| by
  rintro pins s σ H vx vy u w Q I rx ry ⟨Γ, ρ, σ', S, x, y, A, r1, r2, h⟩
  unfold eqD at h
  split at h
  · rename_i p q e1 e2
    split at h
    · rename_i c
      obtain ⟨as, c1, _⟩ := reads_S hy I A r1 rx e1
      obtain ⟨bs, c2, _⟩ := reads_S hy I A r2 ry e2
      exact PySem.SeqAt.eq_plain c1 c2 c.1 c.2.1 (by have := c.2.2; omega) (fin_ok (s := s) (v := .bl _) I A h (by simp only [Rep]) rfl)
    · exact h.elim
  · exact h.elim
theorem od_ne (hy : SysK X.K) (hu : X.A.units + 16 < cLine) : OpD X (compareOp .NotEq) neD := od_of <| by
  rintro pins s σ H vx vy u w Q I rx ry ⟨Γ, ρ, σ', S, x, y, A, r1, r2, h⟩
  unfold neD at h
  split at h
  · rename_i p q e1 e2
    split at h
    · rename_i c
      obtain ⟨as, c1, _⟩ := reads_S hy I A r1 rx e1
      obtain ⟨bs, c2, _⟩ := reads_S hy I A r2 ry e2
      exact PySem.SeqAt.ne_plain c1 c2 c.1 c.2.1 (by have := c.2.2; omega) (fin_ok (s := s) (v := .bl _) I A h (by simp only [Rep]) rfl)
    · exact h.elim
  · exact h.elim
theorem py_str {S : Sto} {d : D} {a : Str} (e : pyS S d = some (.str a)) : d = .str a := by
  cases d with
  | str x => simp only [pyS, py, Option.some.injEq, PyData.str.injEq] at e; rw [e]
  | ref n =>
    simp only [pyS, py, deref] at e
    split at e
    · obtain ⟨_, _, q⟩ := Option.map_eq_some_iff.mp e; cases q
    · cases e
  | non => simp only [pyS, py, Option.some.injEq] at e; cases e
  | bl b => simp only [pyS, py, Option.some.injEq] at e; cases e
  | int b => simp only [pyS, py, Option.some.injEq] at e; cases e
  | tup ds => simp only [pyS, py] at e; obtain ⟨_, _, q⟩ := Option.map_eq_some_iff.mp e; cases q
  | lst ds => simp only [pyS, py] at e; obtain ⟨_, _, q⟩ := Option.map_eq_some_iff.mp e; cases q
  | emp => simp only [pyS, py, Option.some.injEq] at e; cases e
  | scr ns => simp only [pyS, py] at e; cases e
  | glo x => simp only [pyS, py] at e; cases e
  | ty x => simp only [pyS, py] at e; cases e
theorem od_in (hy : SysK X.K) (hu : X.A.units + 32 < cLine) : OpD X (compareOp .In) (inD false) := od_of <| by
  rintro pins s σ H vx vy u w Q I rx ry ⟨Γ, ρ, σ', S, x, y, A, r1, r2, h⟩
  unfold inD at h
  split at h
  · rename_i p q e1 e2
    split at h
    · rename_i c
      obtain ⟨as, c1, _⟩ := reads_S hy I A r1 rx e1
      obtain ⟨bs, c2, _⟩ := reads_S hy I A r2 ry e2
      exact PySem.SeqAt.in_list_data c2 c1 c.2.1 c.1 (by have := c.2.2; omega) (fin_ok (s := s) (v := .bl _) I A h (by simp [Rep]) rfl)
    · exact h.elim
  · rename_i p q e1 e2
    split at h
    · rename_i c
      obtain ⟨as, c1, _⟩ := reads_S hy I A r1 rx e1
      obtain ⟨bs, c2, _⟩ := reads_S hy I A r2 ry e2
      exact PySem.SeqAt.in_tuple_data c2 c1 c.2.1 c.1 (by have := c.2.2; omega) (fin_ok (s := s) (v := .bl _) I A h (by simp [Rep]) rfl)
    · exact h.elim
  · rename_i a b e1 e2
    have ex := py_str e1
    have ey := py_str e2
    subst ex ey
    simp only [Rep] at r1 r2
    subst r1 r2
    exact op_in_str pins s σ H _ _ u w Q I rx ry ⟨a, b, rfl, rfl, h.val A (by simp [Rep])⟩
  · exact h.elim
theorem od_notIn (hy : SysK X.K) (hu : X.A.units + 32 < cLine) : OpD X (compareOp .NotIn) (inD true) := od_of <| by
  rintro pins s σ H vx vy u w Q I rx ry ⟨Γ, ρ, σ', S, x, y, A, r1, r2, h⟩
  unfold inD at h
  split at h
  · rename_i p q e1 e2
    split at h
    · rename_i c
      obtain ⟨as, c1, _⟩ := reads_S hy I A r1 rx e1
      obtain ⟨bs, c2, _⟩ := reads_S hy I A r2 ry e2
      exact PySem.SeqAt.notIn_list_data c2 c1 c.2.1 c.1 (by have := c.2.2; omega) (fin_ok (s := s) (v := .bl _) I A h (by simp [Rep]) rfl)
    · exact h.elim
  · rename_i p q e1 e2
    split at h
    · rename_i c
      obtain ⟨as, c1, _⟩ := reads_S hy I A r1 rx e1
      obtain ⟨bs, c2, _⟩ := reads_S hy I A r2 ry e2
      exact PySem.SeqAt.notIn_tuple_data c2 c1 c.2.1 c.1 (by have := c.2.2; omega) (fin_ok (s := s) (v := .bl _) I A h (by simp [Rep]) rfl)
    · exact h.elim
  · rename_i a b e1 e2
    have ex := py_str e1
    have ey := py_str e2
    subst ex ey
    simp only [Rep] at r1 r2
    subst r1 r2
    exact op_notin_str pins s σ H _ _ u w Q I rx ry ⟨a, b, rfl, rfl, h.val A (by simp [Rep])⟩
  · exact h.elim

/-! ### is -/
def isNon : D → Bool
  | .non => true
  | _ => false
def isD (neg : Bool) (x y : D) (S : Sto) : RE D := match y with
  | .non => .ok (.bl (xor neg (isNon x))) S
  | _ => .bad
theorem rep_non {K : PySem.W.Frag} {ρ : Pl} {H : Hp} {x : D} {v : V} (r : Rep K ρ H x v) : decide (v = .non) = isNon x := by
  cases x with
  | non => simp only [Rep] at r; subst r; rfl
  | bl b => simp only [Rep] at r; subst r; rfl
  | int b => simp only [Rep] at r; subst r; rfl
  | str b => simp only [Rep] at r; subst r; rfl
  | tup b => simp only [Rep] at r; obtain ⟨a, vs, rfl, _⟩ := r; rfl
  | lst b => simp only [Rep] at r; obtain ⟨a, vs, rfl, _⟩ := r; rfl
  | emp => simp only [Rep] at r; obtain ⟨a, rfl, _⟩ := r; rfl
  | scr b => simp only [Rep] at r; obtain ⟨a, rfl, _⟩ := r; rfl
  | ref b => simp only [Rep] at r; obtain ⟨a, rfl, _⟩ := r; rfl
  | glo b => simp only [Rep] at r; subst r; rfl
  | ty b => simp only [Rep] at r; subst r; rfl
theorem od_is : OpD X (compareOp .Is) (isD false) := by
  refine ⟨_, op_isN, fun {Γ ρ σ H S x y vx vy Q} A rx ry h => ?_⟩
  unfold isD at h
  split at h
  · simp only [Rep] at ry
    refine ⟨ry, h.val A ?_⟩
    rw [rep_non rx]
    simp [Rep]
  · exact h.elim
theorem od_isNot : OpD X (compareOp .IsNot) (isD true) := by
  refine ⟨_, op_notN, fun {Γ ρ σ H S x y vx vy Q} A rx ry h => ?_⟩
  unfold isD at h
  split at h
  · simp only [Rep] at ry
    refine ⟨ry, h.val A ?_⟩
    rw [rep_non rx]
    simp [Rep]
  · exact h.elim
end

/-! ### calls of built-in functions -/
def CallD (X : Cx) (f : Value) (g : List D → Sto → RE D) : Prop :=
  ∀ (Γ : Gam) (pins : List (Addr × Obj)) (s : Shared) (ρ : Pl) (σ : L2.St) (H : Hp) (S : Sto) (ds : List D) (vs : List V) (us : List Value) (Q : VK), Inv X pins σ H s → Abs X.K ρ S H → Reps X.K ρ H ds vs → Vals vs us →
    PoE X.K Γ (Rep X.K) ρ σ H Q (g ds S) → wpAny (model X.prog X.w) X.A (call f us) (EP X pins σ Q) X.xe s
def bltE (g : List D → Sto → RE D) (m : MA) : ME := fun δ S => (m δ S).bind g
theorem callD_of {X : Cx} {f : Value} {g : List D → Sto → RE D} {r : List V → Hp → VK → Prop} (h : CallR X f r)
    (hr : ∀ {Γ : Gam} {ρ : Pl} {σ : L2.St} {H : Hp} {S : Sto} {ds : List D} {vs : List V} {Q : VK}, Abs X.K ρ S H → Reps X.K ρ H ds vs → PoE X.K Γ (Rep X.K) ρ σ H Q (g ds S) → r vs H Q) : CallD X f g :=
  fun Γ pins s ρ σ H S ds vs us Q I A rr rv p => h pins s σ H vs us Q I rv (hr A rr p)
section
variable {X : Cx} {Γ : Gam} {x : Str} {p pos : Pos} {e : Expr} {es : List Expr} {m : MA} {g : List D → Sto → RE D}
theorem de_blt {id : String} (hc : CallD X (.builtin id) g) (hm : X.mg x = none) (hv : bootBuiltins x = some (.builtin id)) (ha : DA X Γ (e :: es) m) (hg : Gl X x := by rfl) (hn : x ≠ "__name__" := by decide) (hdb : (x == ("__debug__" : Str)) = false := by decide)
    (he : starEach (e :: es) X.env = (false, eval e X.env) :: starEach es X.env := by rfl) (hpl : (backTo pos (starEach es X.env)).any (·.1) = false := by rfl) : DE X Γ (.Call (.Name x p) (e :: es) [] pos) (bltE g m) := by
  refine ⟨fun pins s σ H Q I h => ?_⟩
  obtain ⟨ρ, δ, S, w, h⟩ := h
  refine wpAny_Call_Name_kw (ld_blt I hg hm hv ?_ hn hdb)
  refine PyProof.Rows.callWith_builtin1 (thn (ha.run pos pins s σ H _ I ⟨ρ, δ, S, w, PoE.then h⟩) fun us s1 ⟨vs, H1, I1, r1, ρ1, ds, S1, x1, A1, rr, h1⟩ => ?_) he hpl
  exact hc Γ pins s1 ρ1 σ H1 S1 ds vs us Q I1 A1 rr r1 h1
theorem de_bty {T : String} (hc : CallD X (.type T) g) (hm : X.mg x = none) (hv : bootBuiltins x = some (.type T)) (ha : DA X Γ (e :: es) m) (hg : Gl X x := by rfl) (hn : x ≠ "__name__" := by decide) (hdb : (x == ("__debug__" : Str)) = false := by decide)
    (he : starEach (e :: es) X.env = (false, eval e X.env) :: starEach es X.env := by rfl) (hpl : (backTo pos (starEach es X.env)).any (·.1) = false := by rfl) : DE X Γ (.Call (.Name x p) (e :: es) [] pos) (bltE g m) := by
  refine ⟨fun pins s σ H Q I h => ?_⟩
  obtain ⟨ρ, δ, S, w, h⟩ := h
  refine wpAny_Call_Name_kw (ld_blt I hg hm hv ?_ hn hdb)
  refine PyProof.Rows.callWith_type1 (thn (ha.run pos pins s σ H _ I ⟨ρ, δ, S, w, PoE.then h⟩) fun us s1 ⟨vs, H1, I1, r1, ρ1, ds, S1, x1, A1, rr, h1⟩ => ?_) he hpl
  exact hc Γ pins s1 ρ1 σ H1 S1 ds vs us Q I1 A1 rr r1 h1
end
/-- repr(x) -/
def reprD (ds : List D) (S : Sto) : RE D := match ds with
  | [d] => (match pyS S d with
    | some p => if p.showable = true ∧ p.depth ≤ 16 ∧ p.shown.length ≤ sizeLine then .ok (.str p.shown) S else .bad
    | none => .bad)
  | _ => .bad
theorem one_of {K : PySem.W.Frag} {ρ : Pl} {H : Hp} {d : D} {vs : List V} (r : Reps K ρ H [d] vs) : ∃ v, vs = [v] ∧ Rep K ρ H d v := by
  simp only [Reps] at r
  obtain ⟨v, ws, e, r1, r2⟩ := r
  exact ⟨v, by rw [e, r2], r1⟩
theorem cd_repr {X : Cx} (hy : SysK X.K) (hu : X.A.units + 32 < cLine) (hg : X.A.guards = some []) : CallD X (.builtin "repr") reprD := by
  intro Γ pins s ρ σ H S ds vs us Q I A rr rv h
  unfold reprD at h
  split at h
  · rename_i d
    split at h
    · rename_i p e
      split at h
      · rename_i c
        obtain ⟨v, rfl, r⟩ := one_of rr
        obtain ⟨u, rfl, ru⟩ := vals1 rv
        obtain ⟨as, c1, ns⟩ := reads_S hy I A r ru e
        have fin : ∀ {h' : Heap} {t : Tok} {tk : Nat}, (∀ b o, s.heap.get? b = some o → h'.get? b = some o) → EP X pins σ Q (.str p.shown t) { s with heap := h', toks := tk } := fun {h' t tk} k => fin_ok (s := s) (v := .str p.shown) (I.kept k) A h (by simp only [Rep]) ⟨t, rfl⟩
        have sh : ∀ {a : Addr}, u = .ref a → wpAny (model X.prog X.w) X.A (call (.builtin "repr") [u]) (EP X pins σ Q) X.xe s := fun {a} q => by
          subst q
          exact repr_of_reads' c1 c.1 (fun _ => ns) hg (by have := c.2.1; omega) (fun _ _ e => e) (fun h' u tk k => fin k) c.2.2
        cases c1 with
        | none => exact PySem.P.repr_of_none (fin (h' := s.heap) fun _ _ e => e)
        | bool b =>
          refine PySem.P.repr_of_bool ?_
          have q : (if b then ("True" : Str) else "False") = (PyData.bool b).shown := by cases b <;> simp [PyData.shown]
          rw [q]
          exact fin (h' := s.heap) fun _ _ e => e
        | int i t => exact PySem.P.repr_of_int (by simpa [PyData.showable] using c.1) (fin (h' := s.heap) fun _ _ e => e)
        | str x t => exact PySem.P.repr_of_str (fin (h' := s.heap) fun _ _ e => e) (by simpa [PyData.shown] using c.2.2)
        | list => exact sh rfl
        | tuple => exact sh rfl
        | dict => exact sh rfl
      · exact h.elim
    · exact h.elim
  · exact h.elim
end DL

/-! DL5: indices, slices, methods of lists and texts, built-in functions. -/
namespace DL
open PySem PySem.Spec PyProof.Rows L2

/-! ### indices -/
def ixD (x i : D) (S : Sto) : RE D := match i with
  | .int i => (match x with
    | .str z => if z.length ≤ sizeLine then (match atI z.cps.toList i with
      | some c => .ok (.str ⟨#[c]⟩) S
      | none => .bad) else .bad
    | x => match seqOf S x with
      | some ds => (match atI ds i with
        | some d => .ok d S
        | none => .bad)
      | none => .bad)
  | _ => .bad
section
variable {K : PySem.W.Frag} {ρ : Pl} {H : Hp} {S : Sto}
theorem Reps.atI {ds : List D} {vs : List V} {i : Int} {d : D} (r : Reps K ρ H ds vs) (e : atI ds i = some d) : ∃ v, L2.atI vs i = some v ∧ Rep K ρ H d v := by
  unfold L2.atI at e ⊢
  obtain ⟨j, e1, e2⟩ := Option.bind_eq_some_iff.mp e
  obtain ⟨v, e3, r3⟩ := r.get e2
  exact ⟨v, by rw [r.length, e1]; exact e3, r3⟩
/-- a list or a tuple -/
theorem seq_rep {d : D} {ds : List D} {v : V} (A : Abs K ρ S H) (e : seqOf S d = some ds) (r : Rep K ρ H d v) : ∃ a vs, v = .ref a ∧ (SqL K H a vs ∨ SqT K H a vs) ∧ Reps K ρ H ds vs := by
  unfold seqOf at e
  split at e
  · cases e
    simp only [Rep] at r
    obtain ⟨a, vs, rfl, t, rr⟩ := r
    exact ⟨a, vs, rfl, .inr t.sq, rr⟩
  · obtain ⟨a, vs, rfl, t, rr⟩ := lst_rep A e r
    exact ⟨a, vs, rfl, .inl (SqL.of t), rr⟩
end
section
variable {X : Cx} {Γ : Gam} {a b : Expr} {ma mb : ME} {pos : Pos}
theorem de_ix (ha : DE X Γ a ma) (hb : DE X Γ b mb) (hs : PlainIx b := by exact fun _ _ => rfl) : DE X Γ (.Subscript a b pos) (binE ixD ma mb) := by
  refine pe_imp (pe_ix (ix_list.or (ix_tup.or ix_str)) ha hb hs) (bin_go fun {Γ ρ σ H S x y vx vy Q} A rx ry h => ?_)
  unfold ixD at h
  split at h
  · rename_i i
    simp only [Rep] at ry
    subst ry
    split at h
    · rename_i z
      simp only [Rep] at rx
      subst rx
      split at h
      · rename_i hz
        split at h
        · rename_i c e
          exact .inr (.inr ⟨z, i, c, rfl, rfl, hz, e, h.val A (by simp only [Rep])⟩)
        · exact h.elim
      · exact h.elim
    · split at h
      · rename_i ds e
        split at h
        · rename_i d e1
          obtain ⟨p, vs, rfl, sq, rr⟩ := seq_rep A e rx
          obtain ⟨v, e2, r2⟩ := rr.atI e1
          rcases sq with sq | sq
          · exact .inl ⟨p, vs, i, v, rfl, rfl, sq, e2, h.val A r2⟩
          · exact .inr (.inl ⟨p, vs, i, v, rfl, rfl, sq, e2, h.val A r2⟩)
        · exact h.elim
      · exact h.elim
  · exact h.elim
end

/-! ### slices -/
abbrev MO := Loc → Sto → RE (Option Int)
def noO : MO := fun _ S => .ok none S
def someO (m : ME) : MO := fun δ S => (m δ S).bind fun d S1 => match d with
  | .int i => .ok (some i) S1
  | _ => .bad
def RO (_ : Pl) (_ : Hp) (a b : Option Int) : Prop := b = a
def tO (K : PySem.W.Frag) (Γ : Gam) (m : MO) : TO := fun σ H Q => ∃ ρ δ S, At K Γ ρ σ H δ S ∧ PoE K Γ RO ρ σ H Q (m δ S)
abbrev DO (X : Cx) (Γ : Gam) (e : Option Expr) (m : MO) : Prop := PO X e (tO X.K Γ m)
theorem po_imp {X : Cx} {e : Option Expr} {t t' : TO} (h : PO X e t) (k : ∀ σ H Q, t' σ H Q → t σ H Q) : PO X e t' := ⟨fun pins s σ H Q I q => h.run pins s σ H Q I (k σ H Q q)⟩
def cutL {α : Type} (xs : List α) (lo hi : Option Int) : List α := (xs.drop (HT.sIx xs.length 0 lo)).take (HT.sIx xs.length xs.length hi - HT.sIx xs.length 0 lo)
def slD (x : D) (lo hi : Option Int) (S : Sto) : RE D := match x with
  | .str z => if z.length ≤ sizeLine then .ok (.str (cutS z lo hi)) S else .bad
  | .tup ds => .ok (.tup (cutL ds lo hi)) S
  | .scr ns => .ok (.lst ((cutL ns lo hi).map D.int)) S
  | x => match lstOf S x with
    | some ds => .ok (.lst (cutL ds lo hi)) S
    | none => .bad
def slE (m : ME) (lo hi : MO) : ME := fun δ S => (m δ S).bind fun x S1 => (lo δ S1).bind fun l S2 => (hi δ S2).bind fun h S3 => slD x l h S3
section
variable {X : Cx} {Γ : Gam} {a : Expr} {ma : ME} {pos p2 : Pos}
theorem do_none : DO X Γ none noO := by
  refine po_imp po_none ?_
  rintro σ H Q ⟨ρ, δ, S, w, h⟩
  exact h ρ none H (Ext.refl _ _) w.abs rfl
theorem do_some (ha : DE X Γ a ma) : DO X Γ (some a) (someO ma) := by
  refine po_imp (po_some ha) ?_
  rintro σ H Q ⟨ρ, δ, S, w, h⟩
  refine ⟨ρ, δ, S, w, PoE.imp ?_ (PoE.then h)⟩
  rintro v1 H1 ⟨ρ1, d1, S1, e1, A1, r1, h1⟩
  split at h1
  · simp only [Rep] at r1
    exact ⟨_, r1, h1 ρ1 _ H1 (Ext.refl _ _) A1 rfl⟩
  · exact h1.elim
theorem de_sl {lo hi : Option Expr} {ml mh : MO} (ha : DE X Γ a ma) (hl : DO X Γ lo ml) (hh : DO X Γ hi mh) : DE X Γ (.Subscript a (.Slice lo hi none p2) pos) (slE ma ml mh) := by
  refine pe_imp (pe_slice (sl_list.or (sl_tupA.or sl_str)) ha hl hh) ?_
  rintro σ H Q ⟨ρ, δ, S, w, h⟩
  refine ⟨ρ, δ, S, w, PoE.imp ?_ (PoE.then h)⟩
  rintro v1 H1 ⟨ρ1, d1, S1, e1, A1, r1, h1⟩
  refine ⟨ρ1, δ, S1, w.go e1 A1, PoE.imp ?_ (PoE.then h1)⟩
  rintro v2 H2 ⟨ρ2, d2, S2, e2, A2, r2, h2⟩
  refine ⟨ρ2, δ, S2, w.go (e1.trans e2) A2, PoE.imp ?_ (PoE.then h2)⟩
  rintro v3 H3 ⟨ρ3, d3, S3, e3, A3, r3, h3⟩
  have q2 : v2 = d2 := r2
  have q3 : v3 = d3 := r3
  subst q2 q3
  have r := (r1.mono e2).mono e3
  unfold slD at h3
  split at h3
  · rename_i z
    simp only [Rep] at r
    subst r
    split at h3
    · rename_i hz
      exact .inr (.inr ⟨z, rfl, hz, h3.val A3 (by simp only [Rep])⟩)
    · exact h3.elim
  · rename_i ds
    simp only [Rep] at r
    obtain ⟨p, vs, rfl, t, rr⟩ := r
    have len := rr.length
    have cut : Reps X.K ρ3 H3 (cutL ds v2 v3) (cutV vs v2 v3) := by
      unfold cutL cutV
      rw [len]
      exact (rr.drop _).take _
    refine .inr (.inl ⟨p, vs, rfl, t.sq, fun q => h3.val A3 ?_, fun _ p hp => new_tup A3 cut h3 hp⟩)
    have hw : cutL ds v2 v3 = ds := by
      unfold cutL
      rw [← len, q.1, q.2, List.drop_zero, Nat.sub_zero, len, List.take_length]
    rw [hw]
    simp only [Rep]
    exact ⟨p, vs, rfl, t, rr⟩
  · rename_i ns
    simp only [Rep] at r
    obtain ⟨p, rfl, t⟩ := r
    refine .inl ⟨p, _, rfl, t.sq, fun p hp => new_lst A3 ?_ h3 hp⟩
    have : cutV (ns.map V.int) v2 v3 = (cutL ns v2 v3).map V.int := by
      unfold cutL cutV
      rw [List.length_map, ← List.map_drop, ← List.map_take]
    rw [this]
    exact Reps.of_ints
  · split at h3
    · rename_i ds e
      obtain ⟨p, vs, rfl, t, rr⟩ := lst_rep A3 e r
      have cut : Reps X.K ρ3 H3 (cutL ds v2 v3) (cutV vs v2 v3) := by
        unfold cutL cutV
        rw [rr.length]
        exact (rr.drop _).take _
      exact .inl ⟨p, vs, rfl, SqL.of t, fun p hp => new_lst A3 cut h3 hp⟩
    · exact h3.elim
end

/-! ### a place is stored in -/
/-- o[i] = e -/
def setS (me mo mi : ME) : MS := fun δ S => (me δ S).toS δ fun d S1 => (mo δ S1).toS δ fun o S2 => (mi δ S2).toS δ fun i S3 => match o, i with
  | .ref n, .int k => (match S3[n]? with
    | some (.lst ds) => (match ixN ds.length k with
      | some j => .nx δ (S3.set n (.lst (ds.set j d)))
      | none => .bad)
    | _ => .bad)
  | _, _ => .bad
section
variable {X : Cx} {Γ : Gam} {e o i : Expr} {me mo mi : ME} {pos ppos : Pos}
theorem ds_set (he : DE X Γ e me) (ho : DE X Γ o mo) (hi : DE X Γ i mi)
    (ha : ∀ v, assign (.Subscript o i ppos) X.env v = (do
      let ov ← holding [v] (eval o X.env)
      let iv ← holding [v, ov] (eval i X.env)
      standAt ppos
      holding [v, ov, iv] (setItem ov iv v)
      release [v, ov, iv] []) := by intro _; rfl)
    (hs : swapsWithSole [.Subscript o i ppos] e pos.line X.env = pure false := by rfl) (hw : swappedStores [.Subscript o i ppos] e X.env = pure none := by rfl)
    (h1 : (assignEach [.Subscript o i ppos] X.env).map (·.2) = [assign (.Subscript o i ppos) X.env] := by rfl) : DS X Γ (.Assign [.Subscript o i ppos] e pos) (setS me mo mi) := by
  refine ps_imp (ps_asg he (pg_sub ho hi set_list ha) hs hw h1) ?_
  rintro D0 σ H ⟨ρ, δ, S, w, h⟩
  refine ⟨ρ, δ, S, w, PoE.imp ?_ (PoE.thenS w.loc w.l h)⟩
  rintro v1 H1 ⟨ρ1, d1, S1, e1, A1, r1, h1⟩
  refine ⟨ρ1, δ, S1, w.go e1 A1, PoE.imp ?_ (PoE.thenS (w.loc.mono e1) w.l h1)⟩
  rintro v2 H2 ⟨ρ2, d2, S2, e2, A2, r2, h2⟩
  refine ⟨ρ2, δ, S2, w.go (e1.trans e2) A2, PoE.imp ?_ (PoE.thenS (w.loc.mono (e1.trans e2)) w.l h2)⟩
  rintro v3 H3 ⟨ρ3, d3, S3, e3, A3, r3, h3⟩
  split at h3
  · rename_i n k
    split at h3
    · rename_i ds q
      split at h3
      · rename_i j hj
        have r2' := r2.mono e3
        have r1' := (r1.mono e2).mono e3
        simp only [Rep] at r2' r3
        obtain ⟨a, rfl, ha⟩ := r2'
        obtain ⟨vs, hv, rr⟩ := A3.obj n a _ ha q
        have x4 : Ext ρ3 H3 ρ3 (upd H3 a (.lst (vs.set j v1))) := Ext.chg ha
        refine ⟨a, vs, k, j, rfl, r3, hv, by rw [rr.length]; exact hj, ?_⟩
        exact h3 ρ3 σ _ x4 ((w.loc.mono ((e1.trans e2).trans e3)).mono x4) w.l (A3.chg ha ⟨_, upd_same, (rr.set j r1').mono x4⟩)
      · exact h3.elim
    · exact h3.elim
  · exact h3.elim
end

/-! ### methods of lists and texts -/
def MethD (X : Cx) (id : String) (g : D → List D → Sto → RE D) : Prop :=
  ∀ (Γ : Gam) (pins : List (Addr × Obj)) (s : Shared) (ρ : Pl) (σ : L2.St) (H : Hp) (S : Sto) (x : D) (ds : List D) (v : V) (vs : List V) (u : Value) (us : List Value) (Q : VK), Inv X pins σ H s → Abs X.K ρ S H → Rep X.K ρ H x v → Reps X.K ρ H ds vs → L2.RelV v u → Vals vs us →
    PoE X.K Γ (Rep X.K) ρ σ H Q (g x ds S) → wpAny (model X.prog X.w) X.A (call (.builtin id) (u :: us)) (EP X pins σ Q) X.xe s
def isTy (S : Sto) (T : String) (d : D) : Bool := match d with
  | .str _ => T == "str"
  | d => T == "list" && (lstOf S d).isSome
def methE (T : String) (g : D → List D → Sto → RE D) (mo : ME) (m : MA) : ME := fun δ S => (mo δ S).bind fun x S1 => if isTy S1 T x = true then (m δ S1).bind fun ds S2 => g x ds S2 else .bad
theorem isTy_rep {K : PySem.W.Frag} {ρ : Pl} {H : Hp} {S : Sto} {T : String} {d : D} {v : V} (A : Abs K ρ S H) (e : isTy S T d = true) (r : Rep K ρ H d v) : tyV K T v H := by
  unfold isTy at e
  split at e
  · simp only [Rep] at r
    subst r
    exact beq_iff_eq.mp e
  · obtain ⟨e1, e2⟩ := Bool.and_eq_true_iff.mp e
    obtain ⟨ds, e3⟩ := Option.isSome_iff_exists.mp e2
    obtain ⟨a, vs, rfl, t, _⟩ := lst_rep A e3 r
    exact .inl ⟨beq_iff_eq.mp e1, vs, SqL.of t⟩
/-- the reading of a method's call, by the state -/
def rMD (X : Cx) (g : D → List D → Sto → RE D) : V → List V → Hp → VK → Prop := fun v vs H Q => ∃ Γ ρ σ S x ds, Abs X.K ρ S H ∧ Rep X.K ρ H x v ∧ Reps X.K ρ H ds vs ∧ PoE X.K Γ (Rep X.K) ρ σ H Q (g x ds S)
section
variable {X : Cx} {Γ : Gam} {T id : String} {name : Str} {o e : Expr} {es : List Expr} {apos cpos : Pos} {mo : ME} {m : MA} {g : D → List D → Sto → RE D}
theorem MethD.mtr (h : ∀ (σ' : L2.St), MethD X id g) : MtR X id (fun v vs H Q => ∃ ρ σ S x ds, Abs X.K ρ S H ∧ Rep X.K ρ H x v ∧ Reps X.K ρ H ds vs ∧ PoE X.K ⟨fun _ _ _ _ => False, fun _ _ => True, fun _ h => h, fun _ => True, fun _ => True, fun _ h => h⟩ (Rep X.K) ρ σ H Q (g x ds S)) := by
  rintro pins s σ H v vs u us Q I rv rvs ⟨ρ, σ', S, x, ds, A, r1, r2, h1⟩
  refine h σ ⟨fun _ _ _ _ => False, fun _ _ => True, fun _ h => h, fun _ => True, fun _ => True, fun _ h => h⟩ pins s ρ σ H S x ds v vs u us Q I A r1 r2 rv rvs ?_
  revert h1
  cases g x ds S with
  | ok d S' => exact fun h => h
  | exc y S' => exact fun h ρ' H' cv dp e A r => h ρ' H' cv dp e A r
  | bad => exact fun h => h
/-- no exception comes out of g -/
def NoExc (g : D → List D → Sto → RE D) : Prop := ∀ x ds S y S', g x ds S ≠ .exc y S'
theorem noexc_imp {K : PySem.W.Frag} {Γ Γ' : Gam} {α β : Type} {R : Pl → Hp → α → β → Prop} {ρ : Pl} {σ σ' : L2.St} {H : Hp} {Q : β → Hp → Prop} {r : RE α} (hn : ∀ y S', r ≠ .exc y S') (h : PoE K Γ R ρ σ H Q r) : PoE K Γ' R ρ σ' H Q r := by
  cases r with
  | ok d S => exact h
  | exc y S => exact absurd rfl (hn y S)
  | bad => exact h
theorem de_bm0 (pa : PlainAttrs T) (slot : Slot T name id) (hty : typeOf (.builtin id) = pure (.type "method_descriptor")) (hm : MethD X id g) (hn : NoExc g) (ho : DE X Γ o mo)
    (hbase : attributeBase o name X.env (eval o X.env) = eval o X.env := by rfl) (hline : (apos.endLine == cpos.line) = true := by rfl) : DE X Γ (.Call (.Attribute o name apos) [] [] cpos) (methE T g mo nilA) := by
  refine pe_imp (pe_bm0 pa slot hty (MethD.mtr fun _ => hm) ho hbase hline) ?_
  rintro σ H Q ⟨ρ, δ, S, w, h⟩
  refine ⟨ρ, δ, S, w, PoE.imp ?_ (PoE.then h)⟩
  rintro v1 H1 ⟨ρ1, d1, S1, e1, A1, r1, h1⟩
  split at h1
  · rename_i ht
    exact ⟨isTy_rep A1 ht r1, ρ1, σ, S1, d1, [], A1, r1, by simp only [Reps], noexc_imp (hn _ _ _) h1⟩
  · exact h1.elim
theorem de_bm (pa : PlainAttrs T) (slot : Slot T name id) (hty : typeOf (.builtin id) = pure (.type "method_descriptor")) (hm : MethD X id g) (hn : NoExc g) (ho : DE X Γ o mo) (ha : DA X Γ (e :: es) m)
    (hbase : attributeBase o name X.env (eval o X.env) = eval o X.env := by rfl)
    (hfew : ((backTo cpos (starEach (e :: es) X.env)).all (fun x => !x.1) && (backToKw cpos (keywordEach [] X.env)).all (fun x => x.1.isSome)
      && decide ((e :: es).length + ([] : List Keyword).length + (if ([] : List Keyword).isEmpty then 0 else 1) < 30)) = true := by rfl)
    (hline : (apos.endLine == cpos.line) = true := by rfl) (hs : starEach (e :: es) X.env = (false, eval e X.env) :: starEach es X.env := by rfl) (hplain : (backTo cpos (starEach es X.env)).any (·.1) = false := by rfl) :
    DE X Γ (.Call (.Attribute o name apos) (e :: es) [] cpos) (methE T g mo m) := by
  refine pe_imp (pe_bm pa slot hty (MethD.mtr fun _ => hm) ho ha hbase hfew hline hs hplain) ?_
  rintro σ H Q ⟨ρ, δ, S, w, h⟩
  refine ⟨ρ, δ, S, w, PoE.imp ?_ (PoE.then h)⟩
  rintro v1 H1 ⟨ρ1, d1, S1, e1, A1, r1, h1⟩
  split at h1
  · rename_i ht
    refine ⟨isTy_rep A1 ht r1, ρ1, δ, S1, w.go e1 A1, PoE.imp ?_ (PoE.then h1)⟩
    rintro v2 H2 ⟨ρ2, d2, S2, e2, A2, r2, h2⟩
    exact ⟨ρ2, σ, S2, d1, d2, A2, r1.mono e2, r2, noexc_imp (hn _ _ _) h2⟩
  · exact h1.elim
end
/-- the list at a place, changed -/
def lmD (k : List D → List D → Option (D × List D)) (x : D) (vs : List D) (S : Sto) : RE D := match x with
  | .ref n => (match S[n]? with
    | some (.lst ds) => (match k ds vs with
      | some (r, ds') => .ok r (S.set n (.lst ds'))
      | none => .bad)
    | _ => .bad)
  | _ => .bad
theorem lmD_noexc (k : List D → List D → Option (D × List D)) : NoExc (lmD k) := by
  intro x ds S y S' h
  unfold lmD at h
  split at h
  · split at h
    · split at h <;> cases h
    · cases h
  · cases h
def appK (ds vs : List D) : Option (D × List D) := match vs with
  | [d] => if ds.length < sizeLine then some (.non, ds ++ [d]) else none
  | _ => none
def popK (ds vs : List D) : Option (D × List D) := match vs with
  | [] => (ds[ds.length - 1]?).map fun d => (d, ds.dropLast)
  | _ => none
def clrK (_ vs : List D) : Option (D × List D) := match vs with
  | [] => some (.non, [])
  | _ => none
def insK (ds vs : List D) : Option (D × List D) := match vs with
  | [.int i, d] => if ds.length < sizeLine ∧ 0 ≤ i ∧ i < 2 ^ 63 then some (.non, ds.take i.toNat ++ [d] ++ ds.drop i.toNat) else none
  | _ => none
section
variable {X : Cx}
theorem lm_go {K : PySem.W.Frag} {Γ : Gam} {ρ : Pl} {σ : L2.St} {H : Hp} {S : Sto} {Q : VK} {n : Nat} {a : Addr} {d : D} {v : V} {ds' : List D} {vs' : List V} (A : Abs K ρ S H) (ha : ρ.p[n]? = some a) (h : PoE K Γ (Rep K) ρ σ H Q (.ok d (S.set n (.lst ds'))))
    (r : Rep K ρ H d v) (rr : Reps K ρ H ds' vs') : Q v (upd H a (.lst vs')) := by
  have x : Ext ρ H ρ (upd H a (.lst vs')) := Ext.chg ha
  exact h ρ v _ x (A.chg ha ⟨_, upd_same, rr.mono x⟩) (r.mono x)
theorem two_of {K : PySem.W.Frag} {ρ : Pl} {H : Hp} {d d' : D} {vs : List V} (r : Reps K ρ H [d, d'] vs) : ∃ v v', vs = [v, v'] ∧ Rep K ρ H d v ∧ Rep K ρ H d' v' := by
  simp only [Reps] at r
  obtain ⟨v, ws, e, r1, v', ws', e', r2, e''⟩ := r
  exact ⟨v, v', by rw [e, e', e''], r1, r2⟩
theorem md_append : MethD X "list.append" (lmD appK) := by
  intro Γ pins s ρ σ H S x ds v vs u us Q I A r rr rv rvs h
  unfold lmD at h
  split at h
  · rename_i n
    split at h
    · rename_i es q
      unfold appK at h
      split at h
      · rename_i eq
        split at eq
        · split at eq
          · rename_i hz
            cases eq
            simp only [Rep] at r
            obtain ⟨a, rfl, ha⟩ := r
            obtain ⟨ws, hw, rw'⟩ := A.obj n a _ ha q
            obtain ⟨v', rfl, r'⟩ := one_of rr
            exact mt_append pins s σ H _ _ u us Q I rv rvs ⟨a, ws, v', rfl, rfl, hw, by rw [rw'.length]; exact hz, lm_go A ha h (by simp only [Rep]) (rw'.append (by simp only [Reps]; exact ⟨v', [], rfl, r', rfl⟩))⟩
          · cases eq
        · cases eq
      · exact h.elim
    · exact h.elim
  · exact h.elim
theorem md_pop : MethD X "list.pop" (lmD popK) := by
  intro Γ pins s ρ σ H S x ds v vs u us Q I A r rr rv rvs h
  unfold lmD at h
  split at h
  · rename_i n
    split at h
    · rename_i es q
      unfold popK at h
      split at h
      · rename_i eq
        split at eq
        · obtain ⟨d, e1, e2⟩ := Option.map_eq_some_iff.mp eq
          cases e2
          simp only [Rep] at r
          obtain ⟨a, rfl, ha⟩ := r
          obtain ⟨ws, hw, rw'⟩ := A.obj n a _ ha q
          simp only [Reps] at rr
          subst rr
          obtain ⟨v', e3, r'⟩ := rw'.get e1
          refine mt_pop pins s σ H _ _ u us Q I rv rvs ⟨a, ws, v', rfl, rfl, hw, by rw [rw'.length]; exact e3, lm_go A ha h r' ?_⟩
          rw [List.dropLast_eq_take, List.dropLast_eq_take, rw'.length]
          exact rw'.take _
        · cases eq
      · exact h.elim
    · exact h.elim
  · exact h.elim
theorem md_clear : MethD X "list.clear" (lmD clrK) := by
  intro Γ pins s ρ σ H S x ds v vs u us Q I A r rr rv rvs h
  unfold lmD at h
  split at h
  · rename_i n
    split at h
    · rename_i es q
      unfold clrK at h
      split at h
      · rename_i eq
        split at eq
        · cases eq
          simp only [Rep] at r
          obtain ⟨a, rfl, ha⟩ := r
          obtain ⟨ws, hw, rw'⟩ := A.obj n a _ ha q
          simp only [Reps] at rr
          subst rr
          exact mt_clear pins s σ H _ _ u us Q I rv rvs ⟨a, ws, rfl, rfl, hw, lm_go A ha h (by simp only [Rep]) (by simp only [Reps])⟩
        · cases eq
      · exact h.elim
    · exact h.elim
  · exact h.elim
end
/-- texts -/
def strsOf : List D → Option (List Str)
  | [] => some []
  | .str x :: ds => (strsOf ds).map fun xs => x :: xs
  | _ => none
def intsOf : List D → Option (List Int)
  | [] => some []
  | .int x :: ds => (intsOf ds).map fun xs => x :: xs
  | _ => none
theorem strsOf_eq : ∀ {ds : List D} {xs : List Str}, strsOf ds = some xs → ds = xs.map D.str
  | [], xs, h => by
    simp only [strsOf, Option.some.injEq] at h
    subst h
    rfl
  | .str x :: ds, xs, h => by
    simp only [strsOf] at h
    obtain ⟨ys, e, rfl⟩ := Option.map_eq_some_iff.mp h
    rw [strsOf_eq e]
    rfl
  | .non :: ds, xs, h => by simp [strsOf] at h
  | .bl _ :: ds, xs, h => by simp [strsOf] at h
  | .int _ :: ds, xs, h => by simp [strsOf] at h
  | .tup _ :: ds, xs, h => by simp [strsOf] at h
  | .lst _ :: ds, xs, h => by simp [strsOf] at h
  | .emp :: ds, xs, h => by simp [strsOf] at h
  | .scr _ :: ds, xs, h => by simp [strsOf] at h
  | .ref _ :: ds, xs, h => by simp [strsOf] at h
  | .glo _ :: ds, xs, h => by simp [strsOf] at h
theorem intsOf_eq : ∀ {ds : List D} {xs : List Int}, intsOf ds = some xs → ds = xs.map D.int
  | [], xs, h => by
    simp only [intsOf, Option.some.injEq] at h
    subst h
    rfl
  | .int x :: ds, xs, h => by
    simp only [intsOf] at h
    obtain ⟨ys, e, rfl⟩ := Option.map_eq_some_iff.mp h
    rw [intsOf_eq e]
    rfl
  | .non :: ds, xs, h => by simp [intsOf] at h
  | .bl _ :: ds, xs, h => by simp [intsOf] at h
  | .str _ :: ds, xs, h => by simp [intsOf] at h
  | .tup _ :: ds, xs, h => by simp [intsOf] at h
  | .lst _ :: ds, xs, h => by simp [intsOf] at h
  | .emp :: ds, xs, h => by simp [intsOf] at h
  | .scr _ :: ds, xs, h => by simp [intsOf] at h
  | .ref _ :: ds, xs, h => by simp [intsOf] at h
  | .glo _ :: ds, xs, h => by simp [intsOf] at h
theorem intsOf_map (xs : List Int) : intsOf (xs.map D.int) = some xs := by
  induction xs with
  | nil => rfl
  | cons x xs ih => simp [intsOf, ih]
theorem strsOf_map (xs : List Str) : strsOf (xs.map D.str) = some xs := by
  induction xs with
  | nil => rfl
  | cons x xs ih => simp [strsOf, ih]
def joinD (x : D) (vs : List D) (S : Sto) : RE D := match x, vs with
  | .str a, [d] => (match (seqOf S d).bind strsOf with
    | some ys => if (ys.map (·.length)).sum + ys.length * a.length ≤ 16777216 then .ok (.str (Txt.join a ys)) S else .bad
    | none => .bad)
  | _, _ => .bad
def splitD (x : D) (vs : List D) (S : Sto) : RE D := match x, vs with
  | .str a, [.str b] => if (b.length == 0) = false ∧ a.length + 2 ≤ sizeLine then .ok (.lst ((Txt.split a b).map D.str)) S else .bad
  | _, _ => .bad
def upperD (x : D) (vs : List D) (S : Sto) : RE D := match x, vs with
  | .str a, [] => if a.length ≤ 5592405 then .ok (.str (Txt.upper a)) S else .bad
  | _, _ => .bad
section
variable {X : Cx}
theorem join_noexc : NoExc joinD := by
  intro x ds S y S' h
  unfold joinD at h
  split at h
  · split at h
    · split at h <;> cases h
    · cases h
  · cases h
theorem split_noexc : NoExc splitD := by
  intro x ds S y S' h
  unfold splitD at h
  split at h
  · split at h <;> cases h
  · cases h
theorem md_join : MethD X "str.join" joinD := by
  intro Γ pins s ρ σ H S x ds v vs u us Q I A r rr rv rvs h
  unfold joinD at h
  split at h
  · rename_i a d
    split at h
    · rename_i ys e
      split at h
      · rename_i hz
        obtain ⟨es, e1, e2⟩ := Option.bind_eq_some_iff.mp e
        simp only [Rep] at r
        subst r
        obtain ⟨v', rfl, r'⟩ := one_of rr
        obtain ⟨p, ws, rfl, sq, rw'⟩ := seq_rep A e1 r'
        rw [strsOf_eq e2] at rw'
        rw [rw'.strs] at sq
        exact mt_join pins s σ H _ _ u us Q I rv rvs ⟨a, p, ys, rfl, rfl, sq, hz, h.val A (by simp only [Rep])⟩
      · exact h.elim
    · exact h.elim
  · exact h.elim
theorem md_split : MethD X "str.split" splitD := by
  intro Γ pins s ρ σ H S x ds v vs u us Q I A r rr rv rvs h
  unfold splitD at h
  split at h
  · rename_i a b
    split at h
    · rename_i hz
      simp only [Rep] at r
      subst r
      obtain ⟨v', rfl, r'⟩ := one_of rr
      simp only [Rep] at r'
      subst r'
      exact mt_split pins s σ H _ _ u us Q I rv rvs ⟨a, b, rfl, rfl, hz.1, hz.2, fun p hp => new_lst A Reps.of_strs h hp⟩
    · exact h.elim
  · exact h.elim

/-! ### built-in functions -/
def lenD (ds : List D) (S : Sto) : RE D := match ds with
  | [.str z] => if z.length ≤ sizeLine then .ok (.int z.length) S else .bad
  | [d] => (match seqOf S d with
    | some es => .ok (.int es.length) S
    | none => .bad)
  | _ => .bad
theorem cd_len : CallD X (.builtin "len") lenD := callD_of call_len fun {Γ ρ σ H S ds vs Q} A rr h => by
  unfold lenD at h
  split at h
  · rename_i z
    obtain ⟨v, rfl, r⟩ := one_of rr
    simp only [Rep] at r
    subst r
    split at h
    · rename_i hz
      exact ⟨_, z.length, rfl, ⟨hz, rfl⟩, h.val A (by simp only [Rep])⟩
    · exact h.elim
  · rename_i d
    obtain ⟨v, rfl, r⟩ := one_of rr
    split at h
    · rename_i es e
      obtain ⟨p, ws, rfl, sq, rw'⟩ := seq_rep A e r
      refine ⟨_, es.length, rfl, ?_, h.val A (by simp only [Rep])⟩
      rcases sq with sq | sq
      · exact .inl ⟨ws, sq, rw'.length.symm⟩
      · exact .inr ⟨ws, sq, rw'.length.symm⟩
    · exact h.elim
  · exact h.elim
def absD (ds : List D) (S : Sto) : RE D := match ds with
  | [.int i] => .ok (.int (if i < 0 then -i else i)) S
  | _ => .bad
theorem cd_abs : CallD X (.builtin "abs") absD := callD_of call_abs fun {Γ ρ σ H S ds vs Q} A rr h => by
  unfold absD at h
  split at h
  · obtain ⟨v, rfl, r⟩ := one_of rr
    simp only [Rep] at r
    subst r
    exact ⟨_, rfl, h.val A (by simp only [Rep])⟩
  · exact h.elim
def max2D (ds : List D) (S : Sto) : RE D := match ds with
  | [.int i, .int j] => .ok (.int (if j > i then j else i)) S
  | _ => .bad
def min2D (ds : List D) (S : Sto) : RE D := match ds with
  | [.int i, .int j] => .ok (.int (if j < i then j else i)) S
  | _ => .bad
theorem cd_max2 (hc : X.calm = true) : CallD X (.builtin "max") max2D := callD_of (call_max2 hc) fun {Γ ρ σ H S ds vs Q} A rr h => by
  unfold max2D at h
  split at h
  · obtain ⟨v, v', rfl, r, r'⟩ := two_of rr
    simp only [Rep] at r r'
    subst r r'
    exact ⟨_, _, rfl, h.val A (by simp only [Rep])⟩
  · exact h.elim
theorem cd_min2 (hc : X.calm = true) : CallD X (.builtin "min") min2D := callD_of (call_min2 hc) fun {Γ ρ σ H S ds vs Q} A rr h => by
  unfold min2D at h
  split at h
  · obtain ⟨v, v', rfl, r, r'⟩ := two_of rr
    simp only [Rep] at r r'
    subst r r'
    exact ⟨_, _, rfl, h.val A (by simp only [Rep])⟩
  · exact h.elim
def strD (ds : List D) (S : Sto) : RE D := match ds with
  | [.int i] => if i.natAbs.log2 < 1920 then .ok (.str (toString i)) S else .bad
  | [.str x] => .ok (.str x) S
  | _ => .bad
theorem CallR.or {f : Value} {r r' : List V → Hp → VK → Prop} (h : CallR X f r) (h' : CallR X f r') : CallR X f (fun xs H Q => r xs H Q ∨ r' xs H Q) := fun pins s σ H vs us Q I rv q => q.elim (h pins s σ H vs us Q I rv) (h' pins s σ H vs us Q I rv)
theorem cd_str : CallD X (.type "str") strD := callD_of (CallR.or call_str_int SkE.call_str_str) fun {Γ ρ σ H S ds vs Q} A rr h => by
  unfold strD at h
  split at h
  · obtain ⟨v, rfl, r⟩ := one_of rr
    simp only [Rep] at r
    subst r
    split at h
    · rename_i hz
      exact .inl ⟨_, rfl, hz, h.val A (by simp only [Rep])⟩
    · exact h.elim
  · obtain ⟨v, rfl, r⟩ := one_of rr
    simp only [Rep] at r
    subst r
    exact .inr ⟨_, rfl, h.val A (by simp only [Rep])⟩
  · exact h.elim
def intD (ds : List D) (S : Sto) : RE D := match ds with
  | [.int i] => .ok (.int i) S
  | [.bl b] => .ok (.int (if b then 1 else 0)) S
  | [.str x] => (match PySem.intText? x with
    | some n => if x.length ≤ 640 then .ok (.int n) S else .bad
    | none => .bad)
  | _ => .bad
theorem cd_int : CallD X (.type "int") intD := callD_of (CallR.or call_int1 call_int_str) fun {Γ ρ σ H S ds vs Q} A rr h => by
  unfold intD at h
  split at h
  · obtain ⟨v, rfl, r⟩ := one_of rr
    simp only [Rep] at r
    subst r
    exact .inl (.inl ⟨_, rfl, h.val A (by simp only [Rep])⟩)
  · obtain ⟨v, rfl, r⟩ := one_of rr
    simp only [Rep] at r
    subst r
    exact .inl (.inr ⟨_, rfl, h.val A (by simp only [Rep])⟩)
  · obtain ⟨v, rfl, r⟩ := one_of rr
    simp only [Rep] at r
    subst r
    split at h
    · rename_i n e
      split at h
      · rename_i hz
        exact .inr ⟨_, n, rfl, e, hz, h.val A (by simp only [Rep])⟩
      · exact h.elim
    · exact h.elim
  · exact h.elim
def tupleD (ds : List D) (S : Sto) : RE D := match ds with
  | [d] => (match seqOf S d with
    | some es => .ok (.tup es) S
    | none => .bad)
  | _ => .bad
theorem cd_tuple : CallD X (.type "tuple") tupleD := callD_of call_tuple_of fun {Γ ρ σ H S ds vs Q} A rr h => by
  unfold tupleD at h
  split at h
  · rename_i d
    obtain ⟨v, rfl, r⟩ := one_of rr
    split at h
    · rename_i es e
      unfold seqOf at e
      split at e
      · cases e
        have r0 := r
        simp only [Rep] at r
        obtain ⟨a, ws, rfl, t, rw'⟩ := r
        exact ⟨a, ws, rfl, .inr ⟨t.sq, h.val A r0⟩⟩
      · obtain ⟨a, ws, rfl, t, rw'⟩ := lst_rep A e r
        exact ⟨a, ws, rfl, .inl ⟨SqL.of t, fun p hp => new_tup A rw' h hp⟩⟩
    · exact h.elim
  · exact h.elim
def listD (ds : List D) (S : Sto) : RE D := match ds with
  | [d] => (match seqOf S d with
    | some es => .ok (.lst es) S
    | none => .bad)
  | _ => .bad
theorem cd_list : CallD X (.type "list") listD := callD_of call_list_of fun {Γ ρ σ H S ds vs Q} A rr h => by
  unfold listD at h
  split at h
  · rename_i d
    obtain ⟨v, rfl, r⟩ := one_of rr
    split at h
    · rename_i es e
      obtain ⟨p, ws, rfl, sq, rw'⟩ := seq_rep A e r
      exact ⟨p, ws, rfl, sq, fun p hp => new_lst A rw' h hp⟩
    · exact h.elim
  · exact h.elim
/-- the same, a list that will change -/
def listRefD (ds : List D) (S : Sto) : RE D := match ds with
  | [d] => (match seqOf S d with
    | some es => .ok (.ref S.length) (S ++ [.lst es])
    | none => .bad)
  | _ => .bad
theorem cd_listRef : CallD X (.type "list") listRefD := callD_of call_list_of fun {Γ ρ σ H S ds vs Q} A rr h => by
  unfold listRefD at h
  split at h
  · rename_i d
    obtain ⟨v, rfl, r⟩ := one_of rr
    split at h
    · rename_i es e
      obtain ⟨p, ws, rfl, sq, rw'⟩ := seq_rep A e r
      exact ⟨p, ws, rfl, sq, fun p hp => new_ref A rw' h hp⟩
    · exact h.elim
  · exact h.elim
end
end DL

/-! DL6: what a loop walks; for; list comprehensions. -/
namespace DL
open PySem PySem.Spec PyProof.Rows L2

/-- the items of a walk, and when they are still these (a list that may change) -/
structure ItD where
  ds : List D
  ok : Sto → Prop
def ItRep (K : PySem.W.Frag) (ρ : Pl) (H : Hp) (I : ItD) (J : It) : Prop := ∀ ρ' H' S, Wk ρ H ρ' H' → Abs K ρ' S H' → I.ok S → ∀ i,
  (∀ d, I.ds[i]? = some d → J.go i H' ∧ ∀ x H2, J.yld i H' x H2 → Ext ρ' H' ρ' H2 ∧ Abs K ρ' S H2 ∧ Rep K ρ' H2 d x) ∧ (i = I.ds.length → J.stop i H')
theorem ItRep.wk {K : PySem.W.Frag} {ρ ρ1 : Pl} {H H1 : Hp} {I : ItD} {J : It} (x : Wk ρ H ρ1 H1) (h : ItRep K ρ H I J) : ItRep K ρ1 H1 I J := fun ρ' H' S w A o => h ρ' H' S (x.trans w) A o
abbrev MI := Loc → Sto → RE ItD
def tI (K : PySem.W.Frag) (Γ : Gam) (m : MI) : TI := fun σ H R => ∃ ρ δ S, At K Γ ρ σ H δ S ∧ PoE K Γ (ItRep K) ρ σ H R (m δ S)
abbrev DI (X : Cx) (Γ : Gam) (tg e : Expr) (m : MI) : Prop := PI X tg e (tI X.K Γ m)
theorem pi_imp {X : Cx} {tg e : Expr} {t t' : TI} (h : PI X tg e t) (k : ∀ σ H R, t' σ H R → t σ H R) : PI X tg e t' := ⟨fun pins s σ H R I q => h.run pins s σ H R I (k σ H R q)⟩

/-! ### sources -/
/-- the items of a value that is a list -/
def lsI (m : ME) : MI := fun δ S => (m δ S).bind fun d S1 => match d with
  | .lst ds => .ok ⟨ds, fun _ => True⟩ S1
  | .ref n => match lstOf S1 (.ref n) with
    | some ds => .ok ⟨ds, fun S => S[n]? = some (.lst ds)⟩ S1
    | none => .bad
  | .scr ns => .ok ⟨ns.map D.int, fun _ => True⟩ S1
  | _ => .bad
def tpI (m : ME) : MI := fun δ S => (m δ S).bind fun d S1 => match d with
  | .tup ds => .ok ⟨ds, fun _ => True⟩ S1
  | _ => .bad
def chars (x : Str) : List D := x.cps.toList.map fun c => D.str ⟨#[c]⟩
def chI (m : ME) : MI := fun δ S => (m δ S).bind fun d S1 => match d with
  | .str x => .ok ⟨chars x, fun _ => True⟩ S1
  | _ => .bad
/-- a value list as it stands -/
theorem itl_vals {K : PySem.W.Frag} {ρ : Pl} {H : Hp} {ds : List D} {vs : List V} {a : Addr} (t : LstAt ρ H a vs) (r : Reps K ρ H ds vs) : ItRep K ρ H ⟨ds, fun _ => True⟩ (Itl K a) := by
  intro ρ' H' S w A _ i
  have t' := t.mono w
  have r' := r.wk w
  have q : SqL K H' a vs := .inl (.inl t'.2)
  refine ⟨fun d e => ?_, fun e => ⟨vs, q, ?_⟩⟩
  · obtain ⟨v, ev, rv⟩ := r'.get e
    refine ⟨⟨vs, v, q, ev⟩, fun x H2 y => ?_⟩
    obtain ⟨rfl, y⟩ := y
    have := y vs q
    rw [ev] at this; cases this
    exact ⟨Ext.refl _ _, A, rv⟩
  · rw [r'.length, e]; exact Nat.le_refl _
theorem itl_scr {K : PySem.W.Frag} {ρ : Pl} {H : Hp} {ns : List Int} {a : Addr} (t : ScrAt K ρ H a (ns.map V.int)) : ItRep K ρ H ⟨ns.map D.int, fun _ => True⟩ (Itl K a) := by
  intro ρ' H' S w A _ i
  have q := (t.mono w).sq
  have r' : Reps K ρ' H' (ns.map D.int) (ns.map V.int) := Reps.of_ints
  refine ⟨fun d e => ?_, fun e => ⟨_, q, ?_⟩⟩
  · obtain ⟨v, ev, rv⟩ := r'.get e
    refine ⟨⟨_, v, q, ev⟩, fun x H2 y => ?_⟩
    obtain ⟨rfl, y⟩ := y
    have := y _ q
    rw [ev] at this; cases this
    exact ⟨Ext.refl _ _, A, rv⟩
  · rw [r'.length, e]; exact Nat.le_refl _
theorem lst_at {K : PySem.W.Frag} {ρ : Pl} {H : Hp} {S : Sto} {n : Nat} {a : Addr} {ds : List D} (A : Abs K ρ S H) (e : ρ.p[n]? = some a) (h : S[n]? = some (.lst ds)) : ∃ vs, H a = some (.lst vs) ∧ Reps K ρ H ds vs := A.obj n a _ e h
theorem itl_ref {K : PySem.W.Frag} {ρ : Pl} {H : Hp} {n : Nat} {a : Addr} {ds : List D} (e : ρ.p[n]? = some a) : ItRep K ρ H ⟨ds, fun S => S[n]? = some (.lst ds)⟩ (Itl K a) := by
  intro ρ' H' S w A o i
  obtain ⟨vs, t, r'⟩ := lst_at A (pre_get w.pre e) o
  have q : SqL K H' a vs := .inl (.inl t)
  refine ⟨fun d e => ?_, fun e => ⟨vs, q, ?_⟩⟩
  · obtain ⟨v, ev, rv⟩ := r'.get e
    refine ⟨⟨vs, v, q, ev⟩, fun x H2 y => ?_⟩
    obtain ⟨rfl, y⟩ := y
    have := y vs q
    rw [ev] at this; cases this
    exact ⟨Ext.refl _ _, A, rv⟩
  · rw [r'.length, e]; exact Nat.le_refl _
theorem itt_vals {K : PySem.W.Frag} {ρ : Pl} {H : Hp} {ds : List D} {vs : List V} {a : Addr} (t : TupAt K ρ H a vs) (r : Reps K ρ H ds vs) : ItRep K ρ H ⟨ds, fun _ => True⟩ (Itt K a) := by
  intro ρ' H' S w A _ i
  have q := (t.mono w).sq
  have r' := r.wk w
  refine ⟨fun d e => ?_, fun e => ⟨vs, q, ?_⟩⟩
  · obtain ⟨v, ev, rv⟩ := r'.get e
    refine ⟨⟨vs, v, q, ev⟩, fun x H2 y => ?_⟩
    obtain ⟨rfl, y⟩ := y
    have := y vs q
    rw [ev] at this; cases this
    exact ⟨Ext.refl _ _, A, rv⟩
  · rw [r'.length, e]; exact Nat.le_refl _
theorem its_vals {K : PySem.W.Frag} {ρ : Pl} {H : Hp} {x : Str} : ItRep K ρ H ⟨chars x, fun _ => True⟩ (Its x) := by
  intro ρ' H' S w A _ i
  refine ⟨fun d e => ?_, fun e => ?_⟩
  · have e' : (x.cps.toList.map fun c => D.str ⟨#[c]⟩)[i]? = some d := e
    rw [List.getElem?_map] at e'
    obtain ⟨c, ec, rfl⟩ := Option.map_eq_some_iff.mp e'
    have ec' : x.cps[i]? = some c := by simpa using ec
    refine ⟨(Array.getElem?_eq_some_iff.mp ec').1, fun v H2 y => ?_⟩
    obtain ⟨rfl, c', e1, rfl⟩ := y
    rw [ec'] at e1; cases e1
    exact ⟨Ext.refl _ _, A, by simp only [Rep]⟩
  · have e' : i = (x.cps.toList.map fun c => D.str ⟨#[c]⟩).length := e
    show x.cps.size ≤ i
    rw [e']
    simp
theorem ref_lst {S : Sto} {n : Nat} {ds : List D} (h : lstOf S (.ref n) = some ds) : S[n]? = some (.lst ds) := by
  have h' : (match S[n]? with | some (O.lst ds) => some ds | _ => none) = some ds := h
  cases hq : S[n]? with
  | none => rw [hq] at h'; cases h'
  | some o => cases o with
    | lst es => rw [hq] at h'; cases h'; rfl
    | ins c f => rw [hq] at h'; cases h'
section
variable {X : Cx} {Γ : Gam} {tg e : Expr} {m : ME}
theorem di_lst (h : DE X Γ e m) : DI X Γ tg e (lsI m) := by
  refine pi_imp (pi_list h) ?_
  rintro σ H R ⟨ρ, δ, S, w, p⟩
  refine ⟨ρ, δ, S, w, (PoE.then p).imp ?_⟩
  rintro v H1 ⟨ρ1, d, S1, x1, A1, r, p⟩
  cases d with
  | lst ds =>
    simp only [Rep] at r
    obtain ⟨a, vs, rfl, t, rr⟩ := r
    exact ⟨a, rfl, ⟨vs, .inl (.inl t.2)⟩, p _ _ _ (Ext.refl _ _) A1 (itl_vals t rr)⟩
  | scr ns =>
    simp only [Rep] at r
    obtain ⟨a, rfl, t⟩ := r
    exact ⟨a, rfl, ⟨_, t.sq⟩, p _ _ _ (Ext.refl _ _) A1 (itl_scr t)⟩
  | ref n =>
    simp only [Rep] at r
    obtain ⟨a, rfl, ea⟩ := r
    dsimp only at p
    cases hl : lstOf S1 (.ref n) with
    | none => rw [hl] at p; exact p.elim
    | some ds =>
      rw [hl] at p
      have hs : S1[n]? = some (.lst ds) := ref_lst hl
      obtain ⟨vs, t, rr⟩ := lst_at A1 ea hs
      exact ⟨a, rfl, ⟨vs, .inl (.inl t)⟩, p _ _ _ (Ext.refl _ _) A1 (itl_ref ea)⟩
  | _ => exact p.elim
theorem di_tup (h : DE X Γ e m) : DI X Γ tg e (tpI m) := by
  refine pi_imp (pi_tup h) ?_
  rintro σ H R ⟨ρ, δ, S, w, p⟩
  refine ⟨ρ, δ, S, w, (PoE.then p).imp ?_⟩
  rintro v H1 ⟨ρ1, d, S1, x1, A1, r, p⟩
  cases d with
  | tup ds =>
    simp only [Rep] at r
    obtain ⟨a, vs, rfl, t, rr⟩ := r
    exact ⟨a, rfl, ⟨vs, t.sq⟩, p _ _ _ (Ext.refl _ _) A1 (itt_vals t rr)⟩
  | _ => exact p.elim
theorem di_chr (h : DE X Γ e m) : DI X Γ tg e (chI m) := by
  refine pi_imp (pi_str h) ?_
  rintro σ H R ⟨ρ, δ, S, w, p⟩
  refine ⟨ρ, δ, S, w, (PoE.then p).imp ?_⟩
  rintro v H1 ⟨ρ1, d, S1, x1, A1, r, p⟩
  cases d with
  | str x =>
    simp only [Rep] at r
    exact ⟨x, r, p _ _ _ (Ext.refl _ _) A1 its_vals⟩
  | _ => exact p.elim
/-- lo, lo + 1, .. -/
def upTo (lo : Int) (n : Nat) : List D := (List.range n).map fun (i : Nat) => D.int (lo + (i : Nat))
theorem itr_vals {K : PySem.W.Frag} {ρ : Pl} {H : Hp} {lo : Int} {n : Nat} : ItRep K ρ H ⟨upTo lo n, fun _ => True⟩ (Itr lo n) := by
  intro ρ' H' S w A _ i
  refine ⟨fun d e => ?_, fun e => ?_⟩
  · have e' : ((List.range n).map fun i => D.int (lo + (i : Nat)))[i]? = some d := e
    rw [List.getElem?_map] at e'
    obtain ⟨c, ec, rfl⟩ := Option.map_eq_some_iff.mp e'
    have hi : i < n := by
      have := (List.getElem?_eq_some_iff.mp ec).1
      simpa using this
    rw [List.getElem?_range hi] at ec
    cases ec
    refine ⟨hi, fun v H2 y => ?_⟩
    obtain ⟨rfl, rfl⟩ := y
    exact ⟨Ext.refl _ _, A, by simp only [Rep]⟩
  · have e' : i = ((List.range n).map fun i => D.int (lo + (i : Nat))).length := e
    show n ≤ i
    rw [e']
    simp
def rg1I (m : MA) : MI := fun δ S => (m δ S).bind fun ds S1 => match ds with
  | [.int j] => if -(2 ^ 62) ≤ j ∧ j < 2 ^ 62 then .ok ⟨upTo 0 j.toNat, fun _ => True⟩ S1 else .bad
  | _ => .bad
def rg2I (m : MA) : MI := fun δ S => (m δ S).bind fun ds S1 => match ds with
  | [.int i, .int j] => if -(2 ^ 62) ≤ i ∧ i < 2 ^ 62 ∧ -(2 ^ 62) ≤ j ∧ j < 2 ^ 62 then .ok ⟨upTo i (j - i).toNat, fun _ => True⟩ S1 else .bad
  | _ => .bad
theorem di_range1 {a : Expr} {p pos : Pos} {ma : MA} (ha : DA X Γ [a] ma) (hg : Gl X "range" := by rfl) (hm : X.mg "range" = none := by rfl) (hs : starEach [a] X.env = [(false, eval a X.env)] := by rfl) : DI X Γ tg (.Call (.Name "range" p) [a] [] pos) (rg1I ma) := by
  refine pi_imp (pi_range1 hg hm ha hs) ?_
  rintro σ H R ⟨ρ, δ, S, w, p⟩
  refine ⟨ρ, δ, S, w, (PoE.then p).imp ?_⟩
  rintro vs H1 ⟨ρ1, ds, S1, x1, A1, r, p⟩
  split at p
  · simp only [Reps, Rep] at r
    obtain ⟨v, ws, rfl, rfl, rfl⟩ := r
    split at p
    case isTrue h => exact ⟨_, rfl, h.1, h.2, p _ _ _ (Ext.refl _ _) A1 itr_vals⟩
    case isFalse h => exact p.elim
  · exact p.elim
theorem di_range2 {a b : Expr} {p pos : Pos} {ma : MA} (ha : DA X Γ [a, b] ma) (hg : Gl X "range" := by rfl) (hm : X.mg "range" = none := by rfl) (hs : starEach [a, b] X.env = [(false, eval a X.env), (false, eval b X.env)] := by rfl) (hs2 : starEach [b] X.env = [(false, eval b X.env)] := by rfl) : DI X Γ tg (.Call (.Name "range" p) [a, b] [] pos) (rg2I ma) := by
  refine pi_imp (pi_range2 hg hm ha hs hs2) ?_
  rintro σ H R ⟨ρ, δ, S, w, p⟩
  refine ⟨ρ, δ, S, w, (PoE.then p).imp ?_⟩
  rintro vs H1 ⟨ρ1, ds, S1, x1, A1, r, p⟩
  split at p
  · simp only [Reps, Rep] at r
    obtain ⟨v, ws, rfl, rfl, v2, w2, rfl, rfl, rfl⟩ := r
    split at p
    case isTrue h => exact ⟨_, _, rfl, h, p _ _ _ (Ext.refl _ _) A1 itr_vals⟩
    case isFalse h => exact p.elim
  · exact p.elim
end

/-! ### for -/
open Classical in
noncomputable def forGo (I : ItD) (g : MG) (b : MS) : List D → Loc → Sto → RS
  | [], δ, S => if I.ok S then .nx δ S else .bad
  | d :: ds, δ, S => if I.ok S then match g d S δ with
    | some δ1 => match b δ1 S with
      | .nx δ2 S2 => forGo I g b ds δ2 S2
      | .ct δ2 S2 => forGo I g b ds δ2 S2
      | .bk δ2 S2 => .nx δ2 S2
      | r => r
    | none => .bad
    else .bad
noncomputable def forS (m : MI) (g : MG) (b : MS) : MS := fun δ S => (m δ S).toS δ fun I S1 => forGo I g b I.ds δ S1
section
variable {X : Cx} {Γ : Gam} {tg e : Expr} {m : MI} {g : MG} {b : MS} {body : List Stmt} {pos : Pos}
theorem ds_for (hi : DI X Γ tg e m) (hg : DG X Γ tg g) (hb : DSs X Γ body b) (hc : X.calm = true := by rfl) (hp : PassesOwn (model X.prog X.w) X.A X.env X.xe := by assumption)
    (hs : ∀ x, foldedSetIterable e X.env x = pure x := by intro _; rfl) : DS X Γ (.For tg e body [] pos) (forS m g b) := by
  refine ps_imp (ps_for hp hc hi hg hb hs) ?_
  rintro D σ H ⟨ρ, δ, S, w, h⟩
  refine ⟨ρ, δ, S, w, PoE.imp ?_ (PoE.thenS w.loc w.l h)⟩
  rintro J H1 ⟨ρ1, I, S1, x1, A1, r, h⟩
  have J1 := Γ.mono x1.wk w.j
  refine ⟨fun i k σ' H' => k = I.ds.length - i ∧ i ≤ I.ds.length ∧ ∃ ρ' δ' S', Ext ρ1 H1 ρ' H' ∧ At X.K Γ ρ' σ' H' δ' S' ∧ PoS X.K Γ ρ' H' D (forGo I g b (I.ds.drop i) δ' S'),
    ⟨I.ds.length, by simp, Nat.zero_le _, ρ1, δ, S1, Ext.refl _ _, w.go x1 A1, h⟩, ?_⟩
  rintro i k σ' H' ⟨rfl, hi, ρ', δ', S', x', w', p⟩
  cases hd : I.ds[i]? with
  | none =>
    have hn : I.ds.length ≤ i := List.getElem?_eq_none_iff.mp hd
    rw [List.drop_eq_nil_of_le hn] at p
    unfold forGo at p
    by_cases o : I.ok S'
    · rw [if_pos o] at p
      exact .inl ⟨(r ρ' H' S' x'.wk w'.abs o i).2 (Nat.le_antisymm hi hn), p _ _ _ (Ext.refl _ _) w'.loc w'.l w'.abs⟩
    · rw [if_neg o] at p; exact p.elim
  | some d =>
    obtain ⟨hlt, ed⟩ := List.getElem?_eq_some_iff.mp hd
    rw [List.drop_eq_getElem_cons hlt, ed] at p
    unfold forGo at p
    by_cases o : I.ok S'
    case neg => rw [if_neg o] at p; exact p.elim
    rw [if_pos o] at p
    obtain ⟨go, yl⟩ := (r ρ' H' S' x'.wk w'.abs o i).1 d hd
    refine .inr ⟨go, fun σ2 H2 => i + 1 ≤ I.ds.length ∧ ∃ ρ2 δ2 S2, Ext ρ1 H1 ρ2 H2 ∧ At X.K Γ ρ2 σ2 H2 δ2 S2 ∧ PoS X.K Γ ρ2 H2 D (forGo I g b (I.ds.drop (i + 1)) δ2 S2), ?_, ?_⟩
    · rintro σ2 H2 ⟨hi2, q⟩
      exact ⟨I.ds.length - (i + 1), by omega, rfl, hi2, q⟩
    · intro v H2 y
      obtain ⟨x2, A2, r2⟩ := yl v H2 y
      cases hgd : g d S' δ' with
      | none => rw [hgd] at p; exact p.elim
      | some δ3 =>
        rw [hgd] at p
        refine ⟨ρ', δ', S', d, w'.go x2 A2, r2, δ3, hgd, fun σ3 L3 l3 => ⟨ρ', δ3, S', ⟨L3, A2, Γ.mono x2.wk w'.j, l3⟩, ?_⟩⟩
        have x3 := x'.trans x2
        dsimp only at p
        cases hb : b δ3 S' with
        | nx δ4 S4 =>
          rw [hb] at p
          exact fun ρ4 σ4 H4 x4 L4 l4 A4 => ⟨hlt, ρ4, δ4, S4, x3.trans x4, ⟨L4, A4, Γ.mono (x3.trans x4).wk J1, l4⟩, PoS.mono (x2.trans x4) p⟩
        | ct δ4 S4 =>
          rw [hb] at p
          exact fun ρ4 σ4 H4 x4 L4 l4 A4 => ⟨hlt, ρ4, δ4, S4, x3.trans x4, ⟨L4, A4, Γ.mono (x3.trans x4).wk J1, l4⟩, PoS.mono (x2.trans x4) p⟩
        | bk δ4 S4 =>
          rw [hb] at p
          exact fun ρ4 σ4 H4 x4 L4 l4 A4 => p ρ4 σ4 H4 (x2.trans x4) L4 l4 A4
        | rt d4 S4 =>
          rw [hb] at p
          exact fun ρ4 v4 H4 x4 A4 r4 => p ρ4 v4 H4 (x2.trans x4) A4 r4
        | exc y4 δ4 S4 =>
          rw [hb] at p
          exact fun ρ4 σ4 H4 cv dp x4 L4 l4 A4 r4 => p ρ4 σ4 H4 cv dp (x2.trans x4) L4 l4 A4 r4
        | bad => rw [hb] at p; exact p.elim
end

/-! ### while, with fuel -/
def whGo (c : MB) (b : MS) : Nat → Loc → Sto → RS
  | 0, _, _ => .bad
  | n + 1, δ, S => (c δ S).toS δ fun t S1 => match t with
    | false => .nx δ S1
    | true => match b δ S1 with
      | .nx δ2 S2 => whGo c b n δ2 S2
      | .ct δ2 S2 => whGo c b n δ2 S2
      | .bk δ2 S2 => .nx δ2 S2
      | r => r
/-- as often as it takes -/
noncomputable def whS (c : MB) (b : MS) : MS := open Classical in fun δ S => if h : ∃ n, whGo c b n δ S ≠ .bad then whGo c b h.choose δ S else .bad
theorem ds_while {X : Cx} {Γ : Gam} {e : Expr} {c : MB} {b : MS} {body : List Stmt} {pos : Pos} (hc : DT X Γ e c) (hb : DSs X Γ body b) (hp : PassesOwn (model X.prog X.w) X.A X.env X.xe := by assumption) : DS X Γ (.While e body [] pos) (whS c b) := by
  refine ps_imp (ps_while hp hc hb) ?_
  rintro D σ H ⟨ρ, δ, S, w, h⟩
  unfold whS at h
  split at h
  case isFalse => exact h.elim
  rename_i hn
  generalize hn.choose = n at h
  refine ⟨fun k σ' H' => ∃ ρ' δ' S', Ext ρ H ρ' H' ∧ At X.K Γ ρ' σ' H' δ' S' ∧ PoS X.K Γ ρ' H' D (whGo c b k δ' S'), ⟨n, ρ, δ, S, Ext.refl _ _, w, h⟩, ?_⟩
  rintro k σ' H' ⟨ρ', δ', S', x', w', p⟩
  cases k with
  | zero => exact p.elim
  | succ k =>
    unfold whGo at p
    refine ⟨ρ', δ', S', w', PoE.imp ?_ (PoE.thenS w'.loc w'.l p)⟩
    rintro t H2 ⟨ρ2, t', S2, x2, A2, rt, p⟩
    have e : t = t' := rt
    subst e
    cases t with
    | false => exact p ρ2 σ' H2 (Ext.refl _ _) (w'.loc.mono x2) w'.l A2
    | true =>
      rw [if_pos rfl]
      refine ⟨fun σ3 H3 => ∃ ρ3 δ3 S3, Ext ρ H ρ3 H3 ∧ At X.K Γ ρ3 σ3 H3 δ3 S3 ∧ PoS X.K Γ ρ3 H3 D (whGo c b k δ3 S3), fun σ3 H3 q => ⟨k, Nat.lt_succ_self _, q⟩, ρ2, δ', S2, w'.go x2 A2, ?_⟩
      have x3 := x'.trans x2
      dsimp only at p
      cases hb : b δ' S2 with
      | nx δ4 S4 =>
        rw [hb] at p
        exact fun ρ4 σ4 H4 x4 L4 l4 A4 => ⟨ρ4, δ4, S4, x3.trans x4, ⟨L4, A4, Γ.mono (x2.trans x4).wk w'.j, l4⟩, PoS.mono x4 p⟩
      | ct δ4 S4 =>
        rw [hb] at p
        exact fun ρ4 σ4 H4 x4 L4 l4 A4 => ⟨ρ4, δ4, S4, x3.trans x4, ⟨L4, A4, Γ.mono (x2.trans x4).wk w'.j, l4⟩, PoS.mono x4 p⟩
      | bk δ4 S4 => rw [hb] at p; exact p
      | rt d4 S4 => rw [hb] at p; exact p
      | exc y4 δ4 S4 => rw [hb] at p; exact p
      | bad => rw [hb] at p; exact p.elim

/-! ### list comprehensions -/
open Classical in
noncomputable def lcGo (I : ItD) (g : MG) (t : MB) (e : ME) (δ : Loc) : List D → Sto → List D → RE (List D)
  | [], S, acc => if I.ok S then .ok acc S else .bad
  | d :: ds, S, acc => if I.ok S then match g d S δ with
    | some δ1 => match t δ1 S with
      | .ok true S1 => match e δ1 S1 with
        | .ok y S2 => if acc.length < sizeLine then lcGo I g t e δ ds S2 (acc ++ [y]) else .bad
        | _ => .bad
      | .ok false S1 => lcGo I g t e δ ds S1 acc
      | _ => .bad
    | none => .bad
    else .bad
def wipeL (δ : Loc) : List Nat → Loc
  | [] => δ
  | v :: vs => (wipeL δ vs).set v none
/-- the items of the new list -/
noncomputable def lcM (m : MI) (vs : List Nat) (g : MG) (t : MB) (e : ME) : MA := fun δ S => (m δ S).bind fun I S1 => lcGo I g t e (wipeL δ vs) I.ds S1 []
noncomputable def lcE (m : MI) (vs : List Nat) (g : MG) (t : MB) (e : ME) : ME := fun δ S => (lcM m vs g t e δ S).bind fun ds S1 => .ok (.lst ds) S1
noncomputable def lcR (m : MI) (vs : List Nat) (g : MG) (t : MB) (e : ME) : ME := fun δ S => (lcM m vs g t e δ S).bind fun ds S1 => .ok (.ref S1.length) (S1 ++ [.lst ds])
theorem wipe_set {σ : L2.St} {i : Nat} {v : Option V} : ∀ {vs : List Nat}, i ∈ vs → wipe (σ.set i v) vs = wipe σ vs
  | [], h => by cases h
  | w :: vs, h => by
    unfold wipe
    by_cases hw : i = w
    · subst hw
      by_cases hm : i ∈ vs
      · rw [wipe_set hm]
      · clear h
        have : ∀ {vs : List Nat}, i ∉ vs → wipe (σ.set i v) vs = (wipe σ vs).set i v := by
          intro vs
          induction vs with
          | nil => intro _; rfl
          | cons u us ih =>
            intro hn
            unfold wipe
            rw [ih (fun z => hn (List.mem_cons_of_mem _ z)), List.set_comm _ _ (fun z => hn (by rw [z]; exact List.mem_cons_self ..))]
        rw [this hm, List.set_set]
    · rcases List.mem_cons.mp h with h | h
      · exact absurd h hw
      · rw [wipe_set h]
theorem wipeL_rel {K : PySem.W.Frag} {ρ : Pl} {H : Hp} {σ : L2.St} {δ : Loc} (L : LocR K ρ H σ δ) : ∀ vs : List Nat, LocR K ρ H (wipe σ vs) (wipeL δ vs)
  | [] => L
  | v :: vs => (wipeL_rel L vs).wipe
/-- within a comprehension: nothing is raised, the block's own slots alone turn -/
def Gam.blk (Γ : Gam) (vs : List Nat) (σ : L2.St) : Gam := ⟨fun _ _ _ _ => False, Γ.J, Γ.mono, fun σ' => wipe σ' vs = wipe σ vs, fun i => i ∈ vs, fun {i v σ'} h l => (wipe_set h).trans l⟩
def noT : MB := fun _ S => .ok true S
/-- a clause's tests -/
abbrev DTs (X : Cx) (Γ : Gam) (es : List Expr) (t : MB) : Prop := PTs X es (tT X.K Γ t)
theorem pts_imp {X : Cx} {es : List Expr} {t t' : TT} (h : PTs X es t) (k : ∀ σ H Q, t' σ H Q → t σ H Q) : PTs X es t' := ⟨fun pins s σ H Q I q => h.run pins s σ H Q I (k σ H Q q)⟩
theorem dts_nil {X : Cx} {Γ : Gam} : DTs X Γ [] noT := by
  refine pts_imp pts_nil ?_
  rintro σ H Q ⟨ρ, δ, S, w, h⟩
  exact h ρ _ H (Ext.refl _ _) w.abs rfl
theorem dts_one {X : Cx} {Γ : Gam} {e : Expr} {t : MB} (h : DT X Γ e t) : DTs X Γ [e] t := pts_one h

theorem pg_ex {ι : Type} {X : Cx} {e : Expr} {t : ι → TG} (h : ∀ i, PG X e (t i)) : PG X e (fun v σ H Q => ∃ i, t i v σ H Q) := ⟨fun pins s σ H v u Q I r ⟨i, q⟩ => (h i).run pins s σ H v u Q I r q⟩
theorem pe_ex {ι : Type} {X : Cx} {e : Expr} {t : ι → TE} (h : ∀ i, PE X e (t i)) : PE X e (fun σ H Q => ∃ i, t i σ H Q) := ⟨fun pins s σ H Q I ⟨i, q⟩ => (h i).run pins s σ H Q I q⟩
theorem pts_ex {ι : Type} {X : Cx} {e : List Expr} {t : ι → TT} (h : ∀ i, PTs X e (t i)) : PTs X e (fun σ H Q => ∃ i, t i σ H Q) := ⟨fun pins s σ H Q I ⟨i, q⟩ => (h i).run pins s σ H Q I q⟩
theorem wipe_wipe (σ : L2.St) : ∀ vs : List Nat, wipe (wipe σ vs) vs = wipe σ vs := by
  have h1 : ∀ (vs : List Nat) (σ : L2.St) (i : Nat), wipe (σ.set i none) vs = (wipe σ vs).set i none := by
    intro vs
    induction vs with
    | nil => intro σ i; rfl
    | cons u us ih =>
      intro σ i
      unfold wipe
      rw [ih]
      by_cases h : i = u
      · rw [h]
      · rw [List.set_comm _ _ h]
  intro vs
  induction vs with
  | nil => rfl
  | cons u us ih =>
    show (wipe ((wipe σ us).set u none) us).set u none = (wipe σ us).set u none
    rw [h1, ih, List.set_set]
theorem Ext.seth {ρ ρ' : Pl} {H H' : Hp} (h : List Addr) (x : Ext ρ H ρ' H') : Ext ⟨ρ.p, h⟩ H ⟨ρ'.p, h⟩ H' := ⟨x.pre, rfl, x.new, x.dom, x.stay⟩
theorem Ext.upd_new {ρ ρ' : Pl} {H H' : Hp} {p : Addr} {o : HO} (x : Ext ρ H ρ' H') (h : H p = none) : Ext ρ H ρ' (upd H' p o) := by
  refine ⟨x.pre, x.hid, x.new, fun a u e => ?_, fun a u e n => ?_⟩
  · obtain ⟨u', e'⟩ := x.dom a u e
    exact ⟨u', by rw [upd_ne (ne_of_none e h)]; exact e'⟩
  · rw [upd_ne (ne_of_none e h)]
    exact x.stay a u e n
theorem RE.bind_assoc {α β γ : Type} (r : RE α) (f : α → Sto → RE β) (k : β → Sto → RE γ) : (r.bind f).bind k = r.bind fun a S => (f a S).bind k := by cases r <;> rfl
/-- the list at p, made turn by turn -/
structure LcAt (K : PySem.W.Frag) (ρ : Pl) (H : Hp) (p : Addr) (ρ' : Pl) (H' : Hp) (S' : Sto) (acc : List D) : Prop where
  ph : ρ'.h = p :: ρ.h
  wk : Wk ρ H ρ' H'
  ex : Ext ρ H ⟨ρ'.p, ρ.h⟩ H'
  ab : Abs K ρ' S' H'
  li : ∃ vs, H' p = some (.lst vs) ∧ Reps K ρ' H' acc vs
theorem LcAt.start {K : PySem.W.Frag} {ρ : Pl} {H : Hp} {S : Sto} {p : Addr} (A : Abs K ρ S H) (h : H p = none) : LcAt K ρ H p (ρ.hide p) (upd H p (.lst [])) S [] :=
  ⟨rfl, Wk.hide h, (Ext.refl ρ H).upd_new h, A.hide h, [], upd_same, by simp only [Reps]⟩
theorem LcAt.go {K : PySem.W.Frag} {ρ : Pl} {H : Hp} {p : Addr} {ρ' : Pl} {H' : Hp} {S' : Sto} {acc : List D} {ρ2 : Pl} {H2 : Hp} {S2 : Sto} (h : LcAt K ρ H p ρ' H' S' acc) (x : Ext ρ' H' ρ2 H2) (A : Abs K ρ2 S2 H2) : LcAt K ρ H p ρ2 H2 S2 acc := by
  refine ⟨x.hid.trans h.ph, h.wk.trans x.wk, h.ex.trans (x.seth ρ.h), A, ?_⟩
  obtain ⟨vs, e, r⟩ := h.li
  exact ⟨vs, x.stay p _ e (h.ab.hn p (by rw [h.ph]; exact List.mem_cons_self ..)).1, r.mono x⟩
theorem LcAt.app {K : PySem.W.Frag} {ρ : Pl} {H : Hp} {p : Addr} {ρ' : Pl} {H' : Hp} {S' : Sto} {acc : List D} {d : D} {v : V} {vs : List V} (h : LcAt K ρ H p ρ' H' S' acc) (hp : H p = none) (r : Rep K ρ' H' d v) (e : H' p = some (.lst vs)) (rv : Reps K ρ' H' acc vs) : LcAt K ρ H p ρ' (upd H' p (.lst (vs ++ [v]))) S' (acc ++ [d]) := by
  have hm : p ∈ ρ'.h := by rw [h.ph]; exact List.mem_cons_self ..
  have x : Wk ρ' H' ρ' (upd H' p (.lst (vs ++ [v]))) := Wk.app hm
  exact ⟨h.ph, h.wk.trans x, h.ex.upd_new hp, h.ab.app hm, _, upd_same, (rv.wk x).append (by simp only [Reps]; exact ⟨_, _, rfl, r.wk x, rfl⟩)⟩
theorem LcAt.fin {K : PySem.W.Frag} {ρ : Pl} {H : Hp} {p : Addr} {ρ' : Pl} {H' : Hp} {S' : Sto} {acc : List D} (h : LcAt K ρ H p ρ' H' S' acc) : Wk ρ' H' ⟨ρ'.p, ρ.h⟩ H' ∧ Abs K ⟨ρ'.p, ρ.h⟩ S' H' :=
  ⟨Wk.show fun a m => by rw [h.ph]; exact List.mem_cons_of_mem _ m, h.ab.show fun a m => by rw [h.ph]; exact List.mem_cons_of_mem _ m⟩
theorem lc_turns {K : PySem.W.Frag} {Γ : Gam} {m : MI} {vs : List Nat} {g : MG} {t : MB} {e : ME} {k : List D → Sto → RE D} {σ : L2.St} {H : Hp} {Q : VK} {ρ : Pl} {δ : Loc} {S : Sto} (w : At K Γ ρ σ H δ S) (h : PoE K Γ (Rep K) ρ σ H Q ((lcM m vs g t e δ S).bind k))
    (hk : ∀ ρ1 H1 p ρ' H' S' acc, Ext ρ H ρ1 H1 → H1 p = none → LcAt K ρ1 H1 p ρ' H' S' acc → p ∉ ρ1.h → PoE K Γ (Rep K) ρ1 σ H1 Q (k acc S') → Q (.ref p) H') :
    tLc (tI K Γ m) (fun v σ' H Q => ∃ σ0, tG K (Γ.blk vs σ0) g v σ' H Q) (fun σ' H Q => ∃ σ0, tT K (Γ.blk vs σ0) t σ' H Q) (fun σ' H Q => ∃ σ0, tE K (Γ.blk vs σ0) e σ' H Q) vs σ H Q := by
  unfold lcM at h
  rw [RE.bind_assoc] at h
  refine ⟨ρ, δ, S, w, (PoE.then h).imp ?_⟩
  rintro J H1 ⟨ρ1, I, S1, x1, A1, r, h⟩ p hp
  have J1 := Γ.mono x1.wk w.j
  have nh : p ∉ ρ1.h := fun z => by
    obtain ⟨_, o, e⟩ := A1.hn p z
    rw [hp] at e; cases e
  refine ⟨fun i n H' => n = I.ds.length - i ∧ i ≤ I.ds.length ∧ ∃ ρ' S' acc, LcAt K ρ1 H1 p ρ' H' S' acc ∧ PoE K Γ (Rep K) ρ1 σ H1 Q ((lcGo I g t e (wipeL δ vs) (I.ds.drop i) S' acc).bind k),
    ⟨I.ds.length, by simp, Nat.zero_le _, _, S1, [], LcAt.start A1 hp, h⟩, ?_⟩
  rintro i n H' ⟨rfl, hi, ρ', S', acc, la, q⟩
  cases hd : I.ds[i]? with
  | none =>
    have hn : I.ds.length ≤ i := List.getElem?_eq_none_iff.mp hd
    rw [List.drop_eq_nil_of_le hn] at q
    unfold lcGo at q
    by_cases o : I.ok S'
    · rw [if_pos o] at q
      exact .inl ⟨(r ρ' H' S' la.wk la.ab o i).2 (Nat.le_antisymm hi hn), hk ρ1 H1 p ρ' H' S' acc x1 hp la nh q⟩
    · rw [if_neg o] at q; exact q.elim
  | some d =>
    obtain ⟨hlt, ed⟩ := List.getElem?_eq_some_iff.mp hd
    rw [List.drop_eq_getElem_cons hlt, ed] at q
    unfold lcGo at q
    by_cases o : I.ok S'
    case neg => rw [if_neg o] at q; exact q.elim
    rw [if_pos o] at q
    obtain ⟨go, yl⟩ := (r ρ' H' S' la.wk la.ab o i).1 d hd
    refine .inr ⟨go, fun H2 => i + 1 ≤ I.ds.length ∧ ∃ ρ2 S2 acc2, LcAt K ρ1 H1 p ρ2 H2 S2 acc2 ∧ PoE K Γ (Rep K) ρ1 σ H1 Q ((lcGo I g t e (wipeL δ vs) (I.ds.drop (i + 1)) S2 acc2).bind k), fun H2 ⟨h1, h2⟩ => ⟨I.ds.length - (i + 1), by omega, rfl, h1, h2⟩, fun v H2 y => ?_⟩
    obtain ⟨x2, A2, r2⟩ := yl v H2 y
    cases hgd : g d S' (wipeL δ vs) with
    | none => rw [hgd] at q; exact q.elim
    | some δ3 =>
      rw [hgd] at q
      dsimp only at q
      have la2 := la.go x2 A2
      have jj : Γ.J ρ' H2 := Γ.mono la2.wk J1
      refine ⟨σ, ρ', wipeL δ vs, S', d, ⟨wipeL_rel ((w.loc.mono x1).wk la2.wk) vs, A2, jj, wipe_wipe σ vs⟩, r2, δ3, hgd, fun σ3 L3 l3 => ⟨l3, σ, ρ', δ3, S', ⟨L3, A2, jj, l3⟩, ?_⟩⟩
      cases ht : t δ3 S' with
      | exc y' S9 => rw [ht] at q; exact q.elim
      | bad => rw [ht] at q; exact q.elim
      | ok b S3 =>
        rw [ht] at q
        intro ρ3 b' H3 x3 A3 rb
        have e : b' = b := rb
        subst e
        have la3 := la2.go x3 A3
        cases b' with
        | false =>
          rw [if_neg Bool.false_ne_true]
          exact ⟨hlt, ρ3, S3, acc, la3, q⟩
        | true =>
          rw [if_pos rfl]
          dsimp only at q
          refine ⟨σ, ρ3, δ3, S3, ⟨L3.mono x3, A3, Γ.mono la3.wk J1, l3⟩, ?_⟩
          cases he : e δ3 S3 with
          | exc y' S9 => rw [he] at q; exact q.elim
          | bad => rw [he] at q; exact q.elim
          | ok yd S4 =>
            rw [he] at q
            dsimp only at q
            intro ρ4 y4 H4 x4 A4 r4
            have la4 := la3.go x4 A4
            obtain ⟨us, eu, ru⟩ := la4.li
            by_cases hz : acc.length < sizeLine
            · rw [if_pos hz] at q
              exact ⟨us, eu, by rw [ru.length]; exact hz, hlt, ρ4, S4, acc ++ [yd], la4.app hp r4 eu ru, q⟩
            · rw [if_neg hz] at q; exact q.elim

section
variable {X : Cx} {Γ : Gam} {m : MI} {vs : List Nat} {g : MG} {t : MB} {e : ME} {elt tg iter : Expr} {ifs : List Expr} {scope : Scope} {own : List (Str × Nat)} {pos : Pos}
theorem lc_val {K : PySem.W.Frag} {σ : L2.St} {H : Hp} {Q : VK} (h : tE K Γ (lcE m vs g t e) σ H Q) :
    tLc (tI K Γ m) (fun v σ' H Q => ∃ σ0, tG K (Γ.blk vs σ0) g v σ' H Q) (fun σ' H Q => ∃ σ0, tT K (Γ.blk vs σ0) t σ' H Q) (fun σ' H Q => ∃ σ0, tE K (Γ.blk vs σ0) e σ' H Q) vs σ H Q := by
  obtain ⟨ρ, δ, S, w, h⟩ := h
  refine lc_turns w h fun ρ1 H1 p ρ' H' S' acc x1 hp la nh q => ?_
  obtain ⟨w1, A'⟩ := la.fin
  obtain ⟨us, eu, ru⟩ := la.li
  refine q _ _ _ la.ex A' ?_
  simp only [Rep]
  exact ⟨p, us, rfl, ⟨fun z => z.elim (la.ab.hn p (by rw [la.ph]; exact List.mem_cons_self ..)).1 nh, eu⟩, ru.wk w1⟩
theorem lc_ref {K : PySem.W.Frag} {σ : L2.St} {H : Hp} {Q : VK} (h : tE K Γ (lcR m vs g t e) σ H Q) :
    tLc (tI K Γ m) (fun v σ' H Q => ∃ σ0, tG K (Γ.blk vs σ0) g v σ' H Q) (fun σ' H Q => ∃ σ0, tT K (Γ.blk vs σ0) t σ' H Q) (fun σ' H Q => ∃ σ0, tE K (Γ.blk vs σ0) e σ' H Q) vs σ H Q := by
  obtain ⟨ρ, δ, S, w, h⟩ := h
  refine lc_turns w h fun ρ1 H1 p ρ' H' S' acc x1 hp la nh q => ?_
  obtain ⟨w1, A'⟩ := la.fin
  obtain ⟨us, eu, ru⟩ := la.li
  have np := (la.ab.hn p (by rw [la.ph]; exact List.mem_cons_self ..)).1
  -- the place is new
  have w2 : Wk ρ' H' ⟨ρ'.p ++ [p], ρ1.h⟩ H' := ⟨⟨[p], rfl⟩, fun a o ea na => ⟨fun z => by
    rcases z with z | z
    · rcases List.mem_append.mp z with z | z
      · exact na (.inl z)
      · have : a = p := by simpa using z
        subst this
        exact na (.inr (by rw [la.ph]; exact List.mem_cons_self ..))
    · exact na (.inr (by rw [la.ph]; exact List.mem_cons_of_mem _ z)), ea⟩⟩
  refine q ⟨ρ'.p ++ [p], ρ1.h⟩ (.ref p) H' ?_ ?_ ?_
  · refine ⟨la.ex.pre.trans ⟨[p], rfl⟩, rfl, fun a z => ?_, la.ex.dom, la.ex.stay⟩
    rcases List.mem_append.mp z with z | z
    · exact la.ex.new a z
    · have : a = p := by simpa using z
      subst this
      exact .inr hp
  · refine ⟨by simp [la.ab.len], ?_, fun a z => ⟨fun y => ?_, (A'.hn a z).2⟩, fun n a o e1 e2 => ?_⟩
    · rw [List.nodup_append]
      refine ⟨la.ab.nd, by simp, fun a ha b hb => ?_⟩
      have : b = p := by simpa using hb
      subst this
      rintro rfl
      exact np ha
    · rcases List.mem_append.mp y with y | y
      · exact (A'.hn a z).1 y
      · have : a = p := by simpa using y
        subst this
        exact nh z
    · by_cases hn : n < ρ'.p.length
      · have e1' : (ρ'.p ++ [p])[n]? = some a := e1
        rw [List.getElem?_append_left hn] at e1'
        rw [List.getElem?_append_left (by rw [← la.ab.len]; exact hn)] at e2
        exact (la.ab.obj n a o e1' e2).wk w2 rfl
      · have e1' : (ρ'.p ++ [p])[n]? = some a := e1
        have hn' : n = ρ'.p.length := by
          have := (List.getElem?_eq_some_iff.mp e1').1
          simp at this
          omega
        subst hn'
        rw [List.getElem?_append_right (Nat.le_refl _)] at e1'
        rw [la.ab.len, List.getElem?_append_right (Nat.le_refl _)] at e2
        simp at e1' e2
        subst e1' e2
        exact ⟨us, eu, ru.wk w2⟩
  · simp only [Rep]
    refine ⟨p, rfl, ?_⟩
    show (ρ'.p ++ [p])[S'.length]? = some p
    rw [← la.ab.len, List.getElem?_append_right (Nat.le_refl _)]
    simp
/-- the parts of a comprehension in its own block -/
structure LcOk (X : Cx) (Γ : Gam) (elt tg iter : Expr) (ifs : List Expr) (scope : Scope) (own : List (Str × Nat)) (m : MI) (g : MG) (t : MB) (e : ME) : Prop where
  calm : X.calm = true
  nd : X.N.Nodup
  ok : BlkOk X.N X.env.scope scope own
  it : DI X Γ tg iter m
  tg : ∀ (s : Shared) (H : Hp) (C : Addr) (cl : List (Str × Addr)) (fp : List Addr) (σ : L2.St), DG (X.blk s H scope (compEnvC scope cl C X.env) fp) (Γ.blk (own.map (·.2)) σ) tg g
  ts : ∀ (s : Shared) (H : Hp) (C : Addr) (cl : List (Str × Addr)) (fp : List Addr) (σ : L2.St), DTs (X.blk s H scope (compEnvC scope cl C X.env) fp) (Γ.blk (own.map (·.2)) σ) ifs t
  el : ∀ (s : Shared) (H : Hp) (C : Addr) (cl : List (Str × Addr)) (fp : List Addr) (σ : L2.St), DE (X.blk s H scope (compEnvC scope cl C X.env) fp) (Γ.blk (own.map (·.2)) σ) elt e
  fs : ∀ x, foldedSetIterable iter X.env x = pure x
theorem pe_lcD (L : LcOk X Γ elt tg iter ifs scope own m g t e) : PE X (.ListComp elt [⟨tg, iter, ifs, 0⟩] scope pos) (tLc (tI X.K Γ m) (fun v σ' H Q => ∃ σ0, tG X.K (Γ.blk (own.map (·.2)) σ0) g v σ' H Q) (fun σ' H Q => ∃ σ0, tT X.K (Γ.blk (own.map (·.2)) σ0) t σ' H Q) (fun σ' H Q => ∃ σ0, tE X.K (Γ.blk (own.map (·.2)) σ0) e σ' H Q) (own.map (·.2))) :=
  pe_lc L.calm L.nd L.it L.ok (fun s H C cl fp => pg_ex (L.tg s H C cl fp)) (fun s H C cl fp => pts_ex (L.ts s H C cl fp)) (fun s H C cl fp => pe_ex (L.el s H C cl fp)) L.fs
theorem de_lc (L : LcOk X Γ elt tg iter ifs scope own m g t e) : DE X Γ (.ListComp elt [⟨tg, iter, ifs, 0⟩] scope pos) (lcE m (own.map (·.2)) g t e) := pe_imp (pe_lcD L) fun _ _ _ => lc_val
theorem de_lcR (L : LcOk X Γ elt tg iter ifs scope own m g t e) : DE X Γ (.ListComp elt [⟨tg, iter, ifs, 0⟩] scope pos) (lcR m (own.map (·.2)) g t e) := pe_imp (pe_lcD L) fun _ _ _ => lc_ref
theorem ps_lcD {i : Nat} {y : Str} {py spos : Pos} (L : LcOk X Γ elt tg iter ifs scope own m g t e) (hy : X.N[i]? = some y) (hyl : X.env.scope.names.lookup y = some .local) (hsw : swapsWith (.ListComp elt [⟨tg, iter, ifs, 0⟩] scope pos) (some (.Name y py)) spos.line X.env = pure true) :
    PS X (.Assign [.Name y py] (.ListComp elt [⟨tg, iter, ifs, 0⟩] scope pos) spos) (tAsg (tLc (tI X.K Γ m) (fun v σ' H Q => ∃ σ0, tG X.K (Γ.blk (own.map (·.2)) σ0) g v σ' H Q) (fun σ' H Q => ∃ σ0, tT X.K (Γ.blk (own.map (·.2)) σ0) t σ' H Q) (fun σ' H Q => ∃ σ0, tE X.K (Γ.blk (own.map (·.2)) σ0) e σ' H Q) (own.map (·.2))) (gName i)) :=
  ps_setLc L.calm L.nd hy hyl hsw L.it L.ok (fun s H C cl fp => pg_ex (L.tg s H C cl fp)) (fun s H C cl fp => pts_ex (L.ts s H C cl fp)) (fun s H C cl fp => pe_ex (L.el s H C cl fp)) L.fs
theorem asg_at {X : Cx} {Γ : Gam} {i : Nat} {me : ME} {tt : TE} (k : ∀ σ H Q, tE X.K Γ me σ H Q → tt σ H Q) (hfr : Γ.fr i) (D : Ends) (σ : L2.St) (H : Hp) (h : DL.tS X.K Γ (asgS me (nameG i)) D σ H) : tAsg tt (gName i) D σ H := by
  obtain ⟨ρ, δ, S, w, h⟩ := h
  refine k σ H _ ⟨ρ, δ, S, w, PoE.imp ?_ (PoE.thenS w.loc w.l h)⟩
  rintro v1 H1 ⟨ρ1, d1, S1, e1, A1, r1, h1⟩
  exact h1 ρ1 _ _ (Ext.refl _ _) ((w.loc.mono e1).set r1) (Γ.lset hfr w.l) A1
theorem ds_setLc {y : Str} {py spos : Pos} (i : Nat) (L : LcOk X Γ elt tg iter ifs scope own m g t e) (hy : X.N[i]? = some y := by rfl) (hyl : X.env.scope.names.lookup y = some .local := by rfl) (hsw : swapsWith (.ListComp elt [⟨tg, iter, ifs, 0⟩] scope pos) (some (.Name y py)) spos.line X.env = pure true := by exact sw_true rfl rfl rfl rfl)
    (hfr : Γ.fr i := by first | trivial | decide) : DS X Γ (.Assign [.Name y py] (.ListComp elt [⟨tg, iter, ifs, 0⟩] scope pos) spos) (asgS (lcE m (own.map (·.2)) g t e) (nameG i)) :=
  ps_imp (ps_lcD L hy hyl hsw) (asg_at (fun _ _ _ => lc_val) hfr)
theorem ds_setLcR {y : Str} {py spos : Pos} (i : Nat) (L : LcOk X Γ elt tg iter ifs scope own m g t e) (hy : X.N[i]? = some y := by rfl) (hyl : X.env.scope.names.lookup y = some .local := by rfl) (hsw : swapsWith (.ListComp elt [⟨tg, iter, ifs, 0⟩] scope pos) (some (.Name y py)) spos.line X.env = pure true := by exact sw_true rfl rfl rfl rfl)
    (hfr : Γ.fr i := by first | trivial | decide) : DS X Γ (.Assign [.Name y py] (.ListComp elt [⟨tg, iter, ifs, 0⟩] scope pos) spos) (asgS (lcR m (own.map (·.2)) g t e) (nameG i)) :=
  ps_imp (ps_lcD L hy hyl hsw) (asg_at (fun _ _ _ => lc_ref) hfr)
end
end DL

/-! DL7: isinstance; exceptions: raise, try, the suite; walrus. -/
namespace DL
open PySem PySem.Spec PyProof.Rows L2

/-! ### classes -/
theorem de_ty {X : Cx} {Γ : Gam} {x : Str} {n : String} {pos : Pos} (hv : bootBuiltins x = some (.type n)) (hm : X.mg x = none := by rfl) (hg : Gl X x := by rfl) (hn : x ≠ "__name__" := by decide) (hd : (x == ("__debug__" : Str)) = false := by decide) : DE X Γ (.Name x pos) (conE (.ty n)) :=
  de_con (pe_bltn (v := .ty n) hg hm hv rfl hn hd) fun _ _ _ _ => by simp only [Rep]
/-- which class is below which, as the program asks it -/
abbrev Tab := List ((Ec × Ec) × Bool)
def KitOk (K : PySem.W.Frag) (T : Tab) : Prop := ∀ a b r, T.lookup (a, b) = some r → PySem.W.kitOne K (a.val K) (b.val K) = some r
def ExmOk (K : PySem.W.Frag) (T : Tab) : Prop := ∀ a b r, T.lookup (a, b) = some r → PySem.W.exmOne K (a.val K) (b.val K) = some r
def kitT (K : PySem.W.Frag) (T : Tab) : Bool := T.all fun t => decide (PySem.W.kitOne K (t.1.1.val K) (t.1.2.val K) = some t.2)
def exmT (K : PySem.W.Frag) (T : Tab) : Bool := T.all fun t => decide (PySem.W.exmOne K (t.1.1.val K) (t.1.2.val K) = some t.2)
theorem mem_lookup {α β : Type} [BEq α] [LawfulBEq α] : ∀ {l : List (α × β)} {a : α} {b : β}, l.lookup a = some b → (a, b) ∈ l
  | [], _, _, h => by cases h
  | (x, y) :: l, a, b, h => by
    by_cases e : a = x
    · subst e
      rw [List.lookup_cons, beq_self_eq_true] at h
      cases h
      exact List.mem_cons_self ..
    · have e' : (a == x) = false := by simpa using e
      rw [List.lookup_cons, e'] at h
      exact List.mem_cons_of_mem _ (mem_lookup h)
theorem kitT_ok {K : PySem.W.Frag} {T : Tab} (h : kitT K T = true) : KitOk K T := fun a b r e => of_decide_eq_true (List.all_eq_true.mp h _ (mem_lookup e))
theorem exmT_ok {K : PySem.W.Frag} {T : Tab} (h : exmT K T = true) : ExmOk K T := fun a b r e => of_decide_eq_true (List.all_eq_true.mp h _ (mem_lookup e))
/-- what isinstance asks of a class whose instances it is given -/
structure InsC (K : PySem.W.Frag) (C : Addr) : Prop where
  cl : Cls K C
  ha : PySem.W.findIn K (.ref C) "__class__" = some (some (.builtin "object.__class__"))
  hn : PySem.W.specialIn K (.builtin "object.__class__") "__get__" = some (some (.builtin "getset_descriptor.__get__"))
  ht : PySem.W.takesIn K (.builtin "object.__class__") = some true
  hm : PySem.W.mroIn K C (.type "object") = some true
def tyB (a b : String) : Option Bool := if ["int", "bool", "str", "tuple", "list", "dict"].contains b && ["NoneType", "int", "bool", "str", "tuple", "list", "dict"].contains a then some (a == b || (a == "bool" && b == "int")) else none
theorem tyB_ok {K : PySem.W.Frag} {a b : String} {r : Bool} (h : tyB a b = some r) : PySem.W.kitOne K (.type a) (.type b) = some r := by
  unfold tyB at h
  split at h
  · rename_i hc
    simp only [List.contains_cons, List.contains_nil, Bool.or_false, Bool.and_eq_true, Bool.or_eq_true, beq_iff_eq] at hc
    obtain ⟨hb, ha⟩ := hc
    cases h
    rcases hb with rfl | rfl | rfl | rfl | rfl | rfl <;> rcases ha with rfl | rfl | rfl | rfl | rfl | rfl | rfl <;> exact kit_ty (by decide +kernel)
  · cases h
def kitD (T : Tab) : Ec → Ec → Option Bool
  | .blt a, .blt b => (tyB a b).or (T.lookup (.blt a, .blt b))
  | a, b => T.lookup (a, b)
theorem kitD_ok {K : PySem.W.Frag} {T : Tab} (hT : KitOk K T) {a b : Ec} {r : Bool} (h : kitD T a b = some r) : PySem.W.kitOne K (a.val K) (b.val K) = some r := by
  cases a with
  | own x => exact hT _ _ _ h
  | blt x => cases b with
    | own y => exact hT _ _ _ h
    | blt y =>
      simp only [kitD] at h
      cases e : tyB x y with
      | some r' =>
        rw [e, Option.some_or] at h
        cases h
        exact tyB_ok e
      | none =>
        rw [e, Option.none_or] at h
        exact hT _ _ _ h
def ecOf : D → Option Ec
  | .ty n => some (.blt n)
  | .glo x => some (.own x)
  | _ => none
def ecsOf : List D → Option (List Ec)
  | [] => some []
  | d :: ds => (ecOf d).bind fun e => (ecsOf ds).map fun es => e :: es
def kitAnyD (T : Tab) (t : Ec) : List Ec → Option Bool
  | [] => some false
  | c :: r => match kitD T t c with
    | some true => some true
    | some false => kitAnyD T t r
    | none => none
theorem kitAnyD_ok {K : PySem.W.Frag} {T : Tab} (hT : KitOk K T) {t : Ec} : ∀ {l : List Ec} {r : Bool}, kitAnyD T t l = some r → PySem.W.kitAny K (t.val K) (l.map (·.val K)) = some r
  | [], r, h => by cases h; rfl
  | c :: l, r, h => by
    unfold kitAnyD at h
    show PySem.W.kitAny K (t.val K) (c.val K :: l.map (·.val K)) = some r
    unfold PySem.W.kitAny
    cases e : kitD T t c with
    | none => rw [e] at h; cases h
    | some b =>
      rw [e] at h
      rw [kitD_ok hT e]
      cases b with
      | true => exact h
      | false => exact kitAnyD_ok hT h
/-- the type of a value; ci: the classes whose instances may be asked -/
def tyOf (ci : Str → Bool) (S : Sto) : D → Option Ec
  | .non => some (.blt "NoneType")
  | .bl _ => some (.blt "bool")
  | .int _ => some (.blt "int")
  | .str _ => some (.blt "str")
  | .tup _ => some (.blt "tuple")
  | .lst _ => some (.blt "list")
  | .scr _ => some (.blt "list")
  | .emp => some (.blt "dict")
  | .ref n => match S[n]? with
    | some (.lst _) => some (.blt "list")
    | some (.ins c _) => if ci c = true then some (.own c) else none
    | none => none
  | _ => none
theorem tyOf_ok {K : PySem.W.Frag} {ci : Str → Bool} (hci : ∀ c, ci c = true → InsC K (He.ga K c)) {ρ : Pl} {H : Hp} {S : Sto} {d : D} {v : V} {t : Ec} (A : Abs K ρ S H) (r : Rep K ρ H d v) (h : tyOf ci S d = some t) : TyX K H v (t.val K) := by
  cases d with
  | non => simp only [tyOf] at h; cases h; simp only [Rep] at r; subst r; exact .base .non
  | bl b => simp only [tyOf] at h; cases h; simp only [Rep] at r; subst r; exact .base (.bl _)
  | int b => simp only [tyOf] at h; cases h; simp only [Rep] at r; subst r; exact .base (.int _)
  | str b => simp only [tyOf] at h; cases h; simp only [Rep] at r; subst r; exact .base (.str _)
  | tup ds =>
    simp only [tyOf] at h; cases h; simp only [Rep] at r
    obtain ⟨a, vs, rfl, t, _⟩ := r
    rcases t with ⟨_, t⟩ | ⟨o, its, n, e, c, _⟩
    · exact .base (.tup t)
    · exact .kTuple e c
  | lst ds =>
    simp only [tyOf] at h; cases h; simp only [Rep] at r
    obtain ⟨a, vs, rfl, t, _⟩ := r
    exact .base (.lst t.2)
  | scr ns =>
    simp only [tyOf] at h; cases h; simp only [Rep] at r
    obtain ⟨a, rfl, t⟩ := r
    rcases t with ⟨_, t | ⟨o, t⟩⟩ | ⟨o, its, n, e, c, _⟩
    · exact .base (.lst t)
    · exact .base (.frz t)
    · exact .kList e c
  | emp =>
    simp only [tyOf] at h; cases h; simp only [Rep] at r
    obtain ⟨a, rfl, _, t⟩ := r
    exact .base (.dK t)
  | ref n =>
    simp only [Rep] at r
    obtain ⟨a, rfl, ea⟩ := r
    have h' : (match S[n]? with | some (O.lst _) => some (Ec.blt "list") | some (O.ins c _) => if ci c = true then some (Ec.own c) else none | none => none) = some t := h
    cases hs : S[n]? with
    | none => rw [hs] at h'; cases h'
    | some o => cases o with
      | lst ds =>
        rw [hs] at h'; cases h'
        obtain ⟨vs, q, _⟩ := A.obj n a _ ea hs
        exact .base (.lst q)
      | ins c fs =>
        rw [hs] at h'
        obtain ⟨dx, vs, q, _⟩ := A.obj n a _ ea hs
        by_cases hc : ci c = true
        · rw [show (match some (O.ins c fs) with | some (O.lst _) => some (Ec.blt "list") | some (O.ins c _) => if ci c = true then some (Ec.own c) else none | none => none) = some (Ec.own c) from if_pos hc] at h'
          cases h'
          have k := hci c hc
          exact .base (.ins q k.cl k.ha k.hn k.ht k.hm)
        · rw [show (match some (O.ins c fs) with | some (O.lst _) => some (Ec.blt "list") | some (O.ins c _) => if ci c = true then some (Ec.own c) else none | none => none) = none from if_neg hc] at h'
          cases h'
  | glo x => simp only [tyOf] at h; cases h
  | ty x => simp only [tyOf] at h; cases h
def isiD (T : Tab) (ci : Str → Bool) (ds : List D) (S : Sto) : RE D := match ds with
  | [x, c] => match tyOf ci S x with
    | some t => match ecOf c with
      | some e => match kitD T t e with
        | some b => .ok (.bl b) S
        | none => .bad
      | none => match c with
        | .tup cs => match ecsOf cs with
          | some es => match kitAnyD T t es with
            | some b => .ok (.bl b) S
            | none => .bad
          | none => .bad
        | _ => .bad
    | none => .bad
  | _ => .bad
theorem clsV_of {K : PySem.W.Frag} {ρ : Pl} {H : Hp} {c : D} {e : Ec} {v : V} (h : ecOf c = some e) (r : Rep K ρ H c v) : ClsV v (e.val K) := by
  cases c with
  | ty n => simp only [ecOf] at h; cases h; simp only [Rep] at r; subst r; exact .ty n
  | glo n => simp only [ecOf] at h; cases h; simp only [Rep] at r; subst r; exact .own _
  | _ => simp only [ecOf] at h; cases h
theorem clsVs_of {K : PySem.W.Frag} {ρ : Pl} {H : Hp} : ∀ {cs : List D} {es : List Ec} {vs : List V}, ecsOf cs = some es → Reps K ρ H cs vs → Paired ClsV vs (es.map (·.val K))
  | [], es, vs, h, r => by
    cases h
    simp only [Reps] at r
    subst r
    exact .nil
  | c :: cs, es, vs, h, r => by
    unfold ecsOf at h
    obtain ⟨e, he, h⟩ := Option.bind_eq_some_iff.mp h
    obtain ⟨es', hes, rfl⟩ := Option.map_eq_some_iff.mp h
    simp only [Reps] at r
    obtain ⟨v, ws, rfl, r1, r2⟩ := r
    exact .cons (clsV_of he r1) (clsVs_of hes r2)
theorem cd_isi {X : Cx} {T : Tab} {ci : Str → Bool} (hT : KitOk X.K T) (hci : ∀ c, ci c = true → InsC X.K (He.ga X.K c)) : CallD X (.builtin "isinstance") (isiD T ci) := callD_of (CallR.or call_isi (CallR.or call_isiT call_isiK)) fun {Γ ρ σ H S ds vs Q} A rr h => by
  unfold isiD at h
  split at h
  case h_2 => exact h.elim
  rename_i x c
  simp only [Reps] at rr
  obtain ⟨vx, ws, rfl, rx, vc, w2, rfl, rc, rfl⟩ := rr
  cases ht : tyOf ci S x with
  | none => rw [ht] at h; exact h.elim
  | some t =>
    rw [ht] at h
    have tx := tyOf_ok hci A rx ht
    dsimp only at h
    cases he : ecOf c with
    | some e =>
      rw [he] at h
      dsimp only at h
      cases hk : kitD T t e with
      | none => rw [hk] at h; exact h.elim
      | some b =>
        rw [hk] at h
        exact .inl ⟨vx, vc, _, _, b, rfl, clsV_of he rc, tx, kitD_ok hT hk, h.val A (by simp only [Rep])⟩
    | none =>
      rw [he] at h
      dsimp only at h
      split at h
      case h_2 => exact h.elim
      rename_i cs
      cases hes : ecsOf cs with
      | none => rw [hes] at h; exact h.elim
      | some es =>
        rw [hes] at h
        dsimp only at h
        cases hk : kitAnyD T t es with
        | none => rw [hk] at h; exact h.elim
        | some b =>
          rw [hk] at h
          simp only [Rep] at rc
          obtain ⟨a, us, rfl, ta, rus⟩ := rc
          have pv := clsVs_of hes rus
          have hv : Q (.bl b) H := h.val A (by simp only [Rep])
          refine .inr ?_
          rcases ta with ⟨_, ta⟩ | ⟨o, its, n, e1, c1, d1, z1, v1⟩
          · exact .inl ⟨vx, a, us, _, _, b, rfl, ta, pv, tx, kitAnyD_ok hT hk, hv⟩
          · refine .inr ⟨vx, a, o.dict, its.toList, n, o.slots, _, b, rfl, ?_, tx, ?_, hv⟩
            · obtain ⟨oc, od, dt, sl⟩ := o
              dsimp only at c1 d1
              subst c1 d1
              rw [e1]
            · rw [ClsV.all pv v1]
              exact kitAnyD_ok hT hk
end DL

namespace DL
open PySem PySem.Spec PyProof.Rows L2
/-! ### making an exception, raise -/
abbrev MX := Loc → Sto → RE Ex
def XR (K : PySem.W.Frag) (ρ : Pl) (H : Hp) (x : Ex) (p : Value × Option Addr) : Prop := XRep K ρ H x p.1 p.2
def tX (K : PySem.W.Frag) (Γ : Gam) (m : MX) : L2.St → Hp → XK → Prop := fun σ H Q => ∃ ρ δ S, At K Γ ρ σ H δ S ∧ PoE K Γ (XR K) ρ σ H (fun p H' => Q p.1 p.2 H') (m δ S)
abbrev DX (X : Cx) (Γ : Gam) (e : Expr) (m : MX) : Prop := PMk X e (tX X.K Γ m)
theorem pmk_imp {X : Cx} {e : Expr} {t t' : L2.St → Hp → XK → Prop} (h : PMk X e t) (k : ∀ σ H Q, t' σ H Q → t σ H Q) : PMk X e t' := fun pins s σ H Q I q => h pins s σ H Q I (k σ H Q q)
def raiseS (m : MX) : MS := fun δ S => (m δ S).toS δ fun x S1 => .exc x δ S1
theorem ds_raise {X : Cx} {Γ : Gam} {e : Expr} {m : MX} {pos : Pos} (he : DX X Γ e m) (tk : Takes X Γ.W) (hc : X.calm = true := by rfl) : DS X Γ (.Raise (some e) none pos) (raiseS m) := by
  refine ps_imp (ps_raise hc tk he) ?_
  rintro D σ H ⟨ρ, δ, S, w, h⟩
  refine ⟨ρ, δ, S, w, PoE.imp ?_ (PoE.thenS w.loc w.l h)⟩
  rintro p H1 ⟨ρ1, x, S1, e1, A1, r, h⟩
  exact h ρ1 σ H1 _ _ (Ext.refl _ _) (w.loc.mono e1) w.l A1 r
/-- C(e), C an own class whose __init__ keeps e as its field f -/
def mkfE (c f : Str) (m : ME) : MX := fun δ S => (m δ S).bind fun d S1 => .ok ⟨.own c, some (f, d)⟩ S1
def spIni (C : Addr) (f : Str) : Sp := fun vs H Q _ => ∃ a y, vs = [.ref a, y] ∧ H a = some (exo a C none) ∧ ∀ dx, H dx = none → dx ≠ a → Q .non (upd (upd H dx (exd dx [(f, y)])) a (exo a C (some dx)))
theorem ok_ini {P : Program} {w : World} {K : PySem.W.Frag} {mg : Str → Option Value} {base : Heap} {C fI : Addr} {fd : FuncData} {qual x f : Str} {params : Arguments} {body : List Stmt} {scope : Scope} {p1 p2 p3 p4 : Pos}
    (F : FunD K "__init__" qual params body scope [] [] fI fd) (S : FnScope ["self", x] ["self", x] scope) (T : OexC K C) (hno : PySem.W.findIn K (.ref C) f = some none) (hb : body = [.Assign [.Attribute (.Name "self" p1) f p2] (.Name x p3) p4]) (hx : (x == ("__debug__" : Str)) = false) (hx2 : (x == ("__classdict__" : Str)) = false) (v1 : scope.names.lookup ("self" : Str) = some .local) (v2 : scope.names.lookup x = some .local) :
    FnOk P w K mg base CX0 1 fI fd ["self", x] (spIni C f) := by
  subst hb
  refine F.ok S (fun vs H Q E h => ?_) (fun cdv A outer s H vs Q E hr h => ⟨tOst K f (tVar 0) (tVar 1), PSs.nox ?_, ?_⟩)
  · obtain ⟨a, y, rfl, _⟩ := h
    rfl
  · exact pss_one (ps_ost (pe_var (i := 0) rfl (.inl v1) rfl) (pe_var (i := 1) rfl (.inl v2) hx hx2))
  · obtain ⟨a, y, rfl, ha, k⟩ := h
    exact ⟨y, rfl, .ref a, rfl, a, C, rfl, T, hno, .inl ⟨ha, fun dx n ne => k dx n ne⟩⟩
theorem dx_mkf {X : Cx} {Γ : Gam} {x f y : Str} {fI : Addr} {k : Nat} {fd : FuncData} {e : Expr} {m : ME} {p pos : Pos} (T : OexC X.K (He.ga X.K x)) (iC : PySem.W.findIn X.K (.ref (He.ga X.K x)) "__init__" = some (some (.ref fI))) (tI : PySem.W.typeIn X.K (.ref fI) = some (.type "function"))
    (F1 : FnOk X.prog X.w X.K X.mg X.base CX0 k fI fd ["self", y] (spIni (He.ga X.K x) f)) (hr : Room (k + 1) X.A) (hb : Binds X.K fd ["self", y] []) (hm : X.mg x = some (.ref (He.ga X.K x))) (ha : DE X Γ e m) (hg : Gl X x := by rfl)
    (hdb : (x == ("__debug__" : Str)) = false := by decide) (hs : starEach [e] X.env = (false, eval e X.env) :: starEach [] X.env := by rfl) (hpl : (backTo pos (starEach [] X.env)).any (·.1) = false := by rfl) :
    DX X Γ (.Call (.Name x p) [e] [] pos) (mkfE x f m) := by
  refine pmk_imp (pmk_oex (dvs := []) T iC tI F1 hr hb .nil pass0 hg hm (pa_cons ha pa_nil hs) hdb hs hpl) ?_
  rintro σ H Q ⟨ρ, δ, S, w, h⟩
  refine ⟨ρ, δ, S, w, (PoE.then h).imp ?_⟩
  rintro v H1 ⟨ρ1, d, S1, x1, A1, r, h⟩
  refine ⟨by show 1 ≤ 1000; decide, fun a hn => ⟨a, v, rfl, upd_same, fun dx hdx ne => ⟨rfl, dx, [(f, v)], ?_, ?_, ?_, ?_⟩⟩⟩
  · exact upd_same
  · rw [upd_ne ne, upd_same]
  · rw [← hdx, upd_ne ne]
  · have hd0 : H1 dx = none := by rw [← hdx, upd_ne ne]
    have e1 : upd (L2.del (upd (upd (upd H1 a (exo a (He.ga X.K x) none)) dx (exd dx [(f, v)])) a (exo a (He.ga X.K x) (some dx))) a) dx (.xd [(f, v)]) = upd H1 dx (.xd [(f, v)]) := by
      funext b
      by_cases hb : b = dx
      · subst hb
        rw [upd_same, upd_same]
      · rw [upd_ne hb, upd_ne hb]
        by_cases hba : b = a
        · subst hba
          rw [L2.del_same, hn]
        · rw [L2.del_ne hba, upd_ne hba, upd_ne hb, upd_ne hba]
    rw [e1]
    refine h ρ1 (_, some dx) _ (Ext.put hd0) (A1.put hd0) ⟨rfl, dx, v, rfl, A1.fresh hd0, upd_same, r.mono (Ext.put hd0)⟩
end DL

namespace DL
open PySem PySem.Spec PyProof.Rows L2
/-! ### try .. except C as e -/
def Gam.wish (Γ : Gam) (W : WX) : Gam := ⟨W, Γ.J, Γ.mono, Γ.L, Γ.fr, Γ.lset⟩
/-- within a suite: x in flight at a, in slot i -/
def Gam.su (Γ : Gam) (K : PySem.W.Frag) (i : Nat) (a : Addr) (x : Ex) (cls : Value) (d : Option Addr) : Gam :=
  ⟨fun _ _ _ _ => False, fun ρ H => Γ.J ρ H ∧ XRep K ρ H x cls d, fun w h => ⟨Γ.mono w h.1, h.2.wk w⟩, fun σ => Γ.L σ ∧ σ[i]? = some (some (.ref a)), fun j => Γ.fr j ∧ j ≠ i,
    fun {j v σ} f l => ⟨Γ.lset f.1 l.1, by rw [List.getElem?_set_ne f.2]; exact l.2⟩⟩
def RS.unset (i : Nat) : RS → RS
  | .nx δ S => .nx (δ.set i none) S
  | .bk δ S => .bk (δ.set i none) S
  | .ct δ S => .ct (δ.set i none) S
  | .rt d S => .rt d S
  | _ => .bad
def tryAsS (b : MS) (c : Ec) (T : Tab) (i : Nat) (su : Ex → MS) : MS := fun δ S => match b δ S with
  | .exc x δ1 S1 => if i < δ1.length then match T.lookup (x.cls, c) with
    | some true => (su x (δ1.set i none) S1).unset i
    | some false => .exc x δ1 S1
    | none => .bad
    else .bad
  | r => r
theorem pss_ex {ι : Type} {X : Cx} {e : List Stmt} {t : ι → TS} (h : ∀ i, PSs X e (t i)) : PSs X e (fun D σ H => ∃ i, t i D σ H) := ⟨fun pins s σ H D I ⟨i, q⟩ => (h i).run pins s σ H D I q⟩
section
variable {X : Cx} {Γ : Gam} {x n : Str} {c : Ec} {T : Tab} {body suite : List Stmt} {b₀ : Stmt} {np pos pos' : Pos} {mb : MS} {ms : Ex → MS}
theorem ds_tryAs (i : Nat) (hT : ExmOk X.K T) (hc : Names X x (c.val X.K)) (tk : Takes X Γ.W)
    (hb : ∀ (W : WX) (pn : List (Addr × Obj)) (xe : Value → Shared → Prop), Takes (X.tr pn xe) W → PassesOwn (model X.prog X.w) X.A X.env xe → DSs (X.tr pn xe) (Γ.wish W) body mb)
    (hsu : ∀ (y : Ex) (a : Addr) (oe : Obj) (cls : Value) (d : Option Addr) (pn : List (Addr × Obj)), Zc cls d oe → (∃ vs, oe.data = .fields vs) → DSs (X.suite a ((a, oe) :: pn)) (Γ.su X.K i a y cls d) (b₀ :: suite) (ms y))
    (hN : X.N.Nodup) (hs : X.stack = X.env :: X.outer := by rfl) (hf : X.env.frame = some X.env.locals := by rfl) (hi : X.N[i]? = some n := by rfl) (hln : X.env.kindOf n = some .local := by rfl) (hfr : Γ.fr i := by first | trivial | decide) :
    DS X Γ (.Try body [.ExceptHandler (some (.Name x np)) (some n) (b₀ :: suite) pos'] [] [] pos) (tryAsS mb c T i ms) := by
  refine ps_imp (ps_try_as (tb := fun W => DL.tS X.K (Γ.wish W) mb) (ts := fun a cls d D σ H => ∃ y, DL.tS X.K (Γ.su X.K i a y cls d) (ms y) D σ H) hs hf hN hi hln hc tk (fun W pn xe t p => hb W pn xe t p) (fun a oe cls d pn z f => pss_ex fun y => hsu y a oe cls d pn z f)) ?_
  rintro D σ H ⟨ρ, δ, S, w, h⟩
  refine ⟨ρ, δ, S, ⟨w.loc, w.abs, w.j, w.l⟩, ?_⟩
  unfold tryAsS at h
  cases e : mb δ S with
  | nx δ1 S1 => rw [e] at h; exact h
  | rt d1 S1 => rw [e] at h; exact h
  | bk δ1 S1 => rw [e] at h; exact h
  | ct δ1 S1 => rw [e] at h; exact h
  | bad => rw [e] at h; exact h
  | exc y δ1 S1 =>
    rw [e] at h
    dsimp only at h
    by_cases hl : i < δ1.length
    case neg => rw [if_neg hl] at h; exact h.elim
    rw [if_pos hl] at h
    intro ρ1 σ1 H1 cv dp x1 L1 l1 A1 r1
    cases ht : T.lookup (y.cls, c) with
    | none => rw [ht] at h; exact h.elim
    | some b =>
      rw [ht] at h
      refine ⟨b, by rw [r1.1]; exact hT _ _ _ ht, fun hb1 a ha => ?_, fun hb0 => ?_⟩
      · subst hb1
        dsimp only at h
        refine ⟨y, ρ1, δ1.set i none, S1, ⟨L1.hid, A1, ⟨Γ.mono x1.wk w.j, r1⟩, Γ.lset hfr l1, List.getElem?_set_self (by rw [L1.len]; exact hl)⟩, ?_⟩
        cases es : ms y (δ1.set i none) S1 with
        | nx δ2 S2 => rw [es] at h; exact fun ρ2 σ2 H2 x2 L2 l2 A2 => h ρ2 _ H2 (x1.trans x2) L2.wipe (Γ.lset hfr l2.1) A2
        | bk δ2 S2 => rw [es] at h; exact fun ρ2 σ2 H2 x2 L2 l2 A2 => h ρ2 _ H2 (x1.trans x2) L2.wipe (Γ.lset hfr l2.1) A2
        | ct δ2 S2 => rw [es] at h; exact fun ρ2 σ2 H2 x2 L2 l2 A2 => h ρ2 _ H2 (x1.trans x2) L2.wipe (Γ.lset hfr l2.1) A2
        | rt d2 S2 => rw [es] at h; exact fun ρ2 v2 H2 x2 A2 r2 => h ρ2 v2 H2 (x1.trans x2) A2 r2
        | exc z δ2 S2 => rw [es] at h; exact h.elim
        | bad => rw [es] at h; exact h.elim
      · subst hb0
        exact h ρ1 σ1 H1 cv dp x1 L1 l1 A1 r1
/-- e.f in the suite -/
def xfE (cf : Str → Bool) (f : Str) (y : Ex) : ME := fun _ S => match y with
  | ⟨.own c, some (g, d)⟩ => if g = f ∧ cf c = true then .ok d S else .bad
  | _ => .bad
theorem de_xf {i : Nat} {a : Addr} {y : Ex} {oe : Obj} {cls : Value} {d : Option Addr} {pn : List (Addr × Obj)} {f n : Str} {p pos : Pos} {cf : Str → Bool} (hT : ∀ c, cf c = true → XfC X.K (He.ga X.K c) ∧ PySem.W.findIn X.K (.ref (He.ga X.K c)) f = some none)
    (hz : Zc cls d oe) (hf : ∃ vs, oe.data = .fields vs) (hN : X.N[i]? = some n := by rfl) (hv : Vis X.env.scope n := by first | exact Or.inl rfl | exact Or.inr (Or.inl rfl) | exact Or.inr (Or.inr rfl)) (hd : (n == ("__debug__" : Str)) = false := by decide) (hcd : (n == ("__classdict__" : Str)) = false := by decide)
    (hb : attributeBase (.Name n p) f X.env (eval (.Name n p) X.env) = eval (.Name n p) X.env := by rfl) :
    DE (X.suite a ((a, oe) :: pn)) (Γ.su X.K i a y cls d) (.Attribute (.Name n p) f pos) (xfE cf f y) := by
  refine pe_imp (pe_ex (ι := {c : Str // cf c = true}) fun c => pe_xf (hT c.1 c.2).1 (hT c.1 c.2).2 hz hf (pe_var (i := i) hN hv hd hcd) hb) ?_
  rintro σ H Q ⟨ρ, δ, S, w, h⟩
  unfold xfE at h
  split at h
  case h_2 => exact h.elim
  rename_i c g d'
  split at h
  case isFalse => exact h.elim
  rename_i hc
  obtain ⟨hg, hc⟩ := hc
  subst hg
  obtain ⟨_, rx⟩ := w.j
  obtain ⟨e1, dd, v, e2, e3, e4, r⟩ := rx
  refine ⟨⟨c, hc⟩, .ref a, w.l.2, rfl, e1, dd, [(g, v)], v, e2, e4, by simp [List.lookup], h ρ v H (Ext.refl _ _) w.abs r⟩
end
end DL

/-! DL8: *, all, any, index, isinstance of a caught error, except without a name, walrus. -/
namespace DL
open PySem PySem.Spec PyProof.Rows L2

/-! ### times -/
def repL {α : Type} (k : Int) (xs : List α) : List α := (List.replicate k.toNat xs).flatten
def repS (k : Int) (x : Str) : Str := if k < 1 then Str.empty else if (k == 1 || x.length == 0) = true then x else ⟨(List.replicate k.toNat x.cps).foldl (· ++ ·) #[]⟩
def mulD (x y : D) (S : Sto) : RE D := match x, y with
  | .int i, .int j => if ((-(2 ^ 64) < i ∧ i < 2 ^ 64) ∨ (-(2 ^ 64) < j ∧ j < 2 ^ 64)) then .ok (.int (i * j)) S else .bad
  | .str a, .int k => if -(2 ^ 31) ≤ k ∧ k < 2 ^ 31 ∧ a.length * k.toNat ≤ 16777216 then .ok (.str (repS k a)) S else .bad
  | .lst ds, .int k => if -(2 ^ 63) ≤ k ∧ k < 2 ^ 63 ∧ ds.length * k.toNat ≤ sizeLine then .ok (.lst (repL k ds)) S else .bad
  | _, _ => .bad
theorem Reps.rep {K : PySem.W.Frag} {ρ : Pl} {H : Hp} {ds : List D} {vs : List V} (r : Reps K ρ H ds vs) : ∀ n : Nat, Reps K ρ H (List.replicate n ds).flatten (List.replicate n vs).flatten
  | 0 => by simp [Reps]
  | n + 1 => by
    rw [List.replicate_succ, List.replicate_succ, List.flatten_cons, List.flatten_cons]
    exact r.append (Reps.rep r n)
theorem rep_size {α : Type} (x : Array α) : ∀ (n : Nat) (i : Array α), ((List.replicate n x).foldl (· ++ ·) i).size = i.size + n * x.size
  | 0, i => by simp
  | n + 1, i => by
    rw [List.replicate_succ, List.foldl_cons, rep_size x n, Array.size_append, Nat.succ_mul]
    omega
theorem op_muls {X : Cx} : OpR X (binaryOp .Mult) (fun x y H Q => ∃ a k, x = .str a ∧ y = .int k ∧ -(2 ^ 31) ≤ k ∧ k < 2 ^ 31 ∧ a.length * k.toNat ≤ 16777216 ∧ Q (.str (repS k a)) H) := by
  intro pins s σ H x y v u Q I rx ry h
  obtain ⟨a, k, rfl, rfl, h1, h2, hz, q⟩ := h
  obtain ⟨t, rfl⟩ := rx
  obtain ⟨t', rfl⟩ := ry
  refine PySem.P.mul_str ?_ ?_ ?_ ?_
  · simp only [Bool.or_eq_false_iff, decide_eq_false_iff_not]
    constructor <;> omega
  · intro n1 n2 n3
    have hk : (0 : Int) < k := by omega
    have := Int.ediv_mul_le (2 ^ 63 - 1) (b := k) (by omega)
    have h5 : (a.length : Int) ≤ 16777216 := by
      have h6 : a.length ≤ a.length * k.toNat := Nat.le_mul_of_pos_right _ (by omega)
      omega
    have h7 : (2 ^ 31 : Int) ≤ (2 ^ 63 - 1) / k := by
      rw [Int.le_ediv_iff_mul_le hk]
      calc (2 ^ 31 : Int) * k ≤ 2 ^ 31 * 2 ^ 31 := by omega
        _ ≤ 2 ^ 63 - 1 := by decide
    omega
  · intro n1 n2
    unfold Builtin.Str.tooLong
    first
      | exact decide_eq_false (by have := sizeLine_eq; omega)
      | (simp only [decide_eq_false_iff_not]; have := sizeLine_eq; omega)
  · unfold repS at q
    split
    · rename_i h; rw [if_pos h] at q
      exact ⟨by decide, .str Str.empty, H, I.tok _, ⟨_, rfl⟩, q⟩
    · rename_i h; rw [if_neg h] at q
      split
      · rename_i h'; rw [if_pos h'] at q
        exact ⟨.str a, H, I, ⟨_, rfl⟩, q⟩
      · rename_i h'; rw [if_neg h'] at q
        refine ⟨?_, .str _, H, I.tok _, ⟨_, rfl⟩, q⟩
        show ((List.replicate k.toNat a.cps).foldl (· ++ ·) #[]).size ≤ sizeLine
        rw [rep_size, sizeLine_eq]
        have : a.cps.size * k.toNat ≤ 16777216 := hz
        rw [Nat.mul_comm]
        simpa using this
theorem od_mul {X : Cx} : OpD X (binaryOp .Mult) mulD := by
  refine ⟨fun x y H Q => (∃ i j, x = .int i ∧ y = .int j ∧ CMul i j ∧ Q (.int (i * j)) H) ∨ (∃ a k, x = .str a ∧ y = .int k ∧ -(2 ^ 31) ≤ k ∧ k < 2 ^ 31 ∧ a.length * k.toNat ≤ 16777216 ∧ Q (.str (repS k a)) H) ∨ rRep x y H Q, ?_, fun {Γ ρ σ H S x y vx vy Q} A rx ry h => ?_⟩
  · intro pins s σ H x y v u Q I rx ry h
    rcases h with ⟨i, j, rfl, rfl, hc, q⟩ | h | h
    · exact op_mul pins s σ H _ _ v u Q I rx ry ⟨i, j, rfl, rfl, hc, q⟩
    · exact op_muls pins s σ H _ _ v u Q I rx ry h
    · exact op_rep pins s σ H _ _ v u Q I rx ry h
  · unfold mulD at h
    split at h
    · simp only [Rep] at rx ry
      split at h
      · rename_i hc
        exact .inl ⟨_, _, rx, ry, hc, h.val A (by simp only [Rep])⟩
      · exact h.elim
    · simp only [Rep] at rx ry
      split at h
      · rename_i hc
        exact .inr (.inl ⟨_, _, rx, ry, hc.1, hc.2.1, hc.2.2, h.val A (by simp only [Rep])⟩)
      · exact h.elim
    · rename_i ds k
      simp only [Rep] at rx ry
      split at h
      · rename_i hc
        obtain ⟨a, vs, rfl, t, r⟩ := rx
        refine .inr (.inr ⟨a, k, vs, rfl, ry, t.2, hc.1, hc.2.1, by rw [r.length]; exact hc.2.2, fun p hp => ?_⟩)
        exact new_lst A (Reps.rep r k.toNat) h hp
      · exact h.elim
    · exact h.elim

/-! ### all, any -/
def blsOf : List D → Option (List Bool)
  | [] => some []
  | .bl b :: ds => (blsOf ds).map fun bs => b :: bs
  | _ => none
theorem bls_rep {K : PySem.W.Frag} {ρ : Pl} {H : Hp} : ∀ {ds : List D} {vs : List V} {bs : List Bool}, blsOf ds = some bs → Reps K ρ H ds vs → vs = bs.map V.bl
  | [], vs, bs, e, r => by
    cases e
    simp only [Reps] at r
    exact r
  | .bl b :: ds, vs, bs, e, r => by
    simp only [blsOf] at e
    obtain ⟨bs', e', rfl⟩ := Option.map_eq_some_iff.mp e
    simp only [Reps, Rep] at r
    obtain ⟨v, ws, rfl, rfl, r2⟩ := r
    rw [bls_rep e' r2]
    rfl
  | .non :: ds, vs, bs, e, r => by cases e
  | .int _ :: ds, vs, bs, e, r => by cases e
  | .str _ :: ds, vs, bs, e, r => by cases e
  | .tup _ :: ds, vs, bs, e, r => by cases e
  | .lst _ :: ds, vs, bs, e, r => by cases e
  | .emp :: ds, vs, bs, e, r => by cases e
  | .scr _ :: ds, vs, bs, e, r => by cases e
  | .ref _ :: ds, vs, bs, e, r => by cases e
  | .glo _ :: ds, vs, bs, e, r => by cases e
  | .ty _ :: ds, vs, bs, e, r => by cases e
def allD (ds : List D) (S : Sto) : RE D := match ds with
  | [d] => match (lstOf S d).bind blsOf with
    | some bs => .ok (.bl (bs.all id)) S
    | none => .bad
  | _ => .bad
def anyD (ds : List D) (S : Sto) : RE D := match ds with
  | [d] => match (lstOf S d).bind blsOf with
    | some bs => .ok (.bl (bs.any id)) S
    | none => .bad
  | _ => .bad
theorem cd_all {X : Cx} (hc : X.calm = true) : CallD X (.builtin "all") allD := callD_of (cr_all hc) fun {Γ ρ σ H S ds vs Q} A rr h => by
  unfold allD at h
  split at h
  · rename_i d
    obtain ⟨v, rfl, r⟩ := one_of rr
    split at h
    · rename_i bs e
      obtain ⟨es, e1, e2⟩ := Option.bind_eq_some_iff.mp e
      obtain ⟨a, ws, rfl, t, rw'⟩ := lst_rep A e1 r
      have := bls_rep e2 rw'
      subst this
      exact ⟨a, bs, rfl, SqL.of t, h.val A (by simp only [Rep])⟩
    · exact h.elim
  · exact h.elim
theorem cd_any {X : Cx} (hc : X.calm = true) : CallD X (.builtin "any") anyD := callD_of (cr_any hc) fun {Γ ρ σ H S ds vs Q} A rr h => by
  unfold anyD at h
  split at h
  · rename_i d
    obtain ⟨v, rfl, r⟩ := one_of rr
    split at h
    · rename_i bs e
      obtain ⟨es, e1, e2⟩ := Option.bind_eq_some_iff.mp e
      obtain ⟨a, ws, rfl, t, rw'⟩ := lst_rep A e1 r
      have := bls_rep e2 rw'
      subst this
      exact ⟨a, bs, rfl, SqL.of t, h.val A (by simp only [Rep])⟩
    · exact h.elim
  · exact h.elim

/-! ### l.index(x) -/
mutual
def dpOf : D → Option PyData
  | .non => some .none
  | .bl b => some (.bool b)
  | .int i => some (.int i)
  | .str x => some (.str x)
  | .tup ds => (dpsOf ds).map .tuple
  | .lst ds => (dpsOf ds).map .list
  | _ => none
def dpsOf : List D → Option (List PyData)
  | [] => some []
  | d :: ds => (dpOf d).bind fun p => (dpsOf ds).map fun ps => p :: ps
end
mutual
theorem dp_rep {K : PySem.W.Frag} {ρ : Pl} {H : Hp} : ∀ {d : D} {v : V} {p : PyData}, dpOf d = some p → Rep K ρ H d v → Dp K H v p
  | .non, v, p, e, r => by simp only [dpOf] at e; cases e; simp only [Rep] at r; subst r; exact .non
  | .bl b, v, p, e, r => by simp only [dpOf] at e; cases e; simp only [Rep] at r; subst r; exact .bl b
  | .int b, v, p, e, r => by simp only [dpOf] at e; cases e; simp only [Rep] at r; subst r; exact .int b
  | .str b, v, p, e, r => by simp only [dpOf] at e; cases e; simp only [Rep] at r; subst r; exact .str b
  | .tup ds, v, p, e, r => by
    simp only [dpOf] at e
    obtain ⟨ps, e1, rfl⟩ := Option.map_eq_some_iff.mp e
    simp only [Rep] at r
    obtain ⟨a, vs, rfl, t, rr⟩ := r
    exact .tup t.sq (dps_rep e1 rr)
  | .lst ds, v, p, e, r => by
    simp only [dpOf] at e
    obtain ⟨ps, e1, rfl⟩ := Option.map_eq_some_iff.mp e
    simp only [Rep] at r
    obtain ⟨a, vs, rfl, t, rr⟩ := r
    exact .lst (SqL.of t.2) (dps_rep e1 rr)
  | .emp, v, p, e, r => by simp only [dpOf] at e; cases e
  | .scr _, v, p, e, r => by simp only [dpOf] at e; cases e
  | .ref _, v, p, e, r => by simp only [dpOf] at e; cases e
  | .glo _, v, p, e, r => by simp only [dpOf] at e; cases e
  | .ty _, v, p, e, r => by simp only [dpOf] at e; cases e
theorem dps_rep {K : PySem.W.Frag} {ρ : Pl} {H : Hp} : ∀ {ds : List D} {vs : List V} {ps : List PyData}, dpsOf ds = some ps → Reps K ρ H ds vs → DpAll K H vs ps
  | [], vs, ps, e, r => by
    simp only [dpsOf] at e; cases e
    simp only [Reps] at r; subst r
    exact .nil
  | d :: ds, vs, ps, e, r => by
    simp only [dpsOf] at e
    obtain ⟨p, e1, e⟩ := Option.bind_eq_some_iff.mp e
    obtain ⟨qs, e2, rfl⟩ := Option.map_eq_some_iff.mp e
    simp only [Reps] at r
    obtain ⟨v, ws, rfl, r1, r2⟩ := r
    exact .cons (dp_rep e1 r1) (dps_rep e2 r2)
end
def indexD (x : D) (vs : List D) (S : Sto) : RE D := match vs with
  | [y] => match (lstOf S x).bind dpsOf, dpOf y with
    | some ps, some q => if SeqAt.shaped (.list ps) = true ∧ SeqAt.shaped q = true then match ps.findIdx? (fun z => PyData.eqv z q) with
      | some j => .ok (.int (j : Nat)) S
      | none => .bad
      else .bad
    | _, _ => .bad
  | _ => .bad
theorem indexD_noexc : NoExc indexD := by
  intro x ds S y S' h
  unfold indexD at h
  split at h
  · split at h
    · split at h
      · split at h <;> cases h
      · cases h
    · cases h
  · cases h
theorem md_index {X : Cx} (hu : X.A.units + 65 < cLine) : MethD X "list.index" indexD := by
  intro Γ pins s ρ σ H S x ds v vs u us Q I A r1 r2 rv rvs h
  unfold indexD at h
  split at h
  case h_2 => exact h.elim
  rename_i y
  split at h
  case h_2 => exact h.elim
  rename_i ps q e1 e2
  split at h
  case isFalse => exact h.elim
  rename_i hsh
  split at h
  case h_2 => exact h.elim
  rename_i j hj
  obtain ⟨es, e3, e4⟩ := Option.bind_eq_some_iff.mp e1
  obtain ⟨a, ws, rfl, t, rw'⟩ := lst_rep A e3 r1
  obtain ⟨vy, rfl, ry⟩ := one_of r2
  obtain ⟨hlt, hp, hno⟩ := List.findIdx?_eq_some_iff_getElem.mp hj
  refine mt_indexD hu pins s σ H _ _ u us Q I rv rvs ⟨a, vy, q, ps, j, ps[j], rfl, rfl, .lst (SqL.of t) (dps_rep e4 rw'), dp_rep e2 ry, hsh.1, hsh.2, List.getElem?_eq_getElem hlt, hp, fun m z' hm hz' => ?_, h.val A (by simp only [Rep])⟩
  obtain ⟨hml, rfl⟩ := List.getElem?_eq_some_iff.mp hz'
  have := hno m hm
  simpa using this

/-! ### if (x := e) is not None -/
def ifNN (i : Nat) (me : ME) (m n : MS) : MS := fun δ S => (me δ S).toS δ fun d S1 => match isNon d with
  | true => n (δ.set i (some d)) S1
  | false => m (δ.set i (some d)) S1
theorem ds_ifNN {X : Cx} {Γ : Gam} {x : Str} {e : Expr} {me : ME} {k : Nat} {a b : List Stmt} {m n : MS} {p p1 p2 p3 pos : Pos} (i : Nat) (hN : X.N.Nodup) (he : DE X Γ e me) (ha : DSs X Γ a m) (hb : DSs X Γ b n)
    (hi : X.N[i]? = some x := by rfl) (hx : L2.Loc X.env.scope x := by first | exact Or.inl rfl | exact Or.inr rfl) (hf : X.fn x = true ∨ X.env.scope.names.lookup x = some .local := by first | exact .inl rfl | exact .inr rfl | assumption) (hfr : Γ.fr i := by first | trivial | decide) :
    DS X Γ (.If (.Compare (.NamedExpr (.Name x p) e p1) [.IsNot] [.Constant .none k p2] p3) a b pos) (ifNN i me m n) := by
  refine ps_imp (ps_ifW (ptw_cmp op_notN (pew_named hN hi hx (pew_of he) hf) pe_non (by first | exact nomark _ | rfl)) ha hb) ?_
  rintro D σ H ⟨ρ, δ, S, w, h⟩
  refine ⟨ρ, δ, S, w, PoE.imp ?_ (PoE.thenS w.loc w.l h)⟩
  rintro v H1 ⟨ρ1, d, S1, e1, A1, r, h⟩
  refine ⟨rfl, !decide (v = .non), rfl, ?_⟩
  rw [rep_non r]
  have at1 : At X.K Γ ρ1 (σ.set i (some v)) H1 (δ.set i (some d)) S1 := ⟨(w.loc.mono e1).set r, A1, Γ.mono e1.wk w.j, Γ.lset hfr w.l⟩
  cases hd : isNon d with
  | true => rw [hd] at h; exact ⟨ρ1, _, S1, at1, h⟩
  | false => rw [hd] at h; exact ⟨ρ1, _, S1, at1, h⟩

/-! ### isinstance(e, c), e the exception that the suite holds -/
/-- what isinstance asks of an exception class -/
structure XcC (K : PySem.W.Frag) (C : Addr) : Prop where
  xf : XfC K C
  cl : (PySem.W.clsIn K C).isSome = true
  ha : PySem.W.findIn K (.ref C) "__class__" = some (some (.builtin "object.__class__"))
  hn : PySem.W.specialIn K (.builtin "object.__class__") "__get__" = some (some (.builtin "getset_descriptor.__get__"))
  ht : PySem.W.takesIn K (.builtin "object.__class__") = some true
  hm : PySem.W.mroIn K C (.type "object") = some true
def isxAns (T : Tab) (y : Ex) (c : D) : Option Bool := match ecOf c with
  | some e => kitD T y.cls e
  | none => match c with
    | .tup cs => (ecsOf cs).bind fun es => kitAnyD T y.cls es
    | _ => none
def isxE (T : Tab) (cx : Str → Bool) (y : Ex) (m : ME) : ME := fun δ S => (m δ S).bind fun c S1 => match y.cls with
  | .own C => if cx C = true then match isxAns T y c with
    | some b => .ok (.bl b) S1
    | none => .bad
    else .bad
  | _ => .bad
theorem call_isx {X : Cx} {Γ : Gam} {T : Tab} {cx : Str → Bool} {a : Addr} {y : Ex} {oe : Obj} {d : Option Addr} {pn : List (Addr × Obj)} (hT : KitOk X.K T) (hcx : ∀ c, cx c = true → XcC X.K (He.ga X.K c)) (hz : Zc (y.cls.val X.K) d oe) (hf : ∃ vs, oe.data = .fields vs) : CallR (X.suite a ((a, oe) :: pn)) (.builtin "isinstance") (fun xs H Q => ∃ ρ σ δ S c v, xs = [.ref a, v] ∧ Abs X.K ρ S H ∧ Rep X.K ρ H c v ∧ XRep X.K ρ H y (y.cls.val X.K) d ∧ PoE X.K Γ (Rep X.K) ρ σ H Q (isxE T cx y (conE c) δ S)) := by
  rintro pins s σ H xs us Q I r ⟨ρ, σ', δ, S, c, v, rfl, A, rc, rx, h⟩
  obtain ⟨u1, u2, rfl, r1, r2⟩ := vals2 r
  cases (show u1 = Value.ref a from r1)
  have h' : PoE X.K Γ (Rep X.K) ρ σ' H Q (match y.cls with
    | .own C => if cx C = true then match isxAns T y c with
      | some b => .ok (.bl b) S
      | none => .bad
      else .bad
    | _ => .bad) := h
  cases hy : y.cls with
  | blt t => rw [hy] at h'; exact h'.elim
  | own C =>
    rw [hy] at h'
    dsimp only at h'
    by_cases hc : cx C = true
    case neg => rw [if_neg hc] at h'; exact h'.elim
    rw [if_pos hc] at h'
    cases ha : isxAns T y c with
    | none => rw [ha] at h'; exact h'.elim
    | some b =>
      rw [ha] at h'
      have q : Q (.bl b) H := h'.val A (by simp only [Rep])
      have k := hcx C hc
      -- the object with its own dict, as the heap has it
      obtain ⟨hget, _⟩ := I.pin (a, oe) (List.mem_append.mpr (.inl List.mem_cons_self))
      obtain ⟨vs, hv⟩ := hf
      have hin : ∃ od, PySem.W.InstAt s.heap a oe (He.ga X.K C) od := by
        obtain ⟨oc, odd, oda, osl⟩ := oe
        obtain ⟨h1, h2⟩ := hz
        dsimp only at h1 h2 hv
        rw [hy] at h1
        subst h1 h2 hv
        have rx2 := rx.2
        cases hfs : y.fs with
        | none =>
          rw [hfs] at rx2
          have e : odd = none := rx2
          subst e
          exact ⟨none, hget, rfl, rfl, trivial⟩
        | some p =>
          obtain ⟨g, dv⟩ := p
          rw [hfs] at rx2
          obtain ⟨dd, vv, e1, _, e3, _⟩ := rx2
          subst e1
          have hx : ObjOk X.prog X.w H s.heap dd (.xd [(g, vv)]) := I.hok dd _ e3
          obtain ⟨mA, hns, _⟩ := hx
          obtain ⟨o, ho, _⟩ := lookIn_ns hns
          exact ⟨some o, hget, rfl, rfl, ho⟩
      obtain ⟨od, J⟩ := hin
      have Z := PySem.W.kitx_exc (K := X.K) (x := a) (ox := oe) (od := od) k.cl k.xf.ga k.xf.gg k.xf.exC k.ha k.hn k.ht k.hm
      unfold isxAns at ha
      cases he : ecOf c with
      | some e =>
        rw [he] at ha
        dsimp only at ha
        have cv := (clsV_of he rc).eq r2
        subst cv
        have k1 := kitD_ok hT ha
        rw [hy] at k1
        exact PySem.W.kia_one Z I.kIn J k1 (fun z => nomatch z) fun tk => ⟨.bl b, H, I.tok tk, rfl, q⟩
      | none =>
        rw [he] at ha
        dsimp only at ha
        cases c with
        | tup cs =>
          dsimp only at ha
          obtain ⟨es, e1, e2⟩ := Option.bind_eq_some_iff.mp ha
          simp only [Rep] at rc
          obtain ⟨tp, ws, rfl, ta, rws⟩ := rc
          cases (show u2 = Value.ref tp from r2)
          have pv := clsVs_of e1 rws
          have k1 := kitAnyD_ok hT e2
          rw [hy] at k1
          rcases ta with ⟨_, ta⟩ | ⟨o, its, n, e3, c1, d1, z1, v1⟩
          · obtain ⟨_, its, rv, o, h1, h2, n, h3⟩ := (show ObjOk X.prog X.w H s.heap tp (.tup ws) from I.hok tp _ ta)
            have e3 := ClsV.all pv rv
            subst e3
            obtain ⟨oc, odd, dt, sl⟩ := o
            simp only at h2 h3
            subst h2 h3
            exact PySem.W.kia_tup Z I.kIn J h1 k1 (fun z => nomatch z) fun tk => ⟨.bl b, H, I.tok tk, rfl, q⟩
          · have e4 := ClsV.all pv v1
            obtain ⟨oc, odd, dt, sl⟩ := o
            dsimp only at c1 d1
            subst c1 d1
            have h1 : s.heap.get? tp = some ⟨.type "tuple", odd, .seq its.toList.toArray n, sl⟩ := I.kIn _ _ e3
            exact PySem.W.kia_tup Z I.kIn J h1 (by rw [e4]; exact k1) (fun z => nomatch z) fun tk => ⟨.bl b, H, I.tok tk, rfl, q⟩
        | _ => cases ha

theorem de_isx {X : Cx} {Γ : Gam} {T : Tab} {cx : Str → Bool} {i : Nat} {a : Addr} {y : Ex} {oe : Obj} {cls : Value} {d : Option Addr} {pn : List (Addr × Obj)} {n : Str} {ce : Expr} {mc : ME} {p p1 pos : Pos} (hT : KitOk X.K T) (hcx : ∀ c, cx c = true → XcC X.K (He.ga X.K c))
    (hz : Zc cls d oe) (hf : ∃ vs, oe.data = .fields vs) (hc : DE (X.suite a ((a, oe) :: pn)) (Γ.su X.K i a y cls d) ce mc) (hm : X.mg "isinstance" = none) (hg : Gl X "isinstance" := by rfl) (hN : X.N[i]? = some n := by rfl)
    (hv : Vis X.env.scope n := by first | exact Or.inl rfl | exact Or.inr (Or.inl rfl) | exact Or.inr (Or.inr rfl)) (hd : (n == ("__debug__" : Str)) = false := by decide) (hcd : (n == ("__classdict__" : Str)) = false := by decide)
    (he : starEach [.Name n p1, ce] X.env = (false, eval (.Name n p1) X.env) :: starEach [ce] X.env := by rfl) (he2 : starEach [ce] X.env = (false, eval ce X.env) :: starEach [] X.env := by rfl) (hpl : (backTo pos (starEach [ce] X.env)).any (·.1) = false := by rfl) :
    DE (X.suite a ((a, oe) :: pn)) (Γ.su X.K i a y cls d) (.Call (.Name "isinstance" p) [.Name n p1, ce] [] pos) (isxE T cx y mc) := by
  by_cases hcl : cls = y.cls.val X.K
  case neg =>
    refine ⟨fun pins s σ H Q I h => ?_⟩
    obtain ⟨ρ, δ, S, w, h⟩ := h
    exact absurd w.j.2.1 hcl
  subst hcl
  refine pe_imp (pe_callB (X := X.suite a ((a, oe) :: pn)) (call_isx (Γ := Γ.su X.K i a y (y.cls.val X.K) d) (cx := cx) hT hcx hz hf) hg hm PyProof.Rows.boot_isinstance (pa_cons (pe_var (i := i) hN hv hd hcd) (pa_cons hc pa_nil he2) he) (by decide) (by decide) he hpl) ?_
  rintro σ H Q ⟨ρ, δ, S, w, h⟩
  refine ⟨.ref a, w.l.2, ρ, δ, S, w, PoE.imp ?_ (PoE.then h)⟩
  rintro v H1 ⟨ρ1, c, S1, x1, A1, r, h1⟩
  exact ⟨ρ1, σ, δ, S1, c, v, rfl, A1, r, (w.j.2).mono x1, h1⟩
end DL

/-! DL9: enumerate, zip. -/
namespace DL
open PySem PySem.Spec PyProof.Rows L2
/-! ### enumerate(x), one argument, x told by how its walk begins -/
def enO (h : Heap) : Obj := { cls := .type "enumerate", data := .fields #[.none, .bool false, .ref h.objs.size, rawInt 0, .none, .none] }
theorem enum_new {v : Value} {o : Obj} {G : Heap → Prop} (B : Begins v o G) :
    Meets (Builtin.«enumerate.__new__» ⟨[.type "enumerate", v], []⟩) (fun _ R s => G s.heap ∧ R (.ok (.ret (.ref (s.heap.push o).objs.size))) { s with heap := (s.heap.push o).push (enO s.heap) }) :=
  .of_wp fun prog w A R s gr => by
    obtain ⟨hp, gs, dr, tk, os⟩ := s
    obtain ⟨g, r⟩ := gr
    have hsub := sub_enumerate
    have bg : ∀ {A' : Around} {E : Value → Shared → Prop} {Q : Value → Shared → Prop}, Q (.ref hp.objs.size) ⟨hp.push o, gs, dr, tk, os⟩ → wpAny (model prog w) A' (pyIter v) Q E ⟨hp, gs, dr, tk, os⟩ := fun q => B.iter prog w _ _ ⟨hp, gs, dr, tk, os⟩ _ g q
    wp_walk using bg
    refine wpAny_stack_any fun st => wpAny_pure ?_
    split
    · rename_i c _ _ _ _ _
      cases (c == Value.type "enumerate") <;> (wp_walk using bg; exact ⟨_, rfl, r⟩)
    · wp_walk using bg
      exact ⟨_, rfl, r⟩
theorem enum_call {prog : Program} {w : World} {A : Around} {E : Value → Shared → Prop} {s : Shared} {v : Value} {o : Obj} {G : Heap → Prop} {Q : Value → Shared → Prop} (B : Begins v o G) (g : G s.heap)
    (h : ∀ h', IsEnum h' (s.heap.objs.size + 1) s.heap.objs.size 0 .none → h'.get? s.heap.objs.size = some o → h'.objs.size = s.heap.objs.size + 2 → (∀ b u, s.heap.get? b = some u → h'.get? b = some u) → Q (.ref (s.heap.objs.size + 1)) { s with heap := h' }) :
    wpAny (model prog w) A (call (.type "enumerate") [v]) Q E s := by
  refine callType_new F.called_enumerate (by decide) (F.typeCall_enumerate_1 _) (F.newCall_enumerate_1 _) (fun obj => F.args_object_init_2 obj _) F.entry_enumerate_new (enum_new B) ⟨g, ?_⟩
  have sz : (s.heap.push o).objs.size = s.heap.objs.size + 1 := Heap.size_push ..
  show _ ∧ _
  rw [sz]
  have en : IsEnum ((s.heap.push o).push (enO s.heap)) (s.heap.objs.size + 1) s.heap.objs.size 0 .none := by
    rw [← sz]
    exact Heap.get?_push_size (s.heap.push o) (o := enO s.heap) rfl
  exact ⟨⟨_, en, rfl⟩, h _ en (Heap.get?_push_of_some _ (Heap.get?_push_size _ B.free)) (by rw [Heap.size_push, sz]) fun b u x => Heap.get?_push_of_some _ (Heap.get?_push_of_some _ x)⟩
/-- the tuple at a, each item in a new pair -/
def IteT (K : PySem.W.Frag) (a : Addr) : It :=
  ⟨fun i H => ∃ (xs : List V) (x : V), SqT K H a xs ∧ xs[i]? = some x, fun i H v H' => ∃ T x, v = .ref T ∧ H T = none ∧ H' = upd H T (.tup [.int (i : Nat), x]) ∧ ∀ xs, SqT K H a xs → xs[i]? = some x, fun i H => ∃ xs : List V, SqT K H a xs ∧ xs.length = i⟩
theorem turn_enT {P : Program} {w : World} {K : PySem.W.Frag} {elts : List Expr} {kk : Nat} {tpos : Pos} (a e it : Addr) :
    Turn P w K (.Tuple elts kk tpos) (IteT K a) [e, it] e (fun i h => (∃ old, IsEnum h e it ((i : Nat) : Int) old) ∧ h.IsTupleIter it a i ∧ e ≠ it ∧ a ≠ it ∧ a ≠ e) where
  mem := by simp
  obj := fun i h st b hb => by
    obtain ⟨⟨old, he⟩, ⟨o, ho, hc, hd⟩, _⟩ := st
    rcases (show b = e ∨ b = it by simpa using hb) with z | z
    · exact ⟨_, by rw [z]; exact he, fun v q => by cases q⟩
    · exact ⟨o, by rw [z]; exact ho, fun v q => by rw [hd] at q; cases q⟩
  keep := fun i h h' st k => by
    obtain ⟨⟨old, he⟩, hi, n⟩ := st
    exact ⟨⟨old, k e (by simp) _ he⟩, hi.at fun o q => k it (by simp) o q, n⟩
  item := by
    intro X hP hw hK hc i pins s σ H E I hf st go
    subst hP hw hK
    obtain ⟨⟨old, he⟩, hit, n1, n2, n3⟩ := st
    obtain ⟨xs, x, hq, hx⟩ := go
    obtain ⟨its, rv, p, hz⟩ := I.tuple hq
    obtain ⟨u, hu, ru⟩ := rv.get hx
    have lte : e < s.heap.objs.size := Heap.lt_size he
    have lti : it < s.heap.objs.size := by obtain ⟨_, q, _⟩ := hit; exact Heap.lt_size q
    have hi : i < its.toArray.size := by simpa using (List.getElem?_eq_some_iff.mp hu).1
    have DD := Draws.tuple (prog := X.prog) (w := X.w) (A := X.A.in1) (I.ok.hd hc) it a n2 its.toArray
    refine wpAny_pyNext_enum_itemD DD he ⟨hit, p⟩ hi n1 (by simp [n1, Ne.symm n3]) fun y h' tk hy out st' hT hsz hk => ?_
    have hy' : its[i]? = some y := by simpa using hy
    rw [hu] at hy'
    cases hy'
    refine ⟨_, rfl, wpAny_letOwnedTupleGo_enum (s := { s with heap := h', toks := tk + 1 }) out fun h2 he2 sb => ?_⟩
    have T2 : h2.get? s.heap.objs.size = some { cls := .type "tuple", data := .seq #[.int i tk, u] } := (sb.2 _ (Nat.ne_of_gt lte)).trans hT
    have new : ObjOk X.prog X.w (upd H s.heap.objs.size (.tup [.int (i : Nat), x])) h2 s.heap.objs.size (.tup [.int (i : Nat), x]) := ⟨by show 2 ≤ sizeLine; decide, [.int i tk, u], .cons ⟨_, rfl⟩ (.cons ru .nil), ⟨_, T2, rfl, _, rfl⟩⟩
    have J : Inv X pins σ (upd H s.heap.objs.size (.tup [.int (i : Nat), x])) { s with heap := h2, toks := tk + 1 } :=
      I.turnedNew (ch := [e, it]) (fun b o hb q => by
        have b1 : b ≠ e := fun z => hb (by simp [z])
        have b2 : b ≠ it := fun z => hb (by simp [z])
        exact (sb.2 b b1).trans (hk b o b1 b2 q)) hf (Nat.le_refl _) new
    refine ⟨.ref s.heap.objs.size, _, J, rfl, ⟨_, x, rfl, I.hok.fresh (Nat.le_refl _), rfl, fun ys hy => by rw [I.tuple_inj hy hq]; exact hx⟩, ⟨⟨u, ?_⟩, st'.1.at fun o q => (sb.2 it (Ne.symm n1)).trans q, n1, n2, n3⟩, fun b hb => ?_⟩
    · rw [show ((i + 1 : Nat) : Int) = (i : Int) + 1 by omega]
      exact he2
    · have lb : b < s.heap.objs.size := by
        rcases (show b = e ∨ b = it by simpa using hb) with z | z
        · rw [z]; exact lte
        · rw [z]; exact lti
      rw [upd_ne (Nat.ne_of_lt lb)]
      exact (hf b hb).1
  done := by
    intro X hP hw hK hc i pins s σ H E I hf st stop
    subst hP hw hK
    obtain ⟨⟨old, he⟩, hit, n1, n2, n3⟩ := st
    obtain ⟨xs, hq, hx⟩ := stop
    obtain ⟨its, rv, p, hz⟩ := I.tuple hq
    obtain ⟨f0, f1, f2, f3, f4, f5⟩ := hf it (by simp)
    have hl := rv.length
    have DD := Draws.tuple (prog := X.prog) (w := X.w) (A := X.A.in1) (I.ok.hd hc) it a n2 its.toArray
    have ez : i = its.toArray.size := by simp; omega
    exact wpAny_pyNext_enum_endD DD he (by rw [← ez]; exact ⟨hit, p⟩) fun h' eb => ⟨rfl, I.turned (t' := s.toks) (fun b o hb q => eb b o hb q) f0 f1 f3 f4 f5⟩
  self := fun A i s Q E st h => by
    obtain ⟨⟨_, he⟩, _⟩ := st
    exact wpAny_pyIter_enum he h
def iEnA (K : PySem.W.Frag) (ta : TA) : TI := fun σ H R => ta σ H fun vs H1 => ∃ a xs, vs = [.ref a] ∧ ((SqL K H1 a xs ∧ R (Ite K a) H1) ∨ (SqT K H1 a xs ∧ R (IteT K a) H1))
theorem pi_enA {X : Cx} {e : Expr} {ta : TA} {p pos tpos : Pos} {elts : List Expr} {kk : Nat} (hg : Gl X "enumerate") (hm : X.mg "enumerate" = none) (ha : PA X [e] ta) (hs : starEach [e] X.env = [(false, eval e X.env)] := by rfl) :
    PI X (.Tuple elts kk tpos) (.Call (.Name "enumerate" p) [e] [] pos) (iEnA X.K ta) := by
  refine ⟨fun pins s σ H R I h => ?_⟩
  refine Call_ (ld_blt I hg hm boot_enumerate (PyProof.Rows.callWith_type1 (thn (ha.run pos pins s σ H _ I h) fun us s1 ⟨vs, H1, I1, r1, q1⟩ => ?_) hs rfl))
  obtain ⟨a, xs, ex, q⟩ := q1
  subst ex
  cases r1 with
  | cons r rr =>
    cases rr
    cases r
    have fp : ∀ b ∈ [s1.heap.objs.size + 1, s1.heap.objs.size], FpOk X pins H1 b := fun b hb => by
      have hle : s1.heap.objs.size ≤ b := by
        rcases (show b = s1.heap.objs.size + 1 ∨ b = s1.heap.objs.size by simpa using hb) with z | z <;> omega
      exact I1.fpOk hle (I1.hok.fresh hle)
    rcases q with ⟨hq, q⟩ | ⟨hq, q⟩
    · obtain ⟨its, rv, pl, hz⟩ := I1.list hq
      refine enum_call (begins_list a its.toArray) pl.isList fun h' he hit hsz hk => wpAny_pyIter_enum he ?_
      have I2 : Inv X pins σ H1 { s1 with heap := h' } := I1.kept (t' := s1.toks) hk
      exact ⟨_, _, _, _, H1, rfl, I2, turn_enum a (s1.heap.objs.size + 1) s1.heap.objs.size, ⟨⟨.none, he⟩, ⟨_, hit, rfl, rfl⟩, Nat.succ_ne_self _⟩, fp, q⟩
    · obtain ⟨its, rv, pl, hz⟩ := I1.tuple hq
      have la : a < s1.heap.objs.size := by obtain ⟨_, q, _⟩ := id pl; exact Heap.lt_size q
      refine enum_call (begins_tuple a its.toArray) pl fun h' he hit hsz hk => wpAny_pyIter_enum he ?_
      have I2 : Inv X pins σ H1 { s1 with heap := h' } := I1.kept (t' := s1.toks) hk
      exact ⟨_, _, _, _, H1, rfl, I2, turn_enT a (s1.heap.objs.size + 1) s1.heap.objs.size, ⟨⟨.none, he⟩, ⟨_, hit, rfl, rfl⟩, Nat.succ_ne_self _, Nat.ne_of_lt la, Nat.ne_of_lt (Nat.lt_succ_of_lt la)⟩, fp, q⟩
end DL

namespace DL
open PySem PySem.Spec PyProof.Rows L2
def pairs : Nat → List D → List D
  | _, [] => []
  | i, d :: ds => .tup [.int i, d] :: pairs (i + 1) ds
theorem pairs_get : ∀ (ds : List D) (k i : Nat), (pairs k ds)[i]? = (ds[i]?).map fun d => .tup [.int ((k + i : Nat) : Int), d]
  | [], k, i => by simp [pairs]
  | d :: ds, k, 0 => by simp [pairs]
  | d :: ds, k, i + 1 => by
    rw [pairs, List.getElem?_cons_succ, List.getElem?_cons_succ, pairs_get ds (k + 1) i, show k + 1 + i = k + (i + 1) by omega]
theorem pairs_length : ∀ (ds : List D) (k : Nat), (pairs k ds).length = ds.length
  | [], k => rfl
  | d :: ds, k => by rw [pairs, List.length_cons, List.length_cons, pairs_length]
/-- a list or tuple walked with its places -/
def seqI (d : D) (S : Sto) : Option (ItD × Bool) := match d with
  | .tup ds => some (⟨ds, fun _ => True⟩, true)
  | .lst ds => some (⟨ds, fun _ => True⟩, false)
  | .scr ns => some (⟨ns.map D.int, fun _ => True⟩, false)
  | .ref n => match lstOf S (.ref n) with
    | some ds => some (⟨ds, fun S => S[n]? = some (.lst ds)⟩, false)
    | none => none
  | _ => none
/-- a list whose items these are, each time -/
def SeqRep (K : PySem.W.Frag) (ρ : Pl) (H : Hp) (I : ItD) (t : Bool) (a : Addr) : Prop := ∀ ρ' H' S, Wk ρ H ρ' H' → Abs K ρ' S H' → I.ok S → ∃ vs, (if t = true then SqT K H' a vs else SqL K H' a vs) ∧ Reps K ρ' H' I.ds vs
theorem seq_at {K : PySem.W.Frag} {ρ : Pl} {H : Hp} {S : Sto} {d : D} {v : V} {I : ItD} {t : Bool} (A : Abs K ρ S H) (r : Rep K ρ H d v) (h : seqI d S = some (I, t)) : I.ok S ∧ ∃ a, v = .ref a ∧ SeqRep K ρ H I t a := by
  cases d with
  | tup ds =>
    simp only [seqI] at h; cases h
    simp only [Rep] at r
    obtain ⟨a, vs, rfl, ta, rr⟩ := r
    exact ⟨trivial, a, rfl, fun ρ' H' S w A _ => ⟨vs, (ta.mono w).sq, rr.wk w⟩⟩
  | lst ds =>
    simp only [seqI] at h; cases h
    simp only [Rep] at r
    obtain ⟨a, vs, rfl, ta, rr⟩ := r
    exact ⟨trivial, a, rfl, fun ρ' H' S w A _ => ⟨vs, SqL.of (ta.mono w).2, rr.wk w⟩⟩
  | scr ns =>
    simp only [seqI] at h; cases h
    simp only [Rep] at r
    obtain ⟨a, rfl, ta⟩ := r
    exact ⟨trivial, a, rfl, fun ρ' H' S w A _ => ⟨_, (ta.mono w).sq, Reps.of_ints⟩⟩
  | ref n =>
    simp only [Rep] at r
    obtain ⟨a, rfl, ea⟩ := r
    simp only [seqI] at h
    cases hl : lstOf S (.ref n) with
    | none => rw [hl] at h; cases h
    | some ds =>
      rw [hl] at h; cases h
      refine ⟨ref_lst hl, a, rfl, fun ρ' H' S w A o => ?_⟩
      obtain ⟨vs, q, rr⟩ := lst_at A (pre_get w.pre ea) o
      exact ⟨vs, SqL.of q, rr⟩
  | _ => simp only [seqI] at h; cases h
def enI (m : MA) : MI := fun δ S => (m δ S).bind fun ds S1 => match ds with
  | [d] => match seqI d S1 with
    | some (I, _) => .ok ⟨pairs 0 I.ds, I.ok⟩ S1
    | none => .bad
  | _ => .bad
theorem new_pair {K : PySem.W.Frag} {ρ : Pl} {H : Hp} {S : Sto} {T : Addr} {x y : V} {d e : D} (A : Abs K ρ S H) (hT : H T = none) (r1 : Rep K ρ H d x) (r2 : Rep K ρ H e y) :
    Ext ρ H ρ (upd H T (.tup [x, y])) ∧ Abs K ρ S (upd H T (.tup [x, y])) ∧ Rep K ρ (upd H T (.tup [x, y])) (.tup [d, e]) (.ref T) := by
  refine ⟨Ext.put hT, A.put hT, ?_⟩
  simp only [Rep, Reps]
  exact ⟨T, [x, y], rfl, .inl ⟨A.fresh hT, upd_same⟩, x, [y], rfl, r1.mono (Ext.put hT), y, [], rfl, r2.mono (Ext.put hT), rfl⟩
theorem ite_rep {K : PySem.W.Frag} {ρ : Pl} {H : Hp} {I : ItD} {a : Addr} (s : SeqRep K ρ H I false a) : ItRep K ρ H ⟨pairs 0 I.ds, I.ok⟩ (Ite K a) := by
  intro ρ' H' S w A o i
  obtain ⟨vs, q, rr⟩ := s ρ' H' S w A o
  rw [if_neg Bool.false_ne_true] at q
  refine ⟨fun d e => ?_, fun e => ⟨vs, q, by rw [rr.length, e, pairs_length]; exact Nat.le_refl _⟩⟩
  have e' : (pairs 0 I.ds)[i]? = some d := e
  rw [pairs_get] at e'
  obtain ⟨d0, e0, rfl⟩ := Option.map_eq_some_iff.mp e'
  obtain ⟨v, ev, rv⟩ := rr.get e0
  refine ⟨⟨vs, v, q, ev⟩, fun x H2 y => ?_⟩
  obtain ⟨T, x', rfl, hT, rfl, k⟩ := y
  have := k vs q
  rw [ev] at this; cases this
  rw [show ((0 + i : Nat) : Int) = (i : Nat) by omega]
  exact new_pair A hT (by simp only [Rep]) rv
theorem iteT_rep {K : PySem.W.Frag} {ρ : Pl} {H : Hp} {I : ItD} {a : Addr} (s : SeqRep K ρ H I true a) : ItRep K ρ H ⟨pairs 0 I.ds, I.ok⟩ (IteT K a) := by
  intro ρ' H' S w A o i
  obtain ⟨vs, q, rr⟩ := s ρ' H' S w A o
  rw [if_pos rfl] at q
  refine ⟨fun d e => ?_, fun e => ⟨vs, q, by rw [rr.length, e, pairs_length]⟩⟩
  have e' : (pairs 0 I.ds)[i]? = some d := e
  rw [pairs_get] at e'
  obtain ⟨d0, e0, rfl⟩ := Option.map_eq_some_iff.mp e'
  obtain ⟨v, ev, rv⟩ := rr.get e0
  refine ⟨⟨vs, v, q, ev⟩, fun x H2 y => ?_⟩
  obtain ⟨T, x', rfl, hT, rfl, k⟩ := y
  have := k vs q
  rw [ev] at this; cases this
  rw [show ((0 + i : Nat) : Int) = (i : Nat) by omega]
  exact new_pair A hT (by simp only [Rep]) rv
section
variable {X : Cx} {Γ : Gam}
theorem di_enum {e : Expr} {m : MA} {p pos tpos : Pos} {elts : List Expr} {kk : Nat} (ha : DA X Γ [e] m) (hm : X.mg "enumerate" = none) (hg : Gl X "enumerate" := by rfl) (hs : starEach [e] X.env = [(false, eval e X.env)] := by rfl) :
    DI X Γ (.Tuple elts kk tpos) (.Call (.Name "enumerate" p) [e] [] pos) (enI m) := by
  refine pi_imp (pi_enA hg hm ha hs) ?_
  rintro σ H R ⟨ρ, δ, S, w, h⟩
  refine ⟨ρ, δ, S, w, (PoE.then h).imp ?_⟩
  rintro vs H1 ⟨ρ1, ds, S1, x1, A1, r, h⟩
  split at h
  case h_2 => exact h.elim
  rename_i d
  obtain ⟨v, rfl, rv⟩ := one_of r
  split at h
  case h_2 => exact h.elim
  rename_i I t hI
  obtain ⟨o, a, rfl, s⟩ := seq_at A1 rv hI
  obtain ⟨vs, q, _⟩ := s ρ1 H1 S1 (Wk.refl _ _) A1 o
  cases t with
  | true => exact ⟨a, vs, rfl, .inr ⟨q, h _ _ _ (Ext.refl _ _) A1 (iteT_rep s)⟩⟩
  | false => exact ⟨a, vs, rfl, .inl ⟨q, h _ _ _ (Ext.refl _ _) A1 (ite_rep s)⟩⟩
def zpI (m : MA) : MI := fun δ S => (m δ S).bind fun ds S1 => match ds with
  | [d, e] => match seqI d S1, seqI e S1 with
    | some (I, t), some (J, u) => if t = u then .ok ⟨(I.ds.zip J.ds).map fun p => .tup [p.1, p.2], fun S => I.ok S ∧ J.ok S⟩ S1 else .bad
    | _, _ => .bad
  | _ => .bad
theorem zip_at {α β : Type} {xs : List α} {ys : List β} {i : Nat} {p : α × β} (h : (xs.zip ys)[i]? = some p) : xs[i]? = some p.1 ∧ ys[i]? = some p.2 := by
  rw [List.getElem?_zip_eq_some] at h
  exact h
theorem itz_rep {K : PySem.W.Frag} {ρ : Pl} {H : Hp} {I J : ItD} {a b : Addr} (s1 : SeqRep K ρ H I false a) (s2 : SeqRep K ρ H J false b) : ItRep K ρ H ⟨(I.ds.zip J.ds).map fun p => .tup [p.1, p.2], fun S => I.ok S ∧ J.ok S⟩ (Itz K a b) := by
  intro ρ' H' S w A o i
  obtain ⟨vs, q, rr⟩ := s1 ρ' H' S w A o.1
  obtain ⟨us, q2, rr2⟩ := s2 ρ' H' S w A o.2
  rw [if_neg Bool.false_ne_true] at q q2
  refine ⟨fun d e => ?_, fun e => ⟨vs, us, q, q2, ?_⟩⟩
  · have e' : ((I.ds.zip J.ds).map fun p => D.tup [p.1, p.2])[i]? = some d := e
    rw [List.getElem?_map] at e'
    obtain ⟨p, e0, rfl⟩ := Option.map_eq_some_iff.mp e'
    obtain ⟨e1, e2⟩ := zip_at e0
    obtain ⟨v, ev, rv⟩ := rr.get e1
    obtain ⟨u, eu, ru⟩ := rr2.get e2
    refine ⟨⟨vs, us, v, u, q, q2, ev, eu⟩, fun x H2 y => ?_⟩
    obtain ⟨T, x', y', rfl, hT, rfl, k1, k2⟩ := y
    have h1 := k1 vs q
    have h2 := k2 us q2
    rw [ev] at h1; cases h1
    rw [eu] at h2; cases h2
    exact new_pair A hT rv ru
  · have e' : i = ((I.ds.zip J.ds).map fun p => D.tup [p.1, p.2]).length := e
    rw [List.length_map, List.length_zip] at e'
    rw [rr.length, rr2.length]
    omega
theorem itzT_rep {K : PySem.W.Frag} {ρ : Pl} {H : Hp} {I J : ItD} {a b : Addr} (s1 : SeqRep K ρ H I true a) (s2 : SeqRep K ρ H J true b) : ItRep K ρ H ⟨(I.ds.zip J.ds).map fun p => .tup [p.1, p.2], fun S => I.ok S ∧ J.ok S⟩ (RZ.ItzT K a b) := by
  intro ρ' H' S w A o i
  obtain ⟨vs, q, rr⟩ := s1 ρ' H' S w A o.1
  obtain ⟨us, q2, rr2⟩ := s2 ρ' H' S w A o.2
  rw [if_pos rfl] at q q2
  refine ⟨fun d e => ?_, fun e => ⟨vs, us, q, q2, ?_⟩⟩
  · have e' : ((I.ds.zip J.ds).map fun p => D.tup [p.1, p.2])[i]? = some d := e
    rw [List.getElem?_map] at e'
    obtain ⟨p, e0, rfl⟩ := Option.map_eq_some_iff.mp e'
    obtain ⟨e1, e2⟩ := zip_at e0
    obtain ⟨v, ev, rv⟩ := rr.get e1
    obtain ⟨u, eu, ru⟩ := rr2.get e2
    refine ⟨⟨vs, us, v, u, q, q2, ev, eu⟩, fun x H2 y => ?_⟩
    obtain ⟨T, x', y', rfl, hT, rfl, k1, k2⟩ := y
    have h1 := k1 vs q
    have h2 := k2 us q2
    rw [ev] at h1; cases h1
    rw [eu] at h2; cases h2
    exact new_pair A hT rv ru
  · have e' : i = ((I.ds.zip J.ds).map fun p => D.tup [p.1, p.2]).length := e
    rw [List.length_map, List.length_zip] at e'
    rw [rr.length, rr2.length]
    omega
theorem di_zip {e f : Expr} {m : MA} {p pos tpos : Pos} {elts : List Expr} {kk : Nat} (ha : DA X Γ [e, f] m) (hm : X.mg "zip" = none) (hg : Gl X "zip" := by rfl) (hs : starEach [e, f] X.env = (false, eval e X.env) :: starEach [f] X.env := by rfl) (hpl : (backTo pos (starEach [f] X.env)).any (·.1) = false := by rfl) :
    DI X Γ (.Tuple elts kk tpos) (.Call (.Name "zip" p) [e, f] [] pos) (zpI m) := by
  refine pi_imp (RZ.pi_zipA hg hm ha hs hpl) ?_
  rintro σ H R ⟨ρ, δ, S, w, h⟩
  refine ⟨ρ, δ, S, w, (PoE.then h).imp ?_⟩
  rintro vs H1 ⟨ρ1, ds, S1, x1, A1, r, h⟩
  split at h
  case h_2 => exact h.elim
  rename_i d g
  simp only [Reps] at r
  obtain ⟨v, ws, rfl, rv, v2, w2, rfl, rv2, rfl⟩ := r
  split at h
  case h_2 => exact h.elim
  rename_i I t J u hI hJ
  split at h
  case isFalse => exact h.elim
  rename_i htu
  subst htu
  obtain ⟨o, a, rfl, s⟩ := seq_at A1 rv hI
  obtain ⟨o2, b, rfl, s2⟩ := seq_at A1 rv2 hJ
  obtain ⟨vs, q, _⟩ := s ρ1 H1 S1 (Wk.refl _ _) A1 o
  obtain ⟨us, q2, _⟩ := s2 ρ1 H1 S1 (Wk.refl _ _) A1 o2
  cases t with
  | true => exact ⟨a, b, vs, us, rfl, .inr ⟨q, q2, h _ _ _ (Ext.refl _ _) A1 (itzT_rep s s2)⟩⟩
  | false => exact ⟨a, b, vs, us, rfl, .inl ⟨q, q2, h _ _ _ (Ext.refl _ _) A1 (itz_rep s s2)⟩⟩
end
end DL

/-! DL10: the head's facts, the law's end. -/
namespace DL
open PySem PySem.Spec PyProof.Rows L2
/-! ### what a head tells beside the facts by names -/
def sysB (K : PySem.W.Frag) : Bool := match K.lookup sysModules with
  | some o => decide (o.cls = .type "dict")
  | none => false
theorem sysB_ok {K : PySem.W.Frag} (h : sysB K = true) : SysK K := by
  unfold sysB at h
  split at h
  · rename_i o e
    exact ⟨o, e, of_decide_eq_true h⟩
  · cases h
def oexB (K : PySem.W.Frag) (C : Addr) : Bool := (match K.lookup C with
  | some ⟨.type "type", _, .cls cd, sl⟩ => (match cd.mro, sl.toList with
    | .ref D :: bm, [_, _, _, _, some (.builtin n), _] => decide (D = C) && (decide (n = "ValueError.__new__") && (!cd.hasDel && (cd.hasDict && PySem.HandSPX.refsVE bm)))
    | _, _ => false)
  | _ => false) && (decide (PySem.W.findIn K (.ref C) "__setattr__" = some (some (.builtin "object.__setattr__"))) && (decide (PySem.W.subIn K (.ref C) (.type "BaseException") = some true) && (decide (PySem.W.typeIn K (.ref C) = some (.type "type")) && PySem.W.keepIn K (.ref C))))
theorem oexB_ok {K : PySem.W.Frag} {C : Addr} (h : oexB K C = true) : OexC K C := by
  unfold oexB at h
  obtain ⟨h1, h⟩ := He.ba h
  obtain ⟨h2, h⟩ := He.ba h
  obtain ⟨h3, h⟩ := He.ba h
  obtain ⟨h4, h5⟩ := He.ba h
  refine ⟨?_, of_decide_eq_true h2, of_decide_eq_true h3, of_decide_eq_true h4, h5⟩
  split at h1
  · rename_i dd cd sl e
    split at h1
    · rename_i D bm k0 k1 k2 k3 n k5 em es
      obtain ⟨a1, h1⟩ := He.ba h1
      obtain ⟨a2, h1⟩ := He.ba h1
      obtain ⟨a3, h1⟩ := He.ba h1
      obtain ⟨a4, a5⟩ := He.ba h1
      have e1 := of_decide_eq_true a1
      have e2 := of_decide_eq_true a2
      subst e1 e2
      obtain ⟨c1, c2, c3, c4, c5, c6, c7, c8, c9, c10, c11⟩ := cd
      dsimp only at em a3 a4
      subst em
      have a3' : c11 = false := by simpa using a3
      have a4' : c6 = true := by simpa using a4
      subst a3' a4'
      have z : sl = #[k0, k1, k2, k3, some (.builtin "ValueError.__new__"), k5] := by
        cases sl with
        | mk l => exact congrArg Array.mk es
      subst z
      exact ⟨_, _, _, _, _, _, _, _, _, _, _, _, _, _, _, e, a5⟩
    · cases h1
  · cases h1
def xcB (K : PySem.W.Frag) (C : Addr) : Bool := xfB K C && ((PySem.W.clsIn K C).isSome && (decide (PySem.W.findIn K (.ref C) "__class__" = some (some (.builtin "object.__class__"))) && (decide (PySem.W.specialIn K (.builtin "object.__class__") "__get__" = some (some (.builtin "getset_descriptor.__get__"))) &&
  (decide (PySem.W.takesIn K (.builtin "object.__class__") = some true) && decide (PySem.W.mroIn K C (.type "object") = some true)))))
theorem xcB_ok {K : PySem.W.Frag} {C : Addr} (h : xcB K C = true) : XcC K C := by
  unfold xcB at h
  obtain ⟨h1, h⟩ := He.ba h
  obtain ⟨h2, h⟩ := He.ba h
  obtain ⟨h3, h⟩ := He.ba h
  obtain ⟨h4, h⟩ := He.ba h
  obtain ⟨h5, h6⟩ := He.ba h
  exact ⟨xfB_ok h1, h2, of_decide_eq_true h3, of_decide_eq_true h4, of_decide_eq_true h5, of_decide_eq_true h6⟩
/-- an own exception class with its one field: made, asked -/
def mkfB (K : PySem.W.Frag) (p : Str × Str) : Bool := oexB K (He.ga K p.1) && (xcB K (He.ga K p.1) && (decide (PySem.W.findIn K (.ref (He.ga K p.1)) p.2 = some none) && (decide (PySem.W.findIn K (.ref (He.ga K p.1)) "__init__" = some (some (.ref (He.fAd K (p.1, some "__init__"))))) && decide (PySem.W.typeIn K (.ref (He.fAd K (p.1, some "__init__"))) = some (.type "function")))))
structure MkF (K : PySem.W.Frag) (c f : Str) : Prop where
  ox : OexC K (He.ga K c)
  xc : XcC K (He.ga K c)
  no : PySem.W.findIn K (.ref (He.ga K c)) f = some none
  ini : PySem.W.findIn K (.ref (He.ga K c)) "__init__" = some (some (.ref (He.fAd K (c, some "__init__"))))
  ty : PySem.W.typeIn K (.ref (He.fAd K (c, some "__init__"))) = some (.type "function")
theorem mkfB_ok {K : PySem.W.Frag} {c f : Str} (h : mkfB K (c, f) = true) : MkF K c f := by
  unfold mkfB at h
  obtain ⟨h1, h⟩ := He.ba h
  obtain ⟨h2, h⟩ := He.ba h
  obtain ⟨h3, h⟩ := He.ba h
  obtain ⟨h4, h5⟩ := He.ba h
  exact ⟨oexB_ok h1, xcB_ok h2, of_decide_eq_true h3, of_decide_eq_true h4, of_decide_eq_true h5⟩
/-! ### the hook -/
def frL (n : Nat) (g : Addr → Option Obj) : PySem.W.Frag := He.frG g (sysModules :: He.asD g n)
def SaysL (fa : List He.Fa) (fn : List He.DefD) (ex : PySem.W.Frag → Bool) (K : PySem.W.Frag) : Prop := He.SaysD fa fn K ∧ ex K = true
def obsL (n : Nat) (fa : List He.Fa) (fn : List He.DefD) (ex : PySem.W.Frag → Bool) (g : Addr → Option Obj) : He.AlD := ((He.obsD fa fn (frL n g)).1 && ex (frL n g), (He.obsD fa fn (frL n g)).2)
theorem saysL_of {n : Nat} {fa : List He.Fa} {fn : List He.DefD} {ex : PySem.W.Frag → Bool} {g : Addr → Option Obj} (e : obsL n fa fn ex g = He.valD fn) : SaysL fa fn ex (frL n g) := by
  have e1 : ((He.obsD fa fn (frL n g)).1 && ex (frL n g)) = true := congrArg (fun z : He.AlD => z.1) (show obsL n fa fn ex g = He.valD fn from e)
  have e2 : (obsL n fa fn ex g).2 = (He.valD fn).2 := by rw [e]
  obtain ⟨a, b⟩ := He.ba e1
  exact ⟨Prod.ext a e2, b⟩
def hookL (n : Nat) (fa : List He.Fa) (fn : List He.DefD) (ex : PySem.W.Frag → Bool) : PySem.W.Hook where
  α := He.AlD
  obs := fun s => obsL n fa fn ex s.heap.get?
  val := fun _ => He.valD fn
  says := fun _ h => ∃ K : PySem.W.Frag, K.In h ∧ SaysL fa fn ex K
  of := fun _ _ e => ⟨_, He.frG_in, saysL_of e⟩
  keeps := fun _ _ _ ⟨K, hK, c⟩ k => ⟨K, PySem.W.Frag.In.keeps hK k, c⟩
theorem obsL_eq {n : Nat} {fa : List He.Fa} {fn : List He.DefD} {ex : PySem.W.Frag → Bool} {g : Addr → Option Obj} {s : Shared} (h : ∀ a, g a = s.heap.get? a) : obsL n fa fn ex g = (hookL n fa fn ex).obs s := by
  have e : g = s.heap.get? := funext h
  rw [e]
  rfl
/-- the facts, with a heap that has them -/
structure Top (fa : List He.Fa) (fn : List He.DefD) (ex : PySem.W.Frag → Bool) (K : PySem.W.Frag) (mg : Str → Option Value) : Prop where
  says : SaysL fa fn ex K
  heap : ∃ h : Heap, K.In h ∧ h.Ns mainGlobals mg
section
variable {fa : List He.Fa} {fn : List He.DefD} {ex : PySem.W.Frag → Bool} {K : PySem.W.Frag} {mg : Str → Option Value}
theorem Top.glo (t : Top fa fn ex K mg) (x : Str) (i : Nat) (h : fa[i]? = some (.glo x) := by rfl) : mg x = some (.ref (He.ga K x)) := by
  obtain ⟨s, hp, kin, ns⟩ := t
  exact He.glo_ok kin ns (s.1.fact i h)
theorem Top.free (t : Top fa fn ex K mg) (x : Str) (i : Nat) (h : fa[i]? = some (.free x) := by rfl) : mg x = none := by
  obtain ⟨s, hp, kin, ns⟩ := t
  exact He.free_ok kin ns (s.1.fact i h)
theorem Top.int (t : Top fa fn ex K mg) (x : Str) (z : Int) (i : Nat) (h : fa[i]? = some (.int x z) := by rfl) : GVal K mg x (.int z) := by
  obtain ⟨s, hp, kin, ns⟩ := t
  exact gval_int (He.int_ok kin ns (s.1.fact i h))
theorem Top.str (t : Top fa fn ex K mg) (x z : Str) (i : Nat) (h : fa[i]? = some (.str x z) := by rfl) : GVal K mg x (.str z) := by
  obtain ⟨s, hp, kin, ns⟩ := t
  exact gval_str (He.str_ok kin ns (s.1.fact i h))
theorem Top.gl (t : Top fa fn ex K mg) (x : Str) (i : Nat) (h : fa[i]? = some (.glo x) := by rfl) : GVal K mg x (.glo x) := gval_glo (t.glo x i h)
theorem Top.defn (t : Top fa fn ex K mg) (i : Nat) {d : He.DefD} (h : fn[i]? = some d := by rfl) : ∃ fd, FunD K d.name d.qual d.params d.body d.scope (d.dvs K) (d.kws K) (He.fAd K d.at_) fd := t.says.1.def_ i h
theorem Top.extra (t : Top fa fn ex K mg) : ex K = true := t.says.2
end
/-- a def, read as a mirror -/
theorem fnM_mk {P : Program} {w : World} {K : PySem.W.Frag} {mg : Str → Option Value} {base : Heap} {x qual : Str} {params : Arguments} {body : List Stmt} {scope : Scope} {f : Addr} {N ps : List Str} {k n : Nat} {mb : MS} (h : ∃ fd, FunD K x qual params body scope [] [] f fd) (S : FnScope N ps scope)
    (hn : ps.length = n) (hbn : ∀ (kV doc pm : Value) (an : Option Addr) (cdv ct : Value) (us : List Value), us.length = ps.length → bindArgs (PySem.W.fnOf x qual params body scope .none kV doc pm an cdv ct) ⟨us, []⟩ = pure (ps.zip us))
    (hbody : ∀ (cdv : Value) (A : Around) (outer : List Env) (s : Shared) (H : Hp) (E : XK), Room k (A.deeper (envOfC qual scope s.heap.objs.size f cdv)) → A.guards = some [] → DSs (cxOf (L2.CX P w) P w K mg base N qual scope f cdv A outer s H E) (gam E) body mb) :
    FnM P w K mg base (k + 1) f n [] (fnB N.length mb) := by
  obtain ⟨fd, F⟩ := h
  exact ⟨⟨fd, ps, [], [], by simpa using fnG_mk F S hn hbody, F.bindsN hbn, .nil, fun ρ H => by simp only [Reps]⟩, F.kp⟩
/-- where a def's body runs -/
structure Body (X : Cx) (Γ : Gam) (k : Nat) : Prop where
  room : Room k X.A
  gd : X.A.guards = some []
  tk : Takes X Γ.W
  ps : PassesOwn (model X.prog X.w) X.A X.env X.xe
end DL

namespace DL
open PySem PySem.Spec PyProof.Rows L2
theorem u16 {k : Nat} {A : Around} (r : Room k A) : A.units + 16 < cLine := by have := r.un; omega
theorem u32 {k : Nat} {A : Around} (r : Room k A) : A.units + 32 < cLine := by have := r.un; omega
theorem u65 {k : Nat} {A : Around} (r : Room k A) : A.units + 65 < cLine := by have := r.un; omega
/-- {} -/
theorem de_emp {X : Cx} {Γ : Gam} {pos : Pos} : DE X Γ (.Dict [] [] pos) (conE .emp) := by
  refine pe_imp pe_dnewK ?_
  rintro σ H Q ⟨ρ, δ, S, w, h⟩ p hp
  refine h ρ _ _ (Ext.put hp) (w.abs.put hp) ?_
  simp only [Rep]
  exact ⟨p, rfl, w.abs.fresh hp, upd_same⟩
end DL

namespace DL
open PySem PySem.Spec PyProof.Rows L2
theorem blk_fr {Γ : Gam} {vs : List Nat} {σ : L2.St} {i : Nat} (h : vs.contains i = true) : (Γ.blk vs σ).fr i := by
  show i ∈ vs
  simpa using h
/-- a class's body -/
def clB : Stmt → List Stmt
  | .ClassDef (body := b) .. => b
  | _ => []
end DL

/-! DL11: a law's end. -/
namespace DL
open PySem PySem.Spec PyProof.Rows L2
/-- the heap's reading ahead of the law: the script alone, or nothing -/
structure Ahead (P : Program) (w : World) (K : PySem.W.Frag) (h : Heap) (a : Addr) (ns : List Int) (H : Hp) : Prop where
  seq : SqL K H a (ns.map V.int)
  ok : HOk P w H h
  only : ∀ b, H b ≠ none → b = a ∧ K.lookup a = none ∧ ∃ o xs, H b = some (.frz o (.lst xs))
theorem ahead_of {P : Program} {w : World} {K : PySem.W.Frag} {h : Heap} {a : Addr} {vs : List Value} {ns : List Int} (kin : K.In h) (ha : h.get? a = some { cls := .type "list", data := .seq vs.toArray }) (hi : IntsAre vs ns) (hl : ns.length ≤ sizeLine) : ∃ H, Ahead P w K h a ns H := by
  have rv := vals_ints hi
  by_cases hk : ∃ o, K.lookup a = some o
  · obtain ⟨o, hk⟩ := hk
    have e := kin a o hk
    rw [ha] at e
    cases e
    have sz : vs.toArray.size ≤ sizeLine := by rw [List.size_toArray, hi.length]; exact hl
    exact ⟨fun _ => none, .inr ⟨_, vs.toArray, _, hk, rfl, rfl, rfl, sz, by simpa using rv⟩, fun b u z => (by cases (show (none : Option HO) = some u from z)), fun b z => absurd rfl z⟩
  · have hk' : K.lookup a = none := by
      cases e : K.lookup a with
      | none => rfl
      | some o => exact absurd ⟨o, e⟩ hk
    let o0 : Obj := { cls := .type "list", data := .seq vs.toArray }
    refine ⟨upd (fun _ => none) a (.frz o0 (.lst (ns.map V.int))), .inl (.inr ⟨o0, upd_same⟩), fun b u z => ?_, fun b z => ?_⟩
    · by_cases hb : b = a
      · subst hb
        rw [upd_same] at z
        cases z
        exact ⟨ha, by rw [List.length_map]; exact hl, vs, _, rv, ha⟩
      · rw [upd_ne hb] at z
        cases z
    · by_cases hb : b = a
      · subst hb
        exact ⟨rfl, hk', o0, _, upd_same⟩
      · exact absurd (upd_ne hb) z
theorem law_go {P : Program} {w : World} {K : PySem.W.Frag} {mg mb : Str → Option Value} {k : Nat} {f a : Addr} {m : List D → Sto → RE D} {s : Shared} {vs : List Value} {ns : List Int} (kin : K.In s.heap) (gl : s.heap.Ns mainGlobals mg) (bl : s.heap.Ns builtinsNs mb) (bb : ∀ x : Str, x ≠ "__name__" → mb x = bootBuiltins x)
    (nl : s.heap.NoLimit) (gn : s.gens = #[]) (ha : s.heap.get? a = some { cls := .type "list", data := .seq vs.toArray }) (hi : IntsAre vs ns) (hl : ns.length ≤ sizeLine) (room : Room k callerA)
    (F : ∀ base : Heap, K.In base → base.Ns mainGlobals mg → FnM P w K mg base k f 1 [] m) (ok : ∃ S, m [.scr ns] [] = .ok (.bl true) S) :
    codeAny (model P w) callerA (.call (.ref f) ⟨[.ref a], []⟩) (fun r s' => r = .ok (.ret (.bool true)) ∧ OldK s.heap s'.heap ∧ s'.os = s.os ∧ AllBare s'.gens) s := by
  obtain ⟨H, pre⟩ := ahead_of (P := P) (w := w) (K := K) kin ha hi hl
  -- the part of the heap that nobody changes
  have unseen : ∀ {b : Addr} {o : Obj}, s.heap.get? b = some o → (b = a → K.lookup a ≠ none ∨ False) → H b = none := fun {b o} e n => by
    cases q : H b with
    | none => rfl
    | some u =>
      obtain ⟨e1, e2, _⟩ := pre.only b (by rw [q]; simp)
      rcases n e1 with n | n
      · exact absurd e2 n
      · exact n.elim
  have names : ∀ {b : Addr} {mm : Str → Option Value}, s.heap.Ns b mm → (hidT s.heap H).Ns b mm := fun {b mm} ⟨o, es, ep, e, dd, r⟩ => by
    refine ⟨o, es, ep, hidT_get e ?_, dd, r⟩
    cases q : H b with
    | none => rfl
    | some u =>
      obtain ⟨e1, _⟩ := pre.only b (by rw [q]; simp)
      subst e1
      rw [ha] at e
      cases e
      cases (show Data.seq vs.toArray _ = Data.dict es ep from dd)
  have kin' : K.In (hidT s.heap H) := fun b o e => by
    refine hidT_get (kin b o e) (unseen (kin b o e) fun z => .inl ?_)
    rw [← z, e]
    simp
  have mod : Mod K mg (hidT s.heap H) := ⟨kin', names gl, ⟨mb, names bl, bb⟩, by obtain ⟨mc, n1, n2⟩ := nl; exact ⟨mc, names n1, n2⟩⟩
  have env : Env0 P w K mg (hidT s.heap H) callerA [] s H := ⟨rfl, mod, fun b o e => of_hidT e, Nat.le_of_eq (hidT_size _ _), trivial, fun b hb => (by cases hb), pre.ok, .of_eq gn⟩
  obtain ⟨⟨fd, ps, dvs, ds, FG, hb, hd, hdd⟩, _⟩ := F _ kin' (names gl)
  have none_ : dvs = [] := by
    have := hdd ⟨[], []⟩ H
    simpa only [Reps] using this
  subst none_
  cases hd
  obtain ⟨S, ok⟩ := ok
  have nothing : Abs K ⟨[], []⟩ [] H := ⟨rfl, List.nodup_nil, fun b hb => (by cases hb), fun n b o e => (by simp at e)⟩
  have script : Rep K ⟨[], []⟩ H (.scr ns) (.ref a) := by
    simp only [Rep]
    have na : a ∉ (⟨[], []⟩ : Pl) := fun z => by rcases z with z | z <;> cases z
    rcases pre.seq with q | q
    · exact ⟨a, rfl, .inl ⟨na, q⟩⟩
    · exact ⟨a, rfl, .inr q⟩
  have wish : spM K 1 m [.ref a] H (fun v _ => v = .bl true) (fun _ _ _ => False) := by
    refine ⟨⟨[], []⟩, [.scr ns], [], rfl, ?_, nothing, ?_⟩
    · simp only [Reps]
      exact ⟨_, _, rfl, script, rfl⟩
    · rw [ok]
      intro ρ' v H' _ _ r
      simpa only [Rep] using r
  have ln : ([Value.ref a] ++ []).length = ps.length := (FG.len _ _ _ _ wish)
  refine codeAny_mono (FG.go callerA [] s H ⟨[.ref a], []⟩ [.ref a] [.ref a] _ _ room rfl env (by simpa using hb s [.ref a] kin ln) (.cons rfl .nil) wish) fun r s' done => ?_
  match r, done with
  | .ok (.ret u), ⟨v, H', os, bare, un, hok, rv, q⟩ =>
    have q' : v = .bl true := q
    subst q'
    obtain rfl : u = Value.bool true := rv
    refine ⟨rfl, OldK.of_keep fun b o e => ?_, os, bare⟩
    cases hq : H b with
    | none => exact un.keep b o e hq (fun z => (by cases z)) (fun z => (by cases z))
    | some u =>
      obtain ⟨_, _, o1, xs, e1⟩ := pre.only b (by rw [hq]; simp)
      obtain ⟨e2, _⟩ := pre.ok b _ e1
      obtain ⟨e3, _⟩ := hok b _ (un.frzs b o1 _ e1)
      rw [e] at e2
      cases e2
      exact e3
  | .error e, done =>
    obtain ⟨_, _, _, _, _, _, _, _, _, _, _, _, z⟩ := done
    exact z.elim
/-- a law by its mirror -/
theorem walk_law {l : PySem.W.OpenLaw} {n k : Nat} {q : Program} {loose : List Str} {XP : (Str → Option Value) → Heap → Prop} {YP : World → Heap → Prop} {d : DefRec} (hn : l.most = some n) (hn2 : n ≤ sizeLine) (hdf : d.params.defaults = []) (room : Room k callerA)
    (F : ∀ (w : World) (mg : Str → Option Value) (fa : Addr) (h : Heap), YP w h → h.Ns mainGlobals mg → mg d.name = some (.ref fa) →
      ∃ (K : PySem.W.Frag) (m : List D → Sto → RE D), K.In h ∧ (∀ base : Heap, K.In base → base.Ns mainGlobals mg → FnM l.prog w K mg base k fa 1 [] m) ∧ ∀ ns : List Int, ns.length ≤ n → ∃ S, m [.scr ns] [] = .ok (.bl true) S) :
    PySem.W.WalkO q loose XP YP l.row.toRowW d [] (fun f vs => PySem.call f vs) := by
  refine Att.attach_call hn hdf fun w s0 s1 mg mb fa o pm cd doc a vs ns G Y ho hd hcd hmg hobj hints hlen hg => ?_
  obtain ⟨K, m, kin, FF, ok⟩ := F w mg fa _ Y G.T.g hmg
  exact law_go kin G.T.g G.T.b G.T.builtins G.T.nolimit hg hobj hints (Nat.le_trans hlen hn2) room FF (ok ns hlen)
end DL

/-! DL12: plain tools for mirrors. -/
namespace DL
open PySem PySem.Spec L2
theorem lcGo_pure {I : ItD} {g : MG} {t : MB} {e : ME} {δ : Loc} {S : Sto} {p : D → Bool} {f : D → D} (hI : I.ok S) : ∀ (l acc : List D), (∀ d ∈ l, ∃ δ1, g d S δ = some δ1 ∧ t δ1 S = .ok (p d) S ∧ (p d = true → e δ1 S = .ok (f d) S)) → acc.length + l.length ≤ sizeLine → lcGo I g t e δ l S acc = .ok (acc ++ (l.filter p).map f) S
  | [], acc, h, hz => by
    unfold lcGo
    rw [if_pos hI]
    simp
  | d :: l, acc, h, hz => by
    unfold lcGo
    rw [if_pos hI]
    obtain ⟨δ1, h1, h2, h3⟩ := h d (List.mem_cons_self ..)
    rw [h1]
    dsimp only
    rw [h2]
    have hz' : acc.length + (l.length + 1) ≤ sizeLine := by simpa using hz
    cases hp : p d with
    | false =>
      dsimp only
      rw [lcGo_pure hI l acc (fun d' hd => h d' (List.mem_cons_of_mem _ hd)) (by omega)]
      simp [hp]
    | true =>
      dsimp only
      rw [h3 hp]
      dsimp only
      rw [if_pos (by omega), lcGo_pure hI l (acc ++ [f d]) (fun d' hd => h d' (List.mem_cons_of_mem _ hd)) (by simp; omega)]
      simp [hp]
/-- no test -/
theorem lcGo_map {I : ItD} {g : MG} {e : ME} {δ : Loc} {S : Sto} {f : D → D} (hI : I.ok S) (l : List D) (h : ∀ d ∈ l, ∃ δ1, g d S δ = some δ1 ∧ e δ1 S = .ok (f d) S) (hz : l.length ≤ sizeLine) : lcGo I g noT e δ l S [] = .ok (l.map f) S := by
  rw [lcGo_pure (p := fun _ => true) (f := f) hI l [] (fun d hd => by obtain ⟨δ1, h1, h2⟩ := h d hd; exact ⟨δ1, h1, rfl, fun _ => h2⟩) (by simpa using hz)]
  rw [List.filter_eq_self.mpr (fun _ _ => rfl), List.nil_append]
/-- a loop that goes through: what holds behind each turn -/
theorem forGo_thru {I : ItD} {g : MG} {b : MS} {Inv : List D → Loc → Sto → Prop} (hI : ∀ l δ S, Inv l δ S → I.ok S) (h : ∀ d l δ S, Inv (d :: l) δ S → ∃ δ1 δ2 S2, g d S δ = some δ1 ∧ (b δ1 S = .nx δ2 S2 ∨ b δ1 S = .ct δ2 S2) ∧ Inv l δ2 S2) :
    ∀ (l : List D) (δ : Loc) (S : Sto), Inv l δ S → ∃ δ' S', forGo I g b l δ S = .nx δ' S' ∧ Inv [] δ' S'
  | [], δ, S, i => ⟨δ, S, by unfold forGo; rw [if_pos (hI _ _ _ i)], i⟩
  | d :: l, δ, S, i => by
    obtain ⟨δ1, δ2, S2, h1, h2, i2⟩ := h d l δ S i
    obtain ⟨δ', S', e, i'⟩ := forGo_thru hI h l δ2 S2 i2
    refine ⟨δ', S', ?_, i'⟩
    unfold forGo
    rw [if_pos (hI _ _ _ i), h1]
    rcases h2 with h2 | h2 <;> (dsimp only; rw [h2]; exact e)
theorem occ_one (x : Str) (c : Nat) : (!(Builtin.Str.occurrences x ⟨#[c]⟩ 0 x.length 1).isEmpty) = decide (c ∈ x.cps.toList) := StrLaws.found_one x c
end DL
namespace DL
open PySem PySem.Spec L2
theorem forGo_nil {I : ItD} {g : MG} {b : MS} {δ : Loc} {S : Sto} (h : I.ok S) : forGo I g b [] δ S = .nx δ S := by
  unfold forGo
  rw [if_pos h]
theorem forGo_cons {I : ItD} {g : MG} {b : MS} {d : D} {ds : List D} {δ δ1 : Loc} {S : Sto} (h : I.ok S) (e : g d S δ = some δ1) : forGo I g b (d :: ds) δ S = match b δ1 S with
      | .nx δ2 S2 => forGo I g b ds δ2 S2
      | .ct δ2 S2 => forGo I g b ds δ2 S2
      | .bk δ2 S2 => .nx δ2 S2
      | r => r := by
  conv => lhs; unfold forGo
  rw [if_pos h, e]
  all_goals rfl
end DL
namespace DL
open PySem PySem.Spec L2
theorem lcE_ok {m : MI} {vs : List Nat} {g : MG} {t : MB} {e : ME} {δ : Loc} {S S' : Sto} {ds : List D} (h : lcM m vs g t e δ S = .ok ds S') : lcE m vs g t e δ S = .ok (.lst ds) S' := by
  unfold lcE
  rw [h]
  rfl
theorem consA_ok {m : ME} {n : MA} {δ : Loc} {S S1 S2 : Sto} {d : D} {ds : List D} (h : m δ S = .ok d S1) (k : n δ S1 = .ok ds S2) : consA m n δ S = .ok (d :: ds) S2 := by
  unfold consA
  rw [h]
  show (n δ S1).bind _ = _
  rw [k]
  rfl
theorem bltE_one {f : List D → Sto → RE D} {m : ME} {δ : Loc} {S S1 : Sto} {d : D} (h : m δ S = .ok d S1) : bltE f (consA m nilA) δ S = f [d] S1 := by
  unfold bltE
  rw [consA_ok h rfl]
  rfl
theorem asgS_ok {m : ME} {g : MG} {δ δ' : Loc} {S S1 : Sto} {d : D} (h : m δ S = .ok d S1) (k : g d S1 δ = some δ') : asgS m g δ S = .nx δ' S1 := by
  unfold asgS
  rw [h]
  show (match g d S1 δ with | some δ' => RS.nx δ' S1 | none => .bad) = _
  rw [k]
theorem seqS_nx {m n : MS} {δ δ' : Loc} {S S1 : Sto} (h : m δ S = .nx δ' S1) : seqS m n δ S = n δ' S1 := by
  unfold seqS
  rw [h]
  rfl
theorem seqS_rt {m n : MS} {δ : Loc} {S S1 : Sto} {d : D} (h : m δ S = .rt d S1) : seqS m n δ S = .rt d S1 := by
  unfold seqS
  rw [h]
  rfl
theorem seqS_exc {m n : MS} {δ δ' : Loc} {S S1 : Sto} {x : Ex} (h : m δ S = .exc x δ' S1) : seqS m n δ S = .exc x δ' S1 := by
  unfold seqS
  rw [h]
  rfl
theorem ifS_t {c : MB} {m n : MS} {δ : Loc} {S S1 : Sto} (h : c δ S = .ok true S1) : ifS c m n δ S = m δ S1 := by
  unfold ifS
  rw [h]
  rfl
theorem ifS_f {c : MB} {m n : MS} {δ : Loc} {S S1 : Sto} (h : c δ S = .ok false S1) : ifS c m n δ S = n δ S1 := by
  unfold ifS
  rw [h]
  rfl
theorem retS_ok {m : ME} {δ : Loc} {S S1 : Sto} {d : D} (h : m δ S = .ok d S1) : retS m δ S = .rt d S1 := by
  unfold retS
  rw [h]
  rfl
theorem retS_exc {m : ME} {δ : Loc} {S S1 : Sto} {x : Ex} (h : m δ S = .exc x S1) : retS m δ S = .exc x δ S1 := by
  unfold retS
  rw [h]
  rfl
theorem fnB_rt {n : Nat} {b : MS} {ds : List D} {S S1 : Sto} {d : D} (h : b (startD n ds) S = .rt d S1) : fnB n b ds S = .ok d S1 := by
  unfold fnB
  rw [h]
theorem fnB_exc {n : Nat} {b : MS} {ds : List D} {S S1 : Sto} {x : Ex} {δ : Loc} (h : b (startD n ds) S = .exc x δ S1) : fnB n b ds S = .exc x S1 := by
  unfold fnB
  rw [h]
theorem callE_1 {f : List D → Sto → RE D} {m : ME} {δ : Loc} {S S1 : Sto} {d : D} (h : m δ S = .ok d S1) : callE 1 [] f (consA m nilA) δ S = f [d] S1 := by
  unfold callE
  rw [consA_ok h rfl]
  rfl
theorem callE_2 {f : List D → Sto → RE D} {m m2 : ME} {δ : Loc} {S S1 S2 : Sto} {d e : D} (h : m δ S = .ok d S1) (h2 : m2 δ S1 = .ok e S2) : callE 2 [] f (consA m (consA m2 nilA)) δ S = f [d, e] S2 := by
  unfold callE
  rw [consA_ok h (consA_ok h2 rfl)]
  rfl
theorem forS_ok {m : MI} {g : MG} {b : MS} {δ : Loc} {S S1 : Sto} {I : ItD} (h : m δ S = .ok I S1) : forS m g b δ S = forGo I g b I.ds δ S1 := by
  unfold forS
  rw [h]
  rfl
end DL
namespace DL
open PySem PySem.Spec L2
theorem binE_ok {g : D → D → Sto → RE D} {m n : ME} {δ : DL.Loc} {S S1 S2 : Sto} {x y : D} (h : m δ S = .ok x S1) (k : n δ S1 = .ok y S2) : binE g m n δ S = g x y S2 := by
  unfold binE
  rw [h]
  show (n δ S1).bind _ = _
  rw [k]
  rfl
theorem testE_bl {m : ME} {δ : DL.Loc} {S S1 : Sto} {b : Bool} (h : m δ S = .ok (.bl b) S1) : testE m δ S = .ok b S1 := by
  unfold testE
  rw [h]
  rfl
theorem notT_ok {m : MB} {δ : DL.Loc} {S S1 : Sto} {b : Bool} (h : m δ S = .ok b S1) : notT m δ S = .ok (!b) S1 := by
  unfold notT
  rw [h]
  rfl
theorem orT_t {m n : MB} {δ : DL.Loc} {S S1 : Sto} (h : m δ S = .ok true S1) : orT m n δ S = .ok true S1 := by
  unfold orT
  rw [h]
  rfl
theorem orT_f {m n : MB} {δ : DL.Loc} {S S1 : Sto} (h : m δ S = .ok false S1) : orT m n δ S = n δ S1 := by
  unfold orT
  rw [h]
  rfl
theorem andT_t {m n : MB} {δ : DL.Loc} {S S1 : Sto} (h : m δ S = .ok true S1) : andT m n δ S = n δ S1 := by
  unfold andT
  rw [h]
  rfl
theorem andT_f {m n : MB} {δ : DL.Loc} {S S1 : Sto} (h : m δ S = .ok false S1) : andT m n δ S = .ok false S1 := by
  unfold andT
  rw [h]
  rfl
theorem truE_ok {m : ME} {δ : DL.Loc} {S S1 : Sto} {d : D} {b : Bool} (h : m δ S = .ok d S1) (k : truD S1 d = some b) : truE m δ S = .ok b S1 := by
  unfold truE
  rw [h]
  show (match truD S1 d with | some b => RE.ok b S1 | none => .bad) = _
  rw [k]
theorem ifE_t {c : MB} {m n : ME} {δ : DL.Loc} {S S1 : Sto} (h : c δ S = .ok true S1) : ifE c m n δ S = m δ S1 := by
  unfold ifE
  rw [h]
  rfl
theorem ifE_f {c : MB} {m n : ME} {δ : DL.Loc} {S S1 : Sto} (h : c δ S = .ok false S1) : ifE c m n δ S = n δ S1 := by
  unfold ifE
  rw [h]
  rfl
/-- lo <= m <= hi -/
theorem between {m : ME} {δ : DL.Loc} {S : Sto} {lo n hi : Int} (h : m δ S = .ok (.int n) S) : testE (chainE leD leD (conE (.int lo)) m (conE (.int hi))) δ S = .ok (decide (lo ≤ n) && decide (n ≤ hi)) S := by
  refine testE_bl ?_
  unfold chainE conE
  show (m δ S).bind _ = _
  rw [h]
  by_cases q : lo ≤ n <;> simp [RE.bind, leD, cmpD, q]
end DL
namespace DL
open PySem PySem.Spec L2
theorem lcM_ok {m : MI} {vs : List Nat} {g : MG} {t : MB} {e : ME} {δ : DL.Loc} {S S1 : Sto} {I : ItD} {r : RE (List D)} (h : m δ S = .ok I S1) (k : lcGo I g t e (wipeL δ vs) I.ds S1 [] = r) : lcM m vs g t e δ S = r := by
  unfold lcM
  rw [h]
  exact k
theorem lcGo_nil {I : ItD} {g : MG} {t : MB} {e : ME} {δ : DL.Loc} {S : Sto} {acc : List D} (h : I.ok S) : lcGo I g t e δ [] S acc = .ok acc S := by
  unfold lcGo
  exact if_pos h
theorem lcGo_step {I : ItD} {g : MG} {e : ME} {δ δ1 : DL.Loc} {S S2 : Sto} {d y : D} {l acc : List D} (h : I.ok S) (hg : g d S δ = some δ1) (he : e δ1 S = .ok y S2) (hz : acc.length < sizeLine) : lcGo I g noT e δ (d :: l) S acc = lcGo I g noT e δ l S2 (acc ++ [y]) := by
  conv => lhs; unfold lcGo
  rw [if_pos h, hg]
  show (match e δ1 S with | .ok y S2 => if acc.length < sizeLine then lcGo I g noT e δ l S2 (acc ++ [y]) else .bad | _ => .bad) = _
  rw [he]
  exact if_pos hz
end DL

/-! DL13: the laws' deck and draws. -/
namespace DL
open PySem PySem.Spec L2
noncomputable def drawB : MS := seqS (setS (binE addD (binE ixD (varE 0) (conE (.int 1))) (conE (.int 1))) (varE 0) (conE (.int 1))) (seqS (asgS (conE (.int 0)) (nameG 2)) (seqS (asgS (unE negD (conE (.int 1))) (nameG 3)) (seqS (ifS (testE (binE gtD (bltE lenD (consA (binE ixD (varE 0) (conE (.int 0))) nilA)) (conE (.int 0)))) (seqS (asgS (binE modD (binE ixD (varE 0) (conE (.int 1))) (bltE lenD (consA (binE ixD (varE 0) (conE (.int 0))) nilA))) (nameG 3)) (asgS (binE ixD (binE ixD (varE 0) (conE (.int 0))) (varE 3)) (nameG 2))) passS) (seqS (ifS (testE (binE geD (varE 2) (binE powD (conE (.int 10)) (conE (.int 18))))) (seqS (setS (binE divD (varE 2) (varE 1)) (binE ixD (varE 0) (conE (.int 0))) (varE 3)) (retS (binE modD (varE 2) (varE 1)))) passS) (retS (binE modD (binE modD (binE powD (binE addD (binE addD (binE modD (varE 2) (conE (.int 2147483587))) (binE mulD (conE (.int 7919)) (binE ixD (varE 0) (conE (.int 1))))) (conE (.int 1))) (conE (.int 5))) (conE (.int 2147483647))) (varE 1)))))))
noncomputable def drawM : List D → Sto → RE D := fnB 4 drawB
/-- the deck at the places 0 and 1, so many drawn; the other places -/
def Deck (k : Nat) (rest : Sto) (S : Sto) : Prop := ∃ cells : List Int, S = .lst (cells.map D.int) :: .lst [.ref 0, .int (k : Nat)] :: rest ∧ ∀ c ∈ cells, 0 ≤ c
theorem ix_ref {S : Sto} {n : Nat} {ds : List D} {i : Int} {d : D} (h : S[n]? = some (.lst ds)) (e : atI ds i = some d) : ixD (.ref n) (.int i) S = .ok d S := by
  show (match (match S[n]? with | some (O.lst ds) => some ds | _ => none) with | some ds => (match atI ds i with | some d => RE.ok d S | none => .bad) | none => .bad) = _
  rw [h]
  show (match atI ds i with | some d => RE.ok d S | none => .bad) = _
  rw [e]
theorem len_ref {S : Sto} {n : Nat} {ds : List D} (h : S[n]? = some (.lst ds)) : lenD [.ref n] S = .ok (.int ds.length) S := by
  show (match (match S[n]? with | some (O.lst ds) => some ds | _ => none) with | some es => RE.ok (D.int es.length) S | none => .bad) = _
  rw [h]
theorem setS_ok {me mo mi : ME} {δ : DL.Loc} {S : Sto} {n j : Nat} {i : Int} {d : D} {ds : List D} (h1 : me δ S = .ok d S) (h2 : mo δ S = .ok (.ref n) S) (h3 : mi δ S = .ok (.int i) S) (h : S[n]? = some (.lst ds)) (hj : ixN ds.length i = some j) : setS me mo mi δ S = .nx δ (S.set n (.lst (ds.set j d))) := by
  unfold setS
  rw [h1]
  show RE.toS (mo δ S) δ _ = _
  rw [h2]
  show RE.toS (mi δ S) δ _ = _
  rw [h3]
  show (match S[n]? with | some (O.lst ds) => (match ixN ds.length i with | some j => RS.nx δ (S.set n (.lst (ds.set j d))) | none => .bad) | _ => .bad) = _
  rw [h]
  show (match ixN ds.length i with | some j => RS.nx δ (S.set n (.lst (ds.set j d))) | none => .bad) = _
  rw [hj]
theorem atI_nat {α : Type} {xs : List α} {i : Nat} (h : i < xs.length) : atI xs (i : Int) = xs[i]? := by
  unfold atI ixN
  rw [if_pos (by omega), if_pos (by omega)]
  rfl
theorem draw_ok {k : Nat} {rest S : Sto} {many : Int} (hd : Deck k rest S) (hk : k < 2 ^ 40) (h1 : 1 ≤ many) (h2 : many < 2 ^ 29) : ∃ (r : Int) (S' : Sto), drawM [.ref 1, .int many] S = .ok (.int r) S' ∧ 0 ≤ r ∧ r < many ∧ Deck (k + 1) rest S' := by
  obtain ⟨cells, rfl, hc⟩ := hd
  unfold drawM drawB
  -- the count
  have s1 : setS (binE addD (binE ixD (varE 0) (conE (.int 1))) (conE (.int 1))) (varE 0) (conE (.int 1)) [some (.ref 1), some (.int many), none, none] (.lst (cells.map D.int) :: .lst [.ref 0, .int (k : Nat)] :: rest) = .nx [some (.ref 1), some (.int many), none, none] (.lst (cells.map D.int) :: .lst [.ref 0, .int ((k + 1 : Nat) : Int)] :: rest) := by
    rw [setS_ok (n := 1) (j := 1) (i := 1) (d := .int ((k + 1 : Nat) : Int)) (ds := [.ref 0, .int (k : Nat)]) ?_ rfl rfl rfl rfl]
    · rfl
    · rw [binE_ok (binE_ok (x := .ref 1) (y := .int 1) rfl rfl |>.trans (ix_ref (ds := [.ref 0, .int (k : Nat)]) (d := .int (k : Nat)) rfl rfl)) (show conE _ _ _ = _ from rfl)]
      show RE.ok (D.int ((k : Int) + 1)) _ = _
      congr 2
  generalize hS : (O.lst (cells.map D.int) :: O.lst [.ref 0, .int ((k + 1 : Nat) : Int)] :: rest : Sto) = S1 at s1
  have g0 : S1[0]? = some (.lst (cells.map D.int)) := by rw [← hS]; rfl
  have g1 : S1[1]? = some (.lst [.ref 0, .int ((k + 1 : Nat) : Int)]) := by rw [← hS]; rfl
  have d0 : ∀ δ2 δ3, binE ixD (varE 0) (conE (.int 0)) [some (.ref 1), some (.int many), δ2, δ3] S1 = .ok (.ref 0) S1 := fun δ2 δ3 => (binE_ok (x := .ref 1) (y := .int 0) rfl rfl).trans (ix_ref g1 rfl)
  have d1 : ∀ δ2 δ3, binE ixD (varE 0) (conE (.int 1)) [some (.ref 1), some (.int many), δ2, δ3] S1 = .ok (.int ((k + 1 : Nat) : Int)) S1 := fun δ2 δ3 => (binE_ok (x := .ref 1) (y := .int 1) rfl rfl).trans (ix_ref g1 rfl)
  have ln : ∀ δ2 δ3, bltE lenD (consA (binE ixD (varE 0) (conE (.int 0))) nilA) [some (.ref 1), some (.int many), δ2, δ3] S1 = .ok (.int cells.length) S1 := fun δ2 δ3 => by
    rw [bltE_one (d0 δ2 δ3), len_ref g0, List.length_map]
  -- the end: no cell is large
  have last : ∀ (c p : Int), 0 ≤ c → ∃ r, (retS (binE modD (binE modD (binE powD (binE addD (binE addD (binE modD (varE 2) (conE (.int 2147483587))) (binE mulD (conE (.int 7919)) (binE ixD (varE 0) (conE (.int 1))))) (conE (.int 1))) (conE (.int 5))) (conE (.int 2147483647))) (varE 1))) [some (.ref 1), some (.int many), some (.int c), some (.int p)] S1 = .rt (.int r) S1 ∧ 0 ≤ r ∧ r < many := by
    intro c p hc0
    have b1 : 0 ≤ c % 2147483587 := Int.emod_nonneg _ (by decide)
    have b2 : c % 2147483587 < 2147483587 := Int.emod_lt_of_pos _ (by decide)
    have m1 : binE modD (varE 2) (conE (.int 2147483587)) [some (.ref 1), some (.int many), some (.int c), some (.int p)] S1 = .ok (.int (c % 2147483587)) S1 := by
      rw [binE_ok (x := .int c) (y := .int 2147483587) rfl rfl]
      rfl
    have m2 : binE mulD (conE (.int 7919)) (binE ixD (varE 0) (conE (.int 1))) [some (.ref 1), some (.int many), some (.int c), some (.int p)] S1 = .ok (.int (7919 * ((k + 1 : Nat) : Int))) S1 := by
      rw [binE_ok (x := .int 7919) rfl (d1 _ _)]
      show (if ((-(2 ^ 64) < (7919 : Int) ∧ (7919 : Int) < 2 ^ 64) ∨ (-(2 ^ 64) < ((k + 1 : Nat) : Int) ∧ ((k + 1 : Nat) : Int) < 2 ^ 64)) then RE.ok (D.int (7919 * ((k + 1 : Nat) : Int))) S1 else .bad) = _
      exact if_pos (.inl (by decide))
    generalize hq : c % 2147483587 + 7919 * ((k + 1 : Nat) : Int) + 1 = q
    have q0 : 0 ≤ q := by omega
    have q1 : q < 2 ^ 63 := by omega
    have m3 : binE powD (binE addD (binE addD (binE modD (varE 2) (conE (.int 2147483587))) (binE mulD (conE (.int 7919)) (binE ixD (varE 0) (conE (.int 1))))) (conE (.int 1))) (conE (.int 5)) [some (.ref 1), some (.int many), some (.int c), some (.int p)] S1 = .ok (.int (q ^ 5)) S1 := by
      have a1 := binE_ok (g := addD) m1 m2
      have a2 := binE_ok (g := addD) (a1.trans (show addD _ _ _ = .ok (.int (c % 2147483587 + 7919 * ((k + 1 : Nat) : Int))) S1 from rfl)) (show conE (.int 1) _ S1 = .ok (.int 1) S1 from rfl)
      have a3 := a2.trans (show addD _ _ _ = .ok (.int (c % 2147483587 + 7919 * ((k + 1 : Nat) : Int) + 1)) S1 from rfl)
      rw [hq] at a3
      rw [binE_ok a3 (show conE (.int 5) _ S1 = .ok (.int 5) S1 from rfl)]
      show (if decide ((0 : Int) ≤ 5 ∧ (5 : Int) ≤ 1000000 ∧ q.natAbs < 2 ^ 64) = true then RE.ok (D.int (q ^ (5 : Int).toNat)) S1 else .bad) = _
      rw [if_pos (decide_eq_true ⟨by decide, by decide, by omega⟩)]
      rfl
    have m4 := binE_ok (g := modD) m3 (show conE (.int 2147483647) _ S1 = .ok (.int 2147483647) S1 from rfl)
    have m5 := m4.trans (show modD (.int (q ^ 5)) (.int 2147483647) S1 = .ok (.int (q ^ 5 % 2147483647)) S1 from rfl)
    have m6 := binE_ok (g := modD) m5 (show varE 1 [some (.ref 1), some (.int many), some (.int c), some (.int p)] S1 = .ok (.int many) S1 from rfl)
    refine ⟨q ^ 5 % 2147483647 % many, retS_ok (m6.trans ?_), Int.emod_nonneg _ (by omega), Int.emod_lt_of_pos _ (by omega)⟩
    show (if decide (0 < many) = true then RE.ok (D.int (q ^ 5 % 2147483647 % many)) S1 else .bad) = _
    exact if_pos (decide_eq_true (by omega))
  have deck1 : Deck (k + 1) rest S1 := ⟨cells, hS.symm, hc⟩
  have big : ∀ δ, binE powD (conE (.int 10)) (conE (.int 18)) δ S1 = .ok (.int (10 ^ 18)) S1 := fun δ => by
    rw [binE_ok (x := .int 10) (y := .int 18) rfl rfl]
    rfl
  have len0 : ∀ δ2 δ3, testE (binE gtD (bltE lenD (consA (binE ixD (varE 0) (conE (.int 0))) nilA)) (conE (.int 0))) [some (.ref 1), some (.int many), δ2, δ3] S1 = .ok (decide (0 < cells.length)) S1 := fun δ2 δ3 => by
    refine testE_bl ?_
    rw [binE_ok (ln _ _) (show conE (.int 0) _ S1 = .ok (.int 0) S1 from rfl)]
    show RE.ok (D.bl (decide ((0 : Int) < (cells.length : Nat)))) S1 = _
    congr 2
    exact decide_eq_decide.mpr (by omega)
  have st : startD 4 [.ref 1, .int many] = [some (.ref 1), some (.int many), none, none] := rfl
  have s2 : ∀ n : MS, seqS (asgS (conE (.int 0)) (nameG 2)) (seqS (asgS (unE negD (conE (.int 1))) (nameG 3)) n) [some (.ref 1), some (.int many), none, none] S1 = n [some (.ref 1), some (.int many), some (.int 0), some (.int (-1))] S1 := fun n => by
    rw [seqS_nx (asgS_ok (d := .int 0) rfl rfl), seqS_nx (asgS_ok (d := .int (-1)) rfl rfl)]
    rfl
  by_cases hl : 0 < cells.length
  · -- a cell is read
    have pl : ((k + 1 : Nat) : Int) % (cells.length : Int) = (((k + 1) % cells.length : Nat) : Int) := by omega
    have pj : (k + 1) % cells.length < cells.length := Nat.mod_lt _ hl
    generalize hj : (k + 1) % cells.length = j at pl pj
    have ec : atI (cells.map D.int) (j : Int) = some (.int cells[j]) := by
      rw [atI_nat (by simpa using pj), List.getElem?_map, List.getElem?_eq_getElem pj]
      rfl
    have c0 : 0 ≤ cells[j] := hc _ (List.getElem_mem pj)
    have s3 : (seqS (asgS (binE modD (binE ixD (varE 0) (conE (.int 1))) (bltE lenD (consA (binE ixD (varE 0) (conE (.int 0))) nilA))) (nameG 3)) (asgS (binE ixD (binE ixD (varE 0) (conE (.int 0))) (varE 3)) (nameG 2))) [some (.ref 1), some (.int many), some (.int 0), some (.int (-1))] S1 = .nx [some (.ref 1), some (.int many), some (.int cells[j]), some (.int (j : Nat))] S1 := by
      have a1 : binE modD (binE ixD (varE 0) (conE (.int 1))) (bltE lenD (consA (binE ixD (varE 0) (conE (.int 0))) nilA)) [some (.ref 1), some (.int many), some (.int 0), some (.int (-1))] S1 = .ok (.int (j : Nat)) S1 := by
        rw [binE_ok (d1 _ _) (ln _ _)]
        show (if decide ((0 : Int) < (cells.length : Nat)) = true then RE.ok (D.int (((k + 1 : Nat) : Int) % (cells.length : Nat))) S1 else .bad) = _
        rw [if_pos (decide_eq_true (by omega)), pl]
      rw [seqS_nx (asgS_ok a1 rfl)]
      refine asgS_ok (d := .int cells[j]) ?_ rfl
      show binE ixD (binE ixD (varE 0) (conE (.int 0))) (varE 3) [some (.ref 1), some (.int many), some (.int 0), some (.int (j : Nat))] S1 = _
      rw [binE_ok (d0 _ _) (show varE 3 _ S1 = .ok (.int (j : Nat)) S1 from rfl)]
      exact ix_ref g0 ec
    have t10 : testE (binE geD (varE 2) (binE powD (conE (.int 10)) (conE (.int 18)))) [some (.ref 1), some (.int many), some (.int cells[j]), some (.int (j : Nat))] S1 = .ok (decide (10 ^ 18 ≤ cells[j])) S1 := by
      refine testE_bl ?_
      rw [binE_ok (x := .int cells[j]) rfl (big _)]
      rfl
    by_cases hb : 10 ^ 18 ≤ cells[j]
    · refine ⟨cells[j] % many, S1.set 0 (.lst ((cells.map D.int).set j (.int (cells[j] / many)))), fnB_rt ?_, Int.emod_nonneg _ (by omega), Int.emod_lt_of_pos _ (by omega), ?_⟩
      · rw [st, seqS_nx s1, s2, seqS_nx ((ifS_t (by rw [len0, decide_eq_true hl])).trans s3)]
        refine seqS_rt ((ifS_t (by rw [t10, decide_eq_true hb])).trans ?_)
        have a1 : binE divD (varE 2) (varE 1) [some (.ref 1), some (.int many), some (.int cells[j]), some (.int (j : Nat))] S1 = .ok (.int (cells[j] / many)) S1 := by
          rw [binE_ok (x := .int cells[j]) (y := .int many) rfl rfl]
          show (if decide (0 < many ∧ many < 1073741824) = true then RE.ok (D.int (cells[j] / many)) S1 else .bad) = _
          exact if_pos (decide_eq_true ⟨by omega, by omega⟩)
        rw [seqS_nx (setS_ok (n := 0) (j := j) a1 (d0 _ _) (show varE 3 _ S1 = .ok (.int (j : Nat)) S1 from rfl) g0 (by unfold ixN; rw [if_pos (by omega), if_pos (by rw [List.length_map]; omega)]; rfl))]
        refine retS_ok ?_
        rw [binE_ok (x := .int cells[j]) (y := .int many) rfl rfl]
        show (if decide (0 < many) = true then RE.ok (D.int (cells[j] % many)) _ else .bad) = _
        exact if_pos (decide_eq_true (by omega))
      · refine ⟨cells.set j (cells[j] / many), ?_, fun c hm => ?_⟩
        · rw [← hS]
          show O.lst _ :: _ = _
          rw [List.map_set]
        · rcases List.mem_or_eq_of_mem_set hm with h | h
          · exact hc c h
          · rw [h]; exact Int.ediv_nonneg c0 (by omega)
    · obtain ⟨r, e, r0, r1⟩ := last cells[j] (j : Nat) c0
      refine ⟨r, S1, fnB_rt ?_, r0, r1, deck1⟩
      rw [st, seqS_nx s1, s2, seqS_nx ((ifS_t (by rw [len0, decide_eq_true hl])).trans s3)]
      rw [seqS_nx ((ifS_f (by rw [t10, decide_eq_false hb])).trans (show passS _ _ = _ from rfl))]
      exact e
  · obtain ⟨r, e, r0, r1⟩ := last 0 (-1) (by decide)
    refine ⟨r, S1, fnB_rt ?_, r0, r1, deck1⟩
    have t10 : testE (binE geD (varE 2) (binE powD (conE (.int 10)) (conE (.int 18)))) [some (.ref 1), some (.int many), some (.int 0), some (.int (-1))] S1 = .ok false S1 := by
      refine testE_bl ?_
      rw [binE_ok (x := .int 0) rfl (big _)]
      rfl
    rw [st, seqS_nx s1, s2, seqS_nx ((ifS_f (by rw [len0, decide_eq_false hl])).trans (show passS _ _ = _ from rfl))]
    rw [seqS_nx ((ifS_f t10).trans (show passS _ _ = _ from rfl))]
    exact e
end DL

namespace K56
open PySem PySem.Spec PyProof.Rows L2 DL

/-! ### the text -/
def top (i : Nat) : Stmt := PySem.Challenge.pw_shoeparty_k56_halls_parsed.main.body.getD i (.Pass ⟨0, 0, 0, 0⟩)
def inMeth (i j : Nat) : Stmt := (clB (top i)).getD j (.Pass ⟨0, 0, 0, 0⟩)
abbrev s_is_number : Stmt := top 9
abbrev d_is_number : He.DefD := ⟨("is_number", none), "is_number", "is_number", defArgs s_is_number, defBody s_is_number, defScope s_is_number, [], []⟩
abbrev s_is_size : Stmt := top 10
abbrev d_is_size : He.DefD := ⟨("is_size", none), "is_size", "is_size", defArgs s_is_size, defBody s_is_size, defScope s_is_size, [], []⟩
abbrev s_first_wrong : Stmt := top 11
abbrev d_first_wrong : He.DefD := ⟨("first_wrong", none), "first_wrong", "first_wrong", defArgs s_first_wrong, defBody s_first_wrong, defScope s_first_wrong, [], []⟩
abbrev s_hall_error : Stmt := top 12
abbrev d_hall_error : He.DefD := ⟨("hall_error", none), "hall_error", "hall_error", defArgs s_hall_error, defBody s_hall_error, defScope s_hall_error, [], []⟩
abbrev s_is_hall : Stmt := top 13
abbrev d_is_hall : He.DefD := ⟨("is_hall", none), "is_hall", "is_hall", defArgs s_is_hall, defBody s_is_hall, defScope s_is_hall, [], []⟩
abbrev s_parse_number : Stmt := top 21
abbrev d_parse_number : He.DefD := ⟨("parse_number", none), "parse_number", "parse_number", defArgs s_parse_number, defBody s_parse_number, defScope s_parse_number, [], []⟩
abbrev s_parse_numbers : Stmt := top 22
abbrev d_parse_numbers : He.DefD := ⟨("parse_numbers", none), "parse_numbers", "parse_numbers", defArgs s_parse_numbers, defBody s_parse_numbers, defScope s_parse_numbers, [], []⟩
abbrev s_parse_feet : Stmt := top 23
abbrev d_parse_feet : He.DefD := ⟨("parse_feet", none), "parse_feet", "parse_feet", defArgs s_parse_feet, defBody s_parse_feet, defScope s_parse_feet, [], []⟩
abbrev s_parse_pairs : Stmt := top 24
abbrev d_parse_pairs : He.DefD := ⟨("parse_pairs", none), "parse_pairs", "parse_pairs", defArgs s_parse_pairs, defBody s_parse_pairs, defScope s_parse_pairs, [], []⟩
abbrev s_parse_part : Stmt := top 25
abbrev d_parse_part : He.DefD := ⟨("parse_part", none), "parse_part", "parse_part", defArgs s_parse_part, defBody s_parse_part, defScope s_parse_part, [], []⟩
abbrev s_parse_hall : Stmt := top 26
abbrev d_parse_hall : He.DefD := ⟨("parse_hall", none), "parse_hall", "parse_hall", defArgs s_parse_hall, defBody s_parse_hall, defScope s_parse_hall, [], []⟩
abbrev s__law_deck : Stmt := top 28
abbrev d__law_deck : He.DefD := ⟨("_law_deck", none), "_law_deck", "_law_deck", defArgs s__law_deck, defBody s__law_deck, defScope s__law_deck, [], []⟩
abbrev s__law_draw : Stmt := top 29
abbrev d__law_draw : He.DefD := ⟨("_law_draw", none), "_law_draw", "_law_draw", defArgs s__law_draw, defBody s__law_draw, defScope s__law_draw, [], []⟩
abbrev s__law_same : Stmt := top 30
abbrev d__law_same : He.DefD := ⟨("_law_same", none), "_law_same", "_law_same", defArgs s__law_same, defBody s__law_same, defScope s__law_same, [], []⟩
abbrev s__law_state : Stmt := top 31
abbrev d__law_state : He.DefD := ⟨("_law_state", none), "_law_state", "_law_state", defArgs s__law_state, defBody s__law_state, defScope s__law_state, [], []⟩
abbrev s__law_hall_text : Stmt := top 32
abbrev d__law_hall_text : He.DefD := ⟨("_law_hall_text", none), "_law_hall_text", "_law_hall_text", defArgs s__law_hall_text, defBody s__law_hall_text, defScope s__law_hall_text, [], []⟩
abbrev s__law_odd : Stmt := top 33
abbrev d__law_odd : He.DefD := ⟨("_law_odd", none), "_law_odd", "_law_odd", defArgs s__law_odd, defBody s__law_odd, defScope s__law_odd, [], []⟩
abbrev s__law_bent : Stmt := top 34
abbrev d__law_bent : He.DefD := ⟨("_law_bent", none), "_law_bent", "_law_bent", defArgs s__law_bent, defBody s__law_bent, defScope s__law_bent, [], []⟩
abbrev s__law_sizes : Stmt := top 35
abbrev d__law_sizes : He.DefD := ⟨("_law_sizes", none), "_law_sizes", "_law_sizes", defArgs s__law_sizes, defBody s__law_sizes, defScope s__law_sizes, [], []⟩
abbrev s__law_part : Stmt := top 36
abbrev d__law_part : He.DefD := ⟨("_law_part", none), "_law_part", "_law_part", defArgs s__law_part, defBody s__law_part, defScope s__law_part, [], []⟩
abbrev s__law_due : Stmt := top 37
abbrev d__law_due : He.DefD := ⟨("_law_due", none), "_law_due", "_law_due", defArgs s__law_due, defBody s__law_due, defScope s__law_due, [], []⟩
abbrev s__law_told : Stmt := top 38
abbrev d__law_told : He.DefD := ⟨("_law_told", none), "_law_told", "_law_told", defArgs s__law_told, defBody s__law_told, defScope s__law_told, [], []⟩
abbrev s_law : Stmt := top 39
abbrev d_law : He.DefD := ⟨("law", none), "law", "law", defArgs s_law, defBody s_law, defScope s_law, [], []⟩
abbrev s_BadText_ini : Stmt := inMeth 4 0
abbrev d_BadText_ini : He.DefD := ⟨("BadText", some "__init__"), "__init__", "BadText.__init__", defArgs s_BadText_ini, defBody s_BadText_ini, defScope s_BadText_ini, [], []⟩
abbrev fns : List He.DefD := [d_is_number, d_is_size, d_first_wrong, d_hall_error, d_is_hall, d_parse_number, d_parse_numbers, d_parse_feet, d_parse_pairs, d_parse_part, d_parse_hall, d__law_deck, d__law_draw, d__law_same, d__law_state, d__law_hall_text, d__law_odd, d__law_bent, d__law_sizes, d__law_part, d__law_due, d__law_told, d_law, d_BadText_ini]
def tab : Tab := [(((.own "BadText"), (.blt "LookupError")), false), (((.own "BadText"), (.own "BadHall")), false), (((.own "BadText"), (.own "BadSize")), false), (((.own "BadText"), (.own "PartyError")), true)]
def xtab : Tab := [(((.own "BadText"), (.own "BadText")), true)]
def xcl : Str → Bool := fun c => [("BadText" : Str)].contains c
def ins : Str → Bool := fun _ => false
def mks : List (Str × Str) := [("BadText", "index")]
def exs (K : PySem.W.Frag) : Bool := sysB K && (kitT K tab && (exmT K xtab && mks.all (mkfB K)))
abbrev fas : List He.Fa := [.free "int", .free "isinstance", .free "bool", .int "MAX_SIZE" 1000000, .glo "is_number", .free "enumerate", .glo "is_size", .free "tuple", .free "len", .int "MAX_GUESTS" 20, .glo "first_wrong", .int "MAX_PAIRS" 20, .glo "hall_error", .int "LONGEST" 8, .str "FIGURES" "0123456789", .free "all", .str "COMMA" ",", .glo "parse_number", .glo "parse_numbers", .glo "is_hall", .str "NO_PAIRS" "-", .glo "parse_feet", .str "MIDDLE" "/", .int "MANY_WORDS" 3, .glo "parse_pairs", .free "str", .glo "BadText", .glo "parse_part", .free "abs", .free "zip", .glo "_law_same", .glo "_law_draw", .free "range", .free "min", .free "max", .glo "_law_sizes", .glo "_law_part", .glo "parse_hall", .glo "PartyError", .glo "BadHall", .glo "BadSize", .free "LookupError", .glo "_law_deck", .glo "_law_state", .glo "_law_hall_text", .glo "_law_bent", .glo "_law_odd", .free "repr", .glo "_law_told", .glo "_law_due", .glo "law"]
/-! ### the mirrors -/
noncomputable def b_is_number : MS := retS (andE (bltE (isiD tab ins) (consA (varE 0) (consA (conE (.ty "int")) nilA))) (andE (notE (bltE (isiD tab ins) (consA (varE 0) (consA (conE (.ty "bool")) nilA)))) (chainE leD leD (varE 1) (varE 0) (varE 2))))
noncomputable def m_is_number : List D → Sto → RE D := fnB 3 b_is_number
noncomputable def b_is_size : MS := retS (callE 3 [] m_is_number (consA (varE 0) (consA (conE (.int 1)) (consA (conE (.int 1000000)) nilA))))
noncomputable def m_is_size : List D → Sto → RE D := fnB 1 b_is_size
noncomputable def b_first_wrong : MS := seqS (forS (enI (consA (varE 0) nilA)) (tupG 2 (consG (nameG 1) (consG (nameG 2) nilG))) (ifS (notT (truE (callE 1 [] m_is_size (consA (varE 2) nilA)))) (retS (varE 1)) passS)) (retS (conE .non))
noncomputable def m_first_wrong : List D → Sto → RE D := fnB 3 b_first_wrong
noncomputable def b_hall_error : MS := seqS (ifS (orT (notT (truE (bltE (isiD tab ins) (consA (varE 0) (consA (conE (.ty "tuple")) nilA))))) (testE (binE neD (bltE lenD (consA (varE 0) nilA)) (conE (.int 2))))) (retS (tupE (consA (conE .non) (consA (conE (.str "hall")) nilA)))) passS) (seqS (asgS (varE 0) (tupG 2 (consG (nameG 1) (consG (nameG 2) nilG)))) (seqS (ifS (orT (notT (truE (bltE (isiD tab ins) (consA (varE 1) (consA (conE (.ty "tuple")) nilA))))) (notT (testE (chainE leD leD (conE (.int 1)) (bltE lenD (consA (varE 1) nilA)) (conE (.int 20)))))) (retS (tupE (consA (conE .non) (consA (conE (.str "feet")) nilA)))) passS) (seqS (ifNN 3 (callE 1 [] m_first_wrong (consA (varE 1) nilA)) (retS (tupE (consA (varE 3) (consA (conE (.str "foot")) nilA)))) passS) (seqS (ifS (orT (notT (truE (bltE (isiD tab ins) (consA (varE 2) (consA (conE (.ty "tuple")) nilA))))) (testE (binE gtD (bltE lenD (consA (varE 2) nilA)) (conE (.int 20))))) (retS (tupE (consA (conE .non) (consA (conE (.str "pairs")) nilA)))) passS) (seqS (asgS (callE 1 [] m_first_wrong (consA (varE 2) nilA)) (nameG 4)) (retS (ifE (testE (binE (isD false) (varE 4) (conE .non))) (conE .non) (tupE (consA (varE 4) (consA (conE (.str "pair")) nilA))))))))))
noncomputable def m_hall_error : List D → Sto → RE D := fnB 5 b_hall_error
noncomputable def b_is_hall : MS := retS (binE (isD false) (callE 1 [] m_hall_error (consA (varE 0) nilA)) (conE .non))
noncomputable def m_is_hall : List D → Sto → RE D := fnB 1 b_is_hall
noncomputable def b_parse_number : MS := seqS (ifS (orT (notT (testE (chainE leD leD (conE (.int 1)) (bltE lenD (consA (varE 0) nilA)) (conE (.int 8))))) (notT (truE (bltE allD (consA (lcE (chI (varE 0)) [1] (nameG 1) noT (binE (inD false) (varE 1) (conE (.str "0123456789")))) nilA))))) (retS (conE .non)) passS) (retS (ifE (andT (testE (binE eqD (binE ixD (varE 0) (conE (.int 0))) (conE (.str "0")))) (testE (binE neD (varE 0) (conE (.str "0"))))) (conE .non) (bltE intD (consA (varE 0) nilA))))
noncomputable def m_parse_number : List D → Sto → RE D := fnB 2 b_parse_number
noncomputable def b_parse_numbers : MS := seqS (asgS (bltE tupleD (consA (lcE (lsI (methE "str" splitD (varE 0) (consA (conE (.str ",")) nilA))) [2] (nameG 2) noT (callE 1 [] m_parse_number (consA (varE 2) nilA))) nilA)) (nameG 1)) (retS (ifE (testE (binE (inD false) (conE .non) (varE 1))) (conE .non) (varE 1)))
noncomputable def m_parse_numbers : List D → Sto → RE D := fnB 3 b_parse_numbers
noncomputable def b_parse_feet : MS := seqS (asgS (callE 1 [] m_parse_numbers (consA (varE 0) nilA)) (nameG 1)) (retS (ifE (andT (testE (binE (isD true) (varE 1) (conE .non))) (truE (callE 1 [] m_is_hall (consA (tupE (consA (varE 1) (consA (tupE nilA) nilA))) nilA)))) (varE 1) (conE .non)))
noncomputable def m_parse_feet : List D → Sto → RE D := fnB 2 b_parse_feet
noncomputable def b_parse_pairs : MS := seqS (ifS (testE (binE eqD (varE 0) (conE (.str "-")))) (retS (tupE nilA)) passS) (seqS (asgS (callE 1 [] m_parse_numbers (consA (varE 0) nilA)) (nameG 1)) (retS (ifE (andT (testE (binE (isD true) (varE 1) (conE .non))) (truE (callE 1 [] m_is_hall (consA (tupE (consA (tupE (consA (conE (.int 1)) nilA)) (consA (varE 1) nilA))) nilA)))) (varE 1) (conE .non))))
noncomputable def m_parse_pairs : List D → Sto → RE D := fnB 2 b_parse_pairs
noncomputable def b_parse_part : MS := seqS (ifS (testE (binE eqD (varE 0) (conE (.int 0)))) (retS (callE 1 [] m_parse_feet (consA (varE 1) nilA))) passS) (seqS (ifS (testE (binE eqD (varE 0) (conE (.int 1)))) (retS (ifE (testE (binE eqD (varE 1) (conE (.str "/")))) (conE (.str "/")) (conE .non))) passS) (retS (ifE (testE (binE ltD (varE 0) (conE (.int 3)))) (callE 1 [] m_parse_pairs (consA (varE 1) nilA)) (conE .non))))
noncomputable def m_parse_part : List D → Sto → RE D := fnB 2 b_parse_part
noncomputable def b_parse_hall : MS := seqS (ifS (notT (truE (bltE (isiD tab ins) (consA (varE 0) (consA (conE (.ty "str")) nilA))))) (raiseS (mkfE "BadText" "index" (conE .non))) passS) (seqS (asgS (refE nilA) (nameG 1)) (seqS (forS (enI (consA (methE "str" splitD (varE 0) (consA (conE (.str " ")) nilA)) nilA)) (tupG 2 (consG (nameG 2) (consG (nameG 3) nilG))) (seqS (asgS (callE 2 [] m_parse_part (consA (varE 2) (consA (varE 3) nilA))) (nameG 4)) (seqS (ifS (testE (binE (isD false) (varE 4) (conE .non))) (raiseS (mkfE "BadText" "index" (varE 2))) passS) (exprS (methE "list" (lmD appK) (varE 1) (consA (varE 4) nilA)))))) (seqS (ifS (testE (binE ltD (bltE lenD (consA (varE 1) nilA)) (conE (.int 3)))) (raiseS (mkfE "BadText" "index" (bltE lenD (consA (varE 1) nilA)))) passS) (seqS (asgS (varE 1) (tupG 3 (consG (nameG 5) (consG (nameG 6) (consG (nameG 7) nilG))))) (retS (tupE (consA (varE 5) (consA (varE 7) nilA))))))))
noncomputable def m_parse_hall : List D → Sto → RE D := fnB 8 b_parse_hall
noncomputable def b__law_deck : MS := retS (refE (consA (lcR (lsI (slE (varE 0) noO (someO (conE (.int 63))))) [1] (nameG 1) noT (bltE absD (consA (varE 1) nilA))) (consA (conE (.int 0)) nilA)))
noncomputable def m__law_deck : List D → Sto → RE D := fnB 2 b__law_deck
noncomputable def b__law_draw : MS := seqS (setS (binE addD (binE ixD (varE 0) (conE (.int 1))) (conE (.int 1))) (varE 0) (conE (.int 1))) (seqS (asgS (conE (.int 0)) (nameG 2)) (seqS (asgS (unE negD (conE (.int 1))) (nameG 3)) (seqS (ifS (testE (binE gtD (bltE lenD (consA (binE ixD (varE 0) (conE (.int 0))) nilA)) (conE (.int 0)))) (seqS (asgS (binE modD (binE ixD (varE 0) (conE (.int 1))) (bltE lenD (consA (binE ixD (varE 0) (conE (.int 0))) nilA))) (nameG 3)) (asgS (binE ixD (binE ixD (varE 0) (conE (.int 0))) (varE 3)) (nameG 2))) passS) (seqS (ifS (testE (binE geD (varE 2) (binE powD (conE (.int 10)) (conE (.int 18))))) (seqS (setS (binE divD (varE 2) (varE 1)) (binE ixD (varE 0) (conE (.int 0))) (varE 3)) (retS (binE modD (varE 2) (varE 1)))) passS) (retS (binE modD (binE modD (binE powD (binE addD (binE addD (binE modD (varE 2) (conE (.int 2147483587))) (binE mulD (conE (.int 7919)) (binE ixD (varE 0) (conE (.int 1))))) (conE (.int 1))) (conE (.int 5))) (conE (.int 2147483647))) (varE 1)))))))
noncomputable def m__law_draw : List D → Sto → RE D := fnB 4 b__law_draw
noncomputable def m__law_same : Nat → List D → Sto → RE D
  | 0 => fun _ _ => .bad
  | r + 1 => let again := m__law_same r
    fnB 4 (seqS (ifS (truE (bltE (isiD tab ins) (consA (varE 1) (consA (conE (.ty "tuple")) nilA)))) (seqS (ifS (orT (notT (truE (bltE (isiD tab ins) (consA (varE 0) (consA (conE (.ty "tuple")) nilA))))) (testE (binE neD (bltE lenD (consA (varE 0) nilA)) (bltE lenD (consA (varE 1) nilA))))) (retS (conE (.bl false))) passS) (retS (binE eqD (lcE (zpI (consA (varE 0) (consA (varE 1) nilA))) [2, 3] (tupG 2 (consG (nameG 2) (consG (nameG 3) nilG))) (notT (truE (callE 2 [] again (consA (varE 2) (consA (varE 3) nilA))))) (conE (.int 1))) (lstE nilA)))) passS) (seqS (ifS (testE (binE (isD false) (varE 1) (conE .non))) (retS (binE (isD false) (varE 0) (conE .non))) passS) (seqS (ifS (truE (bltE (isiD tab ins) (consA (varE 1) (consA (conE (.ty "str")) nilA)))) (retS (andE (bltE (isiD tab ins) (consA (varE 0) (consA (conE (.ty "str")) nilA))) (binE eqD (varE 0) (varE 1)))) passS) (retS (andE (bltE (isiD tab ins) (consA (varE 0) (consA (conE (.ty "int")) nilA))) (andE (binE eqD (bltE (isiD tab ins) (consA (varE 0) (consA (conE (.ty "bool")) nilA))) (bltE (isiD tab ins) (consA (varE 1) (consA (conE (.ty "bool")) nilA)))) (binE eqD (varE 0) (varE 1))))))))
noncomputable def b__law_state : MS := seqS (asgS (tupE (consA (binE ixD (lstE (consA (conE (.int 4)) (consA (conE (.int 12)) (consA (binE powD (conE (.int 10)) (conE (.int 6))) nilA)))) (callE 2 [] m__law_draw (consA (varE 0) (consA (conE (.int 3)) nilA)))) (consA (refE nilA) nilA))) (tupG 2 (consG (nameG 3) (consG (nameG 4) nilG)))) (seqS (asgS (bltE tupleD (consA (lcE (rg1I (consA (binE addD (conE (.int 1)) (callE 2 [] m__law_draw (consA (varE 0) (consA (varE 1) nilA)))) nilA)) [6] (nameG 6) noT (binE addD (conE (.int 1)) (callE 2 [] m__law_draw (consA (varE 0) (consA (varE 3) nilA))))) nilA)) (nameG 5)) (seqS (forS (rg1I (consA (callE 2 [] m__law_draw (consA (varE 0) (consA (binE addD (varE 2) (conE (.int 1))) nilA))) nilA)) (nameG 6) (seqS (asgS (binE ixD (varE 5) (callE 2 [] m__law_draw (consA (varE 0) (consA (bltE lenD (consA (varE 5) nilA)) nilA)))) (nameG 7)) (seqS (asgS (bltE max2D (consA (conE (.int 1)) (consA (bltE min2D (consA (binE powD (conE (.int 10)) (conE (.int 6))) (consA (binE subD (binE addD (varE 7) (callE 2 [] m__law_draw (consA (varE 0) (consA (conE (.int 3)) nilA)))) (conE (.int 1))) nilA))) nilA))) (nameG 8)) (exprS (methE "list" (lmD appK) (varE 4) (consA (binE ixD (lstE (consA (binE addD (conE (.int 1)) (callE 2 [] m__law_draw (consA (varE 0) (consA (varE 3) nilA)))) (consA (varE 8) nilA))) (callE 2 [] m__law_draw (consA (varE 0) (consA (conE (.int 2)) nilA)))) nilA)))))) (retS (tupE (consA (varE 5) (consA (bltE tupleD (consA (varE 4) nilA)) nilA))))))
noncomputable def m__law_state : List D → Sto → RE D := fnB 9 b__law_state
noncomputable def b__law_hall_text : MS := seqS (asgS (lcE (tpI (varE 0)) [3] (nameG 3) noT (methE "str" joinD (conE (.str ",")) (consA (lcE (tpI (varE 3)) [4] (nameG 4) noT (bltE strD (consA (varE 4) nilA))) nilA))) (tupG 2 (consG (nameG 1) (consG (nameG 2) nilG)))) (retS (binE addD (binE addD (varE 1) (conE (.str " / "))) (ifE (testE (binE neD (varE 2) (conE (.str "")))) (varE 2) (conE (.str "-")))))
noncomputable def m__law_hall_text : List D → Sto → RE D := fnB 5 b__law_hall_text
noncomputable def b__law_odd : MS := seqS (asgS (lstE (consA (conE .non) (consA (conE (.bl true)) (consA (conE (.bl false)) (consA (conE (.int 0)) (consA (unE negD (conE (.int 1))) (consA (binE powD (conE (.int 10)) (conE (.int 29))) (consA (tupE nilA) (consA (lstE nilA) (consA (conE .emp) (consA (tupE (consA (conE (.int 0)) (consA (conE (.int 0)) nilA))) (consA (lstE (consA (conE (.str "7 / -")) nilA)) (consA (tupE (consA (tupE (consA (conE (.int 7)) nilA)) (consA (tupE nilA) nilA))) nilA))))))))))))) (nameG 1)) (retS (binE ixD (varE 1) (callE 2 [] m__law_draw (consA (varE 0) (consA (conE (.int 12)) nilA)))))
noncomputable def m__law_odd : List D → Sto → RE D := fnB 2 b__law_odd
noncomputable def b__law_bent : MS := seqS (asgS (methE "str" splitD (varE 1) (consA (conE (.str " ")) nilA)) (nameG 2)) (seqS (asgS (callE 2 [] m__law_draw (consA (varE 0) (consA (bltE lenD (consA (varE 2) nilA)) nilA))) (nameG 3)) (seqS (asgS (callE 2 [] m__law_draw (consA (varE 0) (consA (conE (.int 6)) nilA))) (nameG 4)) (seqS (ifS (testE (binE eqD (varE 4) (conE (.int 0)))) (retS (methE "str" joinD (conE (.str " ")) (consA (binE addD (binE addD (slE (varE 2) noO (someO (varE 3))) (slE (varE 2) (someO (varE 3)) (someO (binE addD (varE 3) (conE (.int 1)))))) (slE (varE 2) (someO (varE 3)) noO)) nilA))) passS) (seqS (ifS (testE (binE eqD (varE 4) (conE (.int 1)))) (retS (methE "str" joinD (conE (.str " ")) (consA (binE addD (slE (varE 2) (someO (varE 3)) noO) (slE (varE 2) noO (someO (varE 3)))) nilA))) passS) (seqS (ifS (testE (binE eqD (varE 4) (conE (.int 2)))) (retS (methE "str" joinD (conE (.str " ")) (consA (binE addD (slE (varE 2) noO (someO (varE 3))) (slE (varE 2) (someO (binE addD (varE 3) (conE (.int 1)))) noO)) nilA))) passS) (seqS (ifS (testE (binE eqD (varE 4) (conE (.int 3)))) (retS (methE "str" joinD (conE (.str " ")) (consA (binE addD (varE 2) (slE (varE 2) (someO (varE 3)) noO)) nilA))) passS) (seqS (asgS (callE 2 [] m__law_draw (consA (varE 0) (consA (binE addD (bltE lenD (consA (varE 1) nilA)) (conE (.int 1))) nilA))) (nameG 5)) (seqS (asgS (binE ixD (lstE (consA (conE (.str "0")) (consA (conE (.str "1")) (consA (conE (.str "5")) (consA (conE (.str "9")) (consA (conE (.str "-")) (consA (conE (.str " ")) (consA (conE (.str "+")) (consA (conE (.str "_")) (consA (conE (.str ",")) (consA (conE (.str ":")) (consA (conE (.str "/")) (consA (conE (.str "x")) nilA))))))))))))) (callE 2 [] m__law_draw (consA (varE 0) (consA (conE (.int 12)) nilA)))) (nameG 6)) (retS (binE addD (binE addD (slE (varE 1) noO (someO (varE 5))) (binE mulD (varE 6) (callE 2 [] m__law_draw (consA (varE 0) (consA (conE (.int 2)) nilA))))) (slE (varE 1) (someO (binE addD (varE 5) (callE 2 [] m__law_draw (consA (varE 0) (consA (conE (.int 2)) nilA))))) noO)))))))))))
noncomputable def m__law_bent : List D → Sto → RE D := fnB 7 b__law_bent
noncomputable def b__law_sizes : MS := seqS (asgS (methE "str" splitD (varE 0) (consA (conE (.str ",")) nilA)) (nameG 1)) (seqS (forS (lsI (varE 1)) (nameG 2) (seqS (ifS (orT (notT (testE (chainE leD leD (conE (.int 1)) (bltE lenD (consA (varE 2) nilA)) (conE (.int 7))))) (testE (binE neD (lcE (chI (varE 2)) [3] (nameG 3) (testE (binE (inD true) (varE 3) (conE (.str "0123456789")))) (varE 3)) (lstE nilA)))) (retS (conE .non)) passS) (ifS (orT (testE (binE eqD (binE ixD (varE 2) (conE (.int 0))) (conE (.str "0")))) (testE (binE gtD (bltE intD (consA (varE 2) nilA)) (binE powD (conE (.int 10)) (conE (.int 6)))))) (retS (conE .non)) passS))) (retS (ifE (testE (binE leD (bltE lenD (consA (varE 1) nilA)) (conE (.int 20)))) (bltE tupleD (consA (lcE (lsI (varE 1)) [2] (nameG 2) noT (bltE intD (consA (varE 2) nilA))) nilA)) (conE .non))))
noncomputable def m__law_sizes : List D → Sto → RE D := fnB 4 b__law_sizes
noncomputable def b__law_part : MS := seqS (ifS (testE (binE eqD (varE 0) (conE (.int 0)))) (retS (callE 1 [] m__law_sizes (consA (varE 1) nilA))) passS) (seqS (ifS (testE (binE eqD (varE 0) (conE (.int 1)))) (retS (ifE (testE (binE eqD (varE 1) (conE (.str "/")))) (varE 1) (conE .non))) passS) (seqS (ifS (testE (binE eqD (varE 0) (conE (.int 2)))) (retS (ifE (testE (binE eqD (varE 1) (conE (.str "-")))) (tupE nilA) (callE 1 [] m__law_sizes (consA (varE 1) nilA)))) passS) (retS (conE .non))))
noncomputable def m__law_part : List D → Sto → RE D := fnB 2 b__law_part
noncomputable def b__law_due : MS := seqS (ifS (notT (truE (bltE (isiD tab ins) (consA (varE 0) (consA (conE (.ty "str")) nilA))))) (retS (tupE (consA (conE (.str "BadText")) (consA (conE .non) nilA)))) passS) (seqS (asgS (lcE (enI (consA (methE "str" splitD (varE 0) (consA (conE (.str " ")) nilA)) nilA)) [2, 3] (tupG 2 (consG (nameG 2) (consG (nameG 3) nilG))) noT (callE 2 [] m__law_part (consA (varE 2) (consA (varE 3) nilA)))) (nameG 1)) (seqS (ifS (testE (binE (inD false) (conE .non) (varE 1))) (retS (tupE (consA (conE (.str "BadText")) (consA (methE "list" indexD (varE 1) (consA (conE .non) nilA)) nilA)))) passS) (retS (ifE (testE (binE eqD (bltE lenD (consA (varE 1) nilA)) (conE (.int 3)))) (tupE (consA (binE ixD (varE 1) (conE (.int 0))) (consA (binE ixD (varE 1) (conE (.int 2))) nilA))) (tupE (consA (conE (.str "BadText")) (consA (bltE lenD (consA (varE 1) nilA)) nilA)))))))
noncomputable def m__law_due : List D → Sto → RE D := fnB 4 b__law_due
noncomputable def b__law_told : MS := tryAsS (retS (callE 1 [] m_parse_hall (consA (varE 0) nilA))) (.own "BadText") xtab 1 (fun y => seqS (ifS (orT (notT (truE (isxE tab xcl y (conE (.glo "PartyError"))))) (truE (isxE tab xcl y (tupE (consA (conE (.glo "BadHall")) (consA (conE (.glo "BadSize")) (consA (conE (.ty "LookupError")) nilA))))))) (retS (conE (.str "other"))) passS) (retS (tupE (consA (conE (.str "BadText")) (consA (xfE (fun c => c == "BadText") "index" y) nilA)))))
noncomputable def m__law_told : List D → Sto → RE D := fnB 2 b__law_told
noncomputable def b_law : MS := seqS (asgS (callE 1 [] m__law_deck (consA (varE 0) nilA)) (nameG 1)) (seqS (asgS (lstE (consA (conE (.str "")) (consA (conE (.str " ")) (consA (conE (.str "/")) (consA (conE (.str "-")) (consA (conE (.str "7")) (consA (conE (.str "7 /")) (consA (conE (.str "7 / -")) (consA (conE (.str "7 / - ")) (consA (conE (.str "7 / - x")) (consA (conE (.str " 7 / -")) (consA (conE (.str "7  / -")) (consA (conE (.str "7 /  -")) (consA (conE (.str "7 / / -")) nilA)))))))))))))) (nameG 2)) (seqS (asgS (binE addD (varE 2) (lstE (consA (conE (.str "7 -")) (consA (conE (.str "- / 7")) (consA (conE (.str "- / -")) (consA (conE (.str "7 / 7,-")) (consA (conE (.str "7/-")) (consA (conE (.str "7 : -")) (consA (conE (.str "7 // -")) (consA (conE (.str "7 / --")) (consA (conE (.str "7 / -,")) (consA (conE (.str "/ 7 -")) nilA)))))))))))) (nameG 2)) (seqS (forS (lsI (lstE (consA (conE (.str "1")) (consA (conE (.str "0")) (consA (conE (.str "1000000")) (consA (conE (.str "1000001")) (consA (conE (.str "10000000")) (consA (conE (.str "01")) (consA (conE (.str "00")) (consA (conE (.str "+1")) (consA (conE (.str "-1")) (consA (conE (.str "1_0")) (consA (conE (.str "1,")) (consA (conE (.str ",1")) (consA (conE (.str ",")) (consA (conE (.str "1,,1")) nilA)))))))))))))))) (nameG 3) (seqS (asgS (binE addD (varE 2) (lstE (consA (varE 3) (consA (binE addD (varE 3) (conE (.str " / -"))) (consA (binE addD (varE 3) (conE (.str " / 5"))) (consA (binE addD (conE (.str "7 / ")) (varE 3)) (consA (binE addD (binE addD (conE (.str "7 / ")) (varE 3)) (conE (.str " 5"))) (consA (binE addD (varE 3) (conE (.str " - 5"))) nilA)))))))) (nameG 2)) (asgS (binE addD (varE 2) (lstE (consA (binE addD (binE addD (conE (.str "7,")) (varE 3)) (conE (.str " / -"))) (consA (binE addD (conE (.str "7 / 7,")) (varE 3)) (consA (binE addD (binE addD (varE 3) (conE (.str " / "))) (varE 3)) (consA (binE addD (binE addD (conE (.str "7 ")) (varE 3)) (conE (.str " 5"))) nilA)))))) (nameG 2)))) (seqS (forS (lsI (lstE (consA (conE (.int 19)) (consA (conE (.int 20)) (consA (conE (.int 21)) (consA (conE (.int 22)) nilA)))))) (nameG 4) (seqS (asgS (methE "str" joinD (conE (.str ",")) (consA (binE mulD (lstE (consA (conE (.str "3")) nilA)) (varE 4)) nilA)) (nameG 5)) (asgS (binE addD (varE 2) (lstE (consA (varE 5) (consA (binE addD (varE 5) (conE (.str " / -"))) (consA (binE addD (conE (.str "7 / ")) (varE 5)) (consA (binE addD (binE addD (varE 5) (conE (.str " / "))) (varE 5)) nilA)))))) (nameG 2)))) (seqS (forS (rg1I (consA (conE (.int 4)) nilA)) (nameG 6) (seqS (asgS (callE 1 [] m__law_hall_text (consA (callE 3 [] m__law_state (consA (varE 1) (consA (conE (.int 20)) (consA (conE (.int 20)) nilA)))) nilA)) (nameG 5)) (seqS (forS (rg1I (consA (conE (.int 8)) nilA)) (nameG 7) (asgS (binE addD (varE 2) (lstE (consA (callE 2 [] m__law_bent (consA (varE 1) (consA (varE 5) nilA))) (consA (callE 2 [] m__law_bent (consA (varE 1) (consA (callE 2 [] m__law_bent (consA (varE 1) (consA (varE 5) nilA))) nilA))) nilA)))) (nameG 2))) (asgS (binE addD (varE 2) (lstE (consA (varE 5) (consA (lstE (consA (varE 5) nilA)) (consA (callE 1 [] m__law_odd (consA (varE 1) nilA)) nilA))))) (nameG 2))))) (seqS (forS (lsI (binE addD (varE 2) (lstE (consA (conE .non) (consA (conE (.int 3)) (consA (conE (.bl true)) (consA (tupE (consA (tupE (consA (conE (.int 7)) nilA)) (consA (tupE nilA) nilA))) (consA (conE (.str "7 / -\n")) (consA (conE (.str "7\n/ -")) (consA (conE (.str "7 /\n-")) nilA)))))))))) (nameG 8) (seqS (asgS (bltE reprD (consA (varE 8) nilA)) (nameG 9)) (ifS (orT (notT (truE (callE 2 [] (m__law_same 4) (consA (callE 1 [] m__law_told (consA (varE 8) nilA)) (consA (callE 1 [] m__law_due (consA (varE 8) nilA)) nilA))))) (testE (binE neD (bltE reprD (consA (varE 8) nilA)) (varE 9)))) (retS (conE (.bl false))) passS))) (retS (conE (.bl true)))))))))
noncomputable def m_law : List D → Sto → RE D := fnB 10 b_law
/-! ### the walk -/
section
variable {P : Program} {w : World} {K : PySem.W.Frag} {mg : Str → Option Value} {base : Heap}
abbrev TT (K : PySem.W.Frag) (mg : Str → Option Value) : Prop := Top fas fns exs K mg
theorem sy_of (t : TT K mg) : SysK K := sysB_ok (He.ba t.extra).1
theorem kt_of (t : TT K mg) : KitOk K tab := kitT_ok (He.ba (He.ba t.extra).2).1
theorem xt_of (t : TT K mg) : ExmOk K xtab := exmT_ok (He.ba (He.ba (He.ba t.extra).2).2).1
theorem mk_of (t : TT K mg) {c f : Str} (h : (c, f) ∈ mks) : MkF K c f := mkfB_ok (List.all_eq_true.mp (He.ba (He.ba (He.ba t.extra).2).2).2 _ h)
theorem ci : ∀ c, ins c = true → InsC K (He.ga K c) := fun _ h => by cases h
theorem mk_BadText (t : TT K mg) : MkF K "BadText" "index" := mk_of t (by decide)
theorem FI_BadText (t : TT K mg) : FnOk P w K mg base CX0 1 (He.fAd K ("BadText", some "__init__")) (t.defn (d := d_BadText_ini) 23).choose ["self", "index"] (spIni (He.ga K "BadText") "index") := ok_ini (t.defn (d := d_BadText_ini) 23).choose_spec ⟨rfl, rfl, rfl, by decide +kernel, rfl, by decide +kernel, by decide +kernel⟩ (mk_BadText t).ox (mk_BadText t).no rfl (by decide) (by decide) rfl rfl
theorem BI_BadText (t : TT K mg) : L2.Binds K (t.defn (d := d_BadText_ini) 23).choose ["self", "index"] [] := FunD.bindsN (t.defn (d := d_BadText_ini) 23).choose_spec fun _ _ _ _ _ _ us hl => match us, hl with | [_, _], _ => rfl
theorem xf_BadText (t : TT K mg) : ∀ c : Str, (c == "BadText") = true → XfC K (He.ga K c) ∧ PySem.W.findIn K (.ref (He.ga K c)) "index" = some none := fun c h => by have := eq_of_beq h; subst this; exact ⟨(mk_BadText t).xc.xf, (mk_BadText t).no⟩
theorem xc_of (t : TT K mg) : ∀ c, xcl c = true → XcC K (He.ga K c) := fun c h => by
  simp only [xcl, List.contains_cons, List.contains_nil, Bool.or_false, Bool.or_eq_true, beq_iff_eq] at h
  rcases h with rfl
  · exact (mk_BadText t).xc
theorem sc_is_number : FnScope ["value", "low", "high"] ["value", "low", "high"] (defScope s_is_number) := ⟨rfl, rfl, rfl, by decide +kernel, rfl, by decide +kernel, by decide +kernel⟩
theorem ok_is_number (t : TT K mg) : FnM P w K mg base 1 (He.fAd K ("is_number", none)) 3 [] m_is_number := by
  have sy := sy_of t; have kt := kt_of t; have xt := xt_of t; have xc := xc_of t
  refine fnM_mk (N := ["value", "low", "high"]) (ps := ["value", "low", "high"]) (t.defn 0) sc_is_number rfl (fun _ _ _ _ _ _ us hl => match us, hl with | [_, _, _], _ => rfl) fun cdv A outer s H E hr hg => ?_
  have nd := (sc_is_number).nd
  have tk := takes_of (X := cxOf (L2.CX P w) P w K mg base ["value", "low", "high"] "is_number" (defScope s_is_number) (He.fAd K ("is_number", none)) cdv A outer s H E) (E := E) rfl rfl rfl rfl
  have hp := passes_of (X := cxOf (L2.CX P w) P w K mg base ["value", "low", "high"] "is_number" (defScope s_is_number) (He.fAd K ("is_number", none)) cdv A outer s H E) rfl
  exact dss_one (ds_ret (de_and (de_blt (cd_isi kt ci) (t.free "isinstance" 1) (by decide +kernel) (da_cons (de_var 0) (da_cons (de_ty (n := "int") (by decide +kernel) (t.free "int" 0)) da_nil))) (de_and (de_not (de_blt (cd_isi kt ci) (t.free "isinstance" 1) (by decide +kernel) (da_cons (de_var 0) (da_cons (de_ty (n := "bool") (by decide +kernel) (t.free "bool" 2)) da_nil)))) (de_one (de_chain od_le od_le (de_var 1) (de_var 0) (de_var 2))))))
theorem sc_is_size : FnScope ["value"] ["value"] (defScope s_is_size) := ⟨rfl, rfl, rfl, by decide +kernel, rfl, by decide +kernel, by decide +kernel⟩
theorem ok_is_size (t : TT K mg) : FnM P w K mg base 2 (He.fAd K ("is_size", none)) 1 [] m_is_size := by
  have F_is_number := ok_is_number (P := P) (w := w) (base := base) t
  have sy := sy_of t; have kt := kt_of t; have xt := xt_of t; have xc := xc_of t
  refine fnM_mk (N := ["value"]) (ps := ["value"]) (t.defn 1) sc_is_size rfl (fun _ _ _ _ _ _ us hl => match us, hl with | [_], _ => rfl) fun cdv A outer s H E hr hg => ?_
  have nd := (sc_is_size).nd
  have tk := takes_of (X := cxOf (L2.CX P w) P w K mg base ["value"] "is_size" (defScope s_is_size) (He.fAd K ("is_size", none)) cdv A outer s H E) (E := E) rfl rfl rfl rfl
  have hp := passes_of (X := cxOf (L2.CX P w) P w K mg base ["value"] "is_size" (defScope s_is_size) (He.fAd K ("is_size", none)) cdv A outer s H E) rfl
  exact dss_one (ds_ret (de_call (F_is_number) hr hg (by omega) (t.glo "is_number" 4) tk (da_cons (de_var 0) (da_cons de_int (da_cons (de_gl (t.int "MAX_SIZE" 1000000 3)) da_nil)))))
theorem sc_first_wrong : FnScope ["values", "place", "value"] ["values"] (defScope s_first_wrong) := ⟨rfl, rfl, rfl, by decide +kernel, rfl, by decide +kernel, by decide +kernel⟩
theorem ok_first_wrong (t : TT K mg) : FnM P w K mg base 3 (He.fAd K ("first_wrong", none)) 1 [] m_first_wrong := by
  have F_is_size := ok_is_size (P := P) (w := w) (base := base) t
  have sy := sy_of t; have kt := kt_of t; have xt := xt_of t; have xc := xc_of t
  refine fnM_mk (N := ["values", "place", "value"]) (ps := ["values"]) (t.defn 2) sc_first_wrong rfl (fun _ _ _ _ _ _ us hl => match us, hl with | [_], _ => rfl) fun cdv A outer s H E hr hg => ?_
  have nd := (sc_first_wrong).nd
  have tk := takes_of (X := cxOf (L2.CX P w) P w K mg base ["values", "place", "value"] "first_wrong" (defScope s_first_wrong) (He.fAd K ("first_wrong", none)) cdv A outer s H E) (E := E) rfl rfl rfl rfl
  have hp := passes_of (X := cxOf (L2.CX P w) P w K mg base ["values", "place", "value"] "first_wrong" (defScope s_first_wrong) (He.fAd K ("first_wrong", none)) cdv A outer s H E) rfl
  exact dss_cons (ds_for (di_enum (da_cons (de_var 0) da_nil) (t.free "enumerate" 5)) (dg_tup rfl (dgs_cons (dg_name 1 nd) (dgs_cons (dg_name 2 nd) dgs_nil))) (dss_one (ds_if (dt_not (dt_truth (de_call (F_is_size) hr hg (by omega) (t.glo "is_size" 6) tk (da_cons (de_var 2) da_nil)))) (dss_one (ds_ret (de_var 1))) dss_nil)) rfl hp) (dss_one (ds_ret de_non))
theorem sc_hall_error : FnScope ["value", "feet", "pairs", "guest", "pair"] ["value"] (defScope s_hall_error) := ⟨rfl, rfl, rfl, by decide +kernel, rfl, by decide +kernel, by decide +kernel⟩
theorem ok_hall_error (t : TT K mg) : FnM P w K mg base 4 (He.fAd K ("hall_error", none)) 1 [] m_hall_error := by
  have F_first_wrong := ok_first_wrong (P := P) (w := w) (base := base) t
  have sy := sy_of t; have kt := kt_of t; have xt := xt_of t; have xc := xc_of t
  refine fnM_mk (N := ["value", "feet", "pairs", "guest", "pair"]) (ps := ["value"]) (t.defn 3) sc_hall_error rfl (fun _ _ _ _ _ _ us hl => match us, hl with | [_], _ => rfl) fun cdv A outer s H E hr hg => ?_
  have nd := (sc_hall_error).nd
  have tk := takes_of (X := cxOf (L2.CX P w) P w K mg base ["value", "feet", "pairs", "guest", "pair"] "hall_error" (defScope s_hall_error) (He.fAd K ("hall_error", none)) cdv A outer s H E) (E := E) rfl rfl rfl rfl
  have hp := passes_of (X := cxOf (L2.CX P w) P w K mg base ["value", "feet", "pairs", "guest", "pair"] "hall_error" (defScope s_hall_error) (He.fAd K ("hall_error", none)) cdv A outer s H E) rfl
  exact dss_cons (ds_if (dt_bool (dw_or (dt_not (dt_truth (de_blt (cd_isi kt ci) (t.free "isinstance" 1) (by decide +kernel) (da_cons (de_var 0) (da_cons (de_ty (n := "tuple") (by decide +kernel) (t.free "tuple" 7)) da_nil))))) (dw_or1 (dt_cmp (od_ne sy (u16 hr)) (de_blt cd_len (t.free "len" 8) (by decide +kernel) (da_cons (de_var 0) da_nil)) de_int)))) (dss_one (ds_ret (de_tup (da_cons de_non (da_cons de_str da_nil))))) dss_nil) (dss_cons (ds_asg (de_var 0) (dg_tup rfl (dgs_cons (dg_name 1 nd) (dgs_cons (dg_name 2 nd) dgs_nil)))) (dss_cons (ds_if (dt_bool (dw_or (dt_not (dt_truth (de_blt (cd_isi kt ci) (t.free "isinstance" 1) (by decide +kernel) (da_cons (de_var 1) (da_cons (de_ty (n := "tuple") (by decide +kernel) (t.free "tuple" 7)) da_nil))))) (dw_or1 (dt_not (dt_chain od_le od_le de_int (de_blt cd_len (t.free "len" 8) (by decide +kernel) (da_cons (de_var 1) da_nil)) (de_gl (t.int "MAX_GUESTS" 20 9))))))) (dss_one (ds_ret (de_tup (da_cons de_non (da_cons de_str da_nil))))) dss_nil) (dss_cons (ds_ifNN 3 nd (de_call (F_first_wrong) hr hg (by omega) (t.glo "first_wrong" 10) tk (da_cons (de_var 1) da_nil)) (dss_one (ds_ret (de_tup (da_cons (de_var 3) (da_cons de_str da_nil))))) dss_nil) (dss_cons (ds_if (dt_bool (dw_or (dt_not (dt_truth (de_blt (cd_isi kt ci) (t.free "isinstance" 1) (by decide +kernel) (da_cons (de_var 2) (da_cons (de_ty (n := "tuple") (by decide +kernel) (t.free "tuple" 7)) da_nil))))) (dw_or1 (dt_cmp od_gt (de_blt cd_len (t.free "len" 8) (by decide +kernel) (da_cons (de_var 2) da_nil)) (de_gl (t.int "MAX_PAIRS" 20 11)))))) (dss_one (ds_ret (de_tup (da_cons de_non (da_cons de_str da_nil))))) dss_nil) (dss_cons (ds_asg (de_call (F_first_wrong) hr hg (by omega) (t.glo "first_wrong" 10) tk (da_cons (de_var 2) da_nil)) (dg_name 4 nd)) (dss_one (ds_ret (de_if (dt_cmp od_is (de_var 4) de_non) de_non (de_tup (da_cons (de_var 4) (da_cons de_str da_nil)))))))))))
theorem sc_is_hall : FnScope ["value"] ["value"] (defScope s_is_hall) := ⟨rfl, rfl, rfl, by decide +kernel, rfl, by decide +kernel, by decide +kernel⟩
theorem ok_is_hall (t : TT K mg) : FnM P w K mg base 5 (He.fAd K ("is_hall", none)) 1 [] m_is_hall := by
  have F_hall_error := ok_hall_error (P := P) (w := w) (base := base) t
  have sy := sy_of t; have kt := kt_of t; have xt := xt_of t; have xc := xc_of t
  refine fnM_mk (N := ["value"]) (ps := ["value"]) (t.defn 4) sc_is_hall rfl (fun _ _ _ _ _ _ us hl => match us, hl with | [_], _ => rfl) fun cdv A outer s H E hr hg => ?_
  have nd := (sc_is_hall).nd
  have tk := takes_of (X := cxOf (L2.CX P w) P w K mg base ["value"] "is_hall" (defScope s_is_hall) (He.fAd K ("is_hall", none)) cdv A outer s H E) (E := E) rfl rfl rfl rfl
  have hp := passes_of (X := cxOf (L2.CX P w) P w K mg base ["value"] "is_hall" (defScope s_is_hall) (He.fAd K ("is_hall", none)) cdv A outer s H E) rfl
  exact dss_one (ds_ret (de_cmp od_is (de_call (F_hall_error) hr hg (by omega) (t.glo "hall_error" 12) tk (da_cons (de_var 0) da_nil)) de_non))
theorem sc_parse_number : FnScope ["word", "figure"] ["word"] (defScope s_parse_number) := ⟨rfl, rfl, rfl, by decide +kernel, rfl, by decide +kernel, by decide +kernel⟩
theorem ok_parse_number (t : TT K mg) : FnM P w K mg base 1 (He.fAd K ("parse_number", none)) 1 [] m_parse_number := by
  have sy := sy_of t; have kt := kt_of t; have xt := xt_of t; have xc := xc_of t
  refine fnM_mk (N := ["word", "figure"]) (ps := ["word"]) (t.defn 5) sc_parse_number rfl (fun _ _ _ _ _ _ us hl => match us, hl with | [_], _ => rfl) fun cdv A outer s H E hr hg => ?_
  have nd := (sc_parse_number).nd
  have tk := takes_of (X := cxOf (L2.CX P w) P w K mg base ["word", "figure"] "parse_number" (defScope s_parse_number) (He.fAd K ("parse_number", none)) cdv A outer s H E) (E := E) rfl rfl rfl rfl
  have hp := passes_of (X := cxOf (L2.CX P w) P w K mg base ["word", "figure"] "parse_number" (defScope s_parse_number) (He.fAd K ("parse_number", none)) cdv A outer s H E) rfl
  exact dss_cons (ds_if (dt_bool (dw_or (dt_not (dt_chain od_le od_le de_int (de_blt cd_len (t.free "len" 8) (by decide +kernel) (da_cons (de_var 0) da_nil)) (de_gl (t.int "LONGEST" 8 13)))) (dw_or1 (dt_not (dt_truth (de_blt (cd_all rfl) (t.free "all" 15) (by decide +kernel) (da_cons (de_lc (own := ([("figure", 1)] : List (Str × Nat))) { calm := rfl, nd := nd, ok := blkOk_by rfl, it := di_chr (de_var 0), tg := fun _ _ _ _ _ _ => dg_name 1 nd (hfr := blk_fr rfl), ts := fun _ _ _ _ _ _ => (dts_nil), el := fun _ _ _ _ _ _ => (de_cmp (od_in sy (u32 hr)) (de_var 1) (de_gl (t.str "FIGURES" "0123456789" 14))), fs := fun _ => rfl }) da_nil))))))) (dss_one (ds_ret de_non)) dss_nil) (dss_one (ds_ret (de_if (dt_bool (dw_and (dt_cmp (od_eq sy (u16 hr)) (de_ix (de_var 0) de_int) de_str) (dw_and1 (dt_cmp (od_ne sy (u16 hr)) (de_var 0) de_str)))) de_non (de_bty cd_int (t.free "int" 0) (by decide +kernel) (da_cons (de_var 0) da_nil)))))
theorem sc_parse_numbers : FnScope ["word", "numbers", "part"] ["word"] (defScope s_parse_numbers) := ⟨rfl, rfl, rfl, by decide +kernel, rfl, by decide +kernel, by decide +kernel⟩
theorem ok_parse_numbers (t : TT K mg) : FnM P w K mg base 2 (He.fAd K ("parse_numbers", none)) 1 [] m_parse_numbers := by
  have F_parse_number := ok_parse_number (P := P) (w := w) (base := base) t
  have sy := sy_of t; have kt := kt_of t; have xt := xt_of t; have xc := xc_of t
  refine fnM_mk (N := ["word", "numbers", "part"]) (ps := ["word"]) (t.defn 6) sc_parse_numbers rfl (fun _ _ _ _ _ _ us hl => match us, hl with | [_], _ => rfl) fun cdv A outer s H E hr hg => ?_
  have nd := (sc_parse_numbers).nd
  have tk := takes_of (X := cxOf (L2.CX P w) P w K mg base ["word", "numbers", "part"] "parse_numbers" (defScope s_parse_numbers) (He.fAd K ("parse_numbers", none)) cdv A outer s H E) (E := E) rfl rfl rfl rfl
  have hp := passes_of (X := cxOf (L2.CX P w) P w K mg base ["word", "numbers", "part"] "parse_numbers" (defScope s_parse_numbers) (He.fAd K ("parse_numbers", none)) cdv A outer s H E) rfl
  exact dss_cons (ds_asg (de_bty cd_tuple (t.free "tuple" 7) (by decide +kernel) (da_cons (de_lc (own := ([("part", 2)] : List (Str × Nat))) { calm := rfl, nd := nd, ok := blkOk_by rfl, it := di_lst (de_bm PySem.F.plainAttrs_str PySem.F.slot_str_split PySem.F.type_str_split md_split split_noexc (de_var 0) (da_cons (de_gl (t.str "COMMA" "," 16)) da_nil)), tg := fun _ _ _ _ _ _ => dg_name 2 nd (hfr := blk_fr rfl), ts := fun _ _ _ _ _ _ => (dts_nil), el := fun _ _ _ _ _ _ => (de_call (F_parse_number) hr hg (by omega) (t.glo "parse_number" 17) takesW (da_cons (de_var 2) da_nil)), fs := fun _ => rfl }) da_nil)) (dg_name 1 nd)) (dss_one (ds_ret (de_if (dt_cmp (od_in sy (u32 hr)) de_non (de_var 1)) de_non (de_var 1))))
theorem sc_parse_feet : FnScope ["word", "numbers"] ["word"] (defScope s_parse_feet) := ⟨rfl, rfl, rfl, by decide +kernel, rfl, by decide +kernel, by decide +kernel⟩
theorem ok_parse_feet (t : TT K mg) : FnM P w K mg base 6 (He.fAd K ("parse_feet", none)) 1 [] m_parse_feet := by
  have F_is_hall := ok_is_hall (P := P) (w := w) (base := base) t
  have F_parse_numbers := ok_parse_numbers (P := P) (w := w) (base := base) t
  have sy := sy_of t; have kt := kt_of t; have xt := xt_of t; have xc := xc_of t
  refine fnM_mk (N := ["word", "numbers"]) (ps := ["word"]) (t.defn 7) sc_parse_feet rfl (fun _ _ _ _ _ _ us hl => match us, hl with | [_], _ => rfl) fun cdv A outer s H E hr hg => ?_
  have nd := (sc_parse_feet).nd
  have tk := takes_of (X := cxOf (L2.CX P w) P w K mg base ["word", "numbers"] "parse_feet" (defScope s_parse_feet) (He.fAd K ("parse_feet", none)) cdv A outer s H E) (E := E) rfl rfl rfl rfl
  have hp := passes_of (X := cxOf (L2.CX P w) P w K mg base ["word", "numbers"] "parse_feet" (defScope s_parse_feet) (He.fAd K ("parse_feet", none)) cdv A outer s H E) rfl
  exact dss_cons (ds_asg (de_call (F_parse_numbers) hr hg (by omega) (t.glo "parse_numbers" 18) tk (da_cons (de_var 0) da_nil)) (dg_name 1 nd)) (dss_one (ds_ret (de_if (dt_bool (dw_and (dt_cmp od_isNot (de_var 1) de_non) (dw_and1 (dt_truth (de_call (F_is_hall) hr hg (by omega) (t.glo "is_hall" 19) tk (da_cons (de_tup (da_cons (de_var 1) (da_cons (de_tup da_nil) da_nil))) da_nil)))))) (de_var 1) de_non)))
theorem sc_parse_pairs : FnScope ["word", "numbers"] ["word"] (defScope s_parse_pairs) := ⟨rfl, rfl, rfl, by decide +kernel, rfl, by decide +kernel, by decide +kernel⟩
theorem ok_parse_pairs (t : TT K mg) : FnM P w K mg base 6 (He.fAd K ("parse_pairs", none)) 1 [] m_parse_pairs := by
  have F_is_hall := ok_is_hall (P := P) (w := w) (base := base) t
  have F_parse_numbers := ok_parse_numbers (P := P) (w := w) (base := base) t
  have sy := sy_of t; have kt := kt_of t; have xt := xt_of t; have xc := xc_of t
  refine fnM_mk (N := ["word", "numbers"]) (ps := ["word"]) (t.defn 8) sc_parse_pairs rfl (fun _ _ _ _ _ _ us hl => match us, hl with | [_], _ => rfl) fun cdv A outer s H E hr hg => ?_
  have nd := (sc_parse_pairs).nd
  have tk := takes_of (X := cxOf (L2.CX P w) P w K mg base ["word", "numbers"] "parse_pairs" (defScope s_parse_pairs) (He.fAd K ("parse_pairs", none)) cdv A outer s H E) (E := E) rfl rfl rfl rfl
  have hp := passes_of (X := cxOf (L2.CX P w) P w K mg base ["word", "numbers"] "parse_pairs" (defScope s_parse_pairs) (He.fAd K ("parse_pairs", none)) cdv A outer s H E) rfl
  exact dss_cons (ds_if (dt_cmp (od_eq sy (u16 hr)) (de_var 0) (de_gl (t.str "NO_PAIRS" "-" 20))) (dss_one (ds_ret (de_tup da_nil))) dss_nil) (dss_cons (ds_asg (de_call (F_parse_numbers) hr hg (by omega) (t.glo "parse_numbers" 18) tk (da_cons (de_var 0) da_nil)) (dg_name 1 nd)) (dss_one (ds_ret (de_if (dt_bool (dw_and (dt_cmp od_isNot (de_var 1) de_non) (dw_and1 (dt_truth (de_call (F_is_hall) hr hg (by omega) (t.glo "is_hall" 19) tk (da_cons (de_tup (da_cons (de_tup (da_cons de_int da_nil)) (da_cons (de_var 1) da_nil))) da_nil)))))) (de_var 1) de_non))))
theorem sc_parse_part : FnScope ["index", "word"] ["index", "word"] (defScope s_parse_part) := ⟨rfl, rfl, rfl, by decide +kernel, rfl, by decide +kernel, by decide +kernel⟩
theorem ok_parse_part (t : TT K mg) : FnM P w K mg base 7 (He.fAd K ("parse_part", none)) 2 [] m_parse_part := by
  have F_parse_feet := ok_parse_feet (P := P) (w := w) (base := base) t
  have F_parse_pairs := ok_parse_pairs (P := P) (w := w) (base := base) t
  have sy := sy_of t; have kt := kt_of t; have xt := xt_of t; have xc := xc_of t
  refine fnM_mk (N := ["index", "word"]) (ps := ["index", "word"]) (t.defn 9) sc_parse_part rfl (fun _ _ _ _ _ _ us hl => match us, hl with | [_, _], _ => rfl) fun cdv A outer s H E hr hg => ?_
  have nd := (sc_parse_part).nd
  have tk := takes_of (X := cxOf (L2.CX P w) P w K mg base ["index", "word"] "parse_part" (defScope s_parse_part) (He.fAd K ("parse_part", none)) cdv A outer s H E) (E := E) rfl rfl rfl rfl
  have hp := passes_of (X := cxOf (L2.CX P w) P w K mg base ["index", "word"] "parse_part" (defScope s_parse_part) (He.fAd K ("parse_part", none)) cdv A outer s H E) rfl
  exact dss_cons (ds_if (dt_cmp (od_eq sy (u16 hr)) (de_var 0) de_int) (dss_one (ds_ret (de_call (F_parse_feet) hr hg (by omega) (t.glo "parse_feet" 21) tk (da_cons (de_var 1) da_nil)))) dss_nil) (dss_cons (ds_if (dt_cmp (od_eq sy (u16 hr)) (de_var 0) de_int) (dss_one (ds_ret (de_if (dt_cmp (od_eq sy (u16 hr)) (de_var 1) (de_gl (t.str "MIDDLE" "/" 22))) (de_gl (t.str "MIDDLE" "/" 22)) de_non))) dss_nil) (dss_one (ds_ret (de_if (dt_cmp od_lt (de_var 0) (de_gl (t.int "MANY_WORDS" 3 23))) (de_call (F_parse_pairs) hr hg (by omega) (t.glo "parse_pairs" 24) tk (da_cons (de_var 1) da_nil)) de_non))))
theorem sc_parse_hall : FnScope ["value", "parts", "index", "word", "part", "feet", "middle", "pairs"] ["value"] (defScope s_parse_hall) := ⟨rfl, rfl, rfl, by decide +kernel, rfl, by decide +kernel, by decide +kernel⟩
theorem ok_parse_hall (t : TT K mg) : FnM P w K mg base 9 (He.fAd K ("parse_hall", none)) 1 [] m_parse_hall := by
  have F_parse_part := ok_parse_part (P := P) (w := w) (base := base) t
  have sy := sy_of t; have kt := kt_of t; have xt := xt_of t; have xc := xc_of t
  refine fnM_mk (N := ["value", "parts", "index", "word", "part", "feet", "middle", "pairs"]) (ps := ["value"]) (t.defn 10) sc_parse_hall rfl (fun _ _ _ _ _ _ us hl => match us, hl with | [_], _ => rfl) fun cdv A outer s H E hr hg => ?_
  have nd := (sc_parse_hall).nd
  have tk := takes_of (X := cxOf (L2.CX P w) P w K mg base ["value", "parts", "index", "word", "part", "feet", "middle", "pairs"] "parse_hall" (defScope s_parse_hall) (He.fAd K ("parse_hall", none)) cdv A outer s H E) (E := E) rfl rfl rfl rfl
  have hp := passes_of (X := cxOf (L2.CX P w) P w K mg base ["value", "parts", "index", "word", "part", "feet", "middle", "pairs"] "parse_hall" (defScope s_parse_hall) (He.fAd K ("parse_hall", none)) cdv A outer s H E) rfl
  exact dss_cons (ds_if (dt_not (dt_truth (de_blt (cd_isi kt ci) (t.free "isinstance" 1) (by decide +kernel) (da_cons (de_var 0) (da_cons (de_ty (n := "str") (by decide +kernel) (t.free "str" 25)) da_nil))))) (dss_one (ds_raise (dx_mkf (mk_BadText t).ox (mk_BadText t).ini (mk_BadText t).ty (FI_BadText t) (hr.mono (by omega)) (BI_BadText t) (t.glo "BadText" 26) de_non) tk)) dss_nil) (dss_cons (ds_asg (de_ref da_nil) (dg_name 1 nd)) (dss_cons (ds_for (di_enum (da_cons (de_bm PySem.F.plainAttrs_str PySem.F.slot_str_split PySem.F.type_str_split md_split split_noexc (de_var 0) (da_cons de_str da_nil)) da_nil) (t.free "enumerate" 5)) (dg_tup rfl (dgs_cons (dg_name 2 nd) (dgs_cons (dg_name 3 nd) dgs_nil))) (dss_cons (ds_asg (de_call (F_parse_part) hr hg (by omega) (t.glo "parse_part" 27) tk (da_cons (de_var 2) (da_cons (de_var 3) da_nil))) (dg_name 4 nd)) (dss_cons (ds_if (dt_cmp od_is (de_var 4) de_non) (dss_one (ds_raise (dx_mkf (mk_BadText t).ox (mk_BadText t).ini (mk_BadText t).ty (FI_BadText t) (hr.mono (by omega)) (BI_BadText t) (t.glo "BadText" 26) (de_var 2)) tk)) dss_nil) (dss_one (ds_expr (de_bm PySem.F.plainAttrs_list PySem.F.slot_list_append PySem.F.type_list_append md_append (lmD_noexc _) (de_var 1) (da_cons (de_var 4) da_nil)))))) rfl hp) (dss_cons (ds_if (dt_cmp od_lt (de_blt cd_len (t.free "len" 8) (by decide +kernel) (da_cons (de_var 1) da_nil)) (de_gl (t.int "MANY_WORDS" 3 23))) (dss_one (ds_raise (dx_mkf (mk_BadText t).ox (mk_BadText t).ini (mk_BadText t).ty (FI_BadText t) (hr.mono (by omega)) (BI_BadText t) (t.glo "BadText" 26) (de_blt cd_len (t.free "len" 8) (by decide +kernel) (da_cons (de_var 1) da_nil))) tk)) dss_nil) (dss_cons (ds_asg (de_var 1) (dg_tup rfl (dgs_cons (dg_name 5 nd) (dgs_cons (dg_name 6 nd) (dgs_cons (dg_name 7 nd) dgs_nil))))) (dss_one (ds_ret (de_tup (da_cons (de_var 5) (da_cons (de_var 7) da_nil)))))))))
theorem sc__law_deck : FnScope ["script", "cell"] ["script"] (defScope s__law_deck) := ⟨rfl, rfl, rfl, by decide +kernel, rfl, by decide +kernel, by decide +kernel⟩
theorem ok__law_deck (t : TT K mg) : FnM P w K mg base 1 (He.fAd K ("_law_deck", none)) 1 [] m__law_deck := by
  have sy := sy_of t; have kt := kt_of t; have xt := xt_of t; have xc := xc_of t
  refine fnM_mk (N := ["script", "cell"]) (ps := ["script"]) (t.defn 11) sc__law_deck rfl (fun _ _ _ _ _ _ us hl => match us, hl with | [_], _ => rfl) fun cdv A outer s H E hr hg => ?_
  have nd := (sc__law_deck).nd
  have tk := takes_of (X := cxOf (L2.CX P w) P w K mg base ["script", "cell"] "_law_deck" (defScope s__law_deck) (He.fAd K ("_law_deck", none)) cdv A outer s H E) (E := E) rfl rfl rfl rfl
  have hp := passes_of (X := cxOf (L2.CX P w) P w K mg base ["script", "cell"] "_law_deck" (defScope s__law_deck) (He.fAd K ("_law_deck", none)) cdv A outer s H E) rfl
  exact dss_one (ds_ret (de_ref (da_cons (de_lcR (own := ([("cell", 1)] : List (Str × Nat))) { calm := rfl, nd := nd, ok := blkOk_by rfl, it := di_lst (de_sl (de_var 0) do_none (do_some de_int)), tg := fun _ _ _ _ _ _ => dg_name 1 nd (hfr := blk_fr rfl), ts := fun _ _ _ _ _ _ => (dts_nil), el := fun _ _ _ _ _ _ => (de_blt cd_abs (t.free "abs" 28) (by decide +kernel) (da_cons (de_var 1) da_nil)), fs := fun _ => rfl }) (da_cons de_int da_nil))))
theorem sc__law_draw : FnScope ["deck", "many", "cell", "place"] ["deck", "many"] (defScope s__law_draw) := ⟨rfl, rfl, rfl, by decide +kernel, rfl, by decide +kernel, by decide +kernel⟩
theorem ok__law_draw (t : TT K mg) : FnM P w K mg base 1 (He.fAd K ("_law_draw", none)) 2 [] m__law_draw := by
  have sy := sy_of t; have kt := kt_of t; have xt := xt_of t; have xc := xc_of t
  refine fnM_mk (N := ["deck", "many", "cell", "place"]) (ps := ["deck", "many"]) (t.defn 12) sc__law_draw rfl (fun _ _ _ _ _ _ us hl => match us, hl with | [_, _], _ => rfl) fun cdv A outer s H E hr hg => ?_
  have nd := (sc__law_draw).nd
  have tk := takes_of (X := cxOf (L2.CX P w) P w K mg base ["deck", "many", "cell", "place"] "_law_draw" (defScope s__law_draw) (He.fAd K ("_law_draw", none)) cdv A outer s H E) (E := E) rfl rfl rfl rfl
  have hp := passes_of (X := cxOf (L2.CX P w) P w K mg base ["deck", "many", "cell", "place"] "_law_draw" (defScope s__law_draw) (He.fAd K ("_law_draw", none)) cdv A outer s H E) rfl
  exact dss_cons (ds_set (de_op od_add (de_ix (de_var 0) de_int) de_int) (de_var 0) de_int) (dss_cons (ds_asg de_int (dg_name 2 nd)) (dss_cons (ds_asg (de_neg de_int) (dg_name 3 nd)) (dss_cons (ds_if (dt_cmp od_gt (de_blt cd_len (t.free "len" 8) (by decide +kernel) (da_cons (de_ix (de_var 0) de_int) da_nil)) de_int) (dss_cons (ds_asg (de_op od_mod (de_ix (de_var 0) de_int) (de_blt cd_len (t.free "len" 8) (by decide +kernel) (da_cons (de_ix (de_var 0) de_int) da_nil))) (dg_name 3 nd)) (dss_one (ds_asg (de_ix (de_ix (de_var 0) de_int) (de_var 3)) (dg_name 2 nd)))) dss_nil) (dss_cons (ds_if (dt_cmp od_ge (de_var 2) (de_op od_pow de_int de_int)) (dss_cons (ds_set (de_op od_div (de_var 2) (de_var 1)) (de_ix (de_var 0) de_int) (de_var 3)) (dss_one (ds_ret (de_op od_mod (de_var 2) (de_var 1))))) dss_nil) (dss_one (ds_ret (de_op od_mod (de_op od_mod (de_op od_pow (de_op od_add (de_op od_add (de_op od_mod (de_var 2) de_int) (de_op od_mul de_int (de_ix (de_var 0) de_int))) de_int) de_int) de_int) (de_var 1))))))))
theorem sc__law_same : FnScope ["found", "due", "one", "other"] ["found", "due"] (defScope s__law_same) := ⟨rfl, rfl, rfl, by decide +kernel, rfl, by decide +kernel, by decide +kernel⟩
theorem ok__law_same (t : TT K mg) : ∀ r, FnM P w K mg base (r + 1) (He.fAd K ("_law_same", none)) 2 [] (m__law_same r)
  | 0 => by
    obtain ⟨fd, FD⟩ := t.defn 13
    refine ⟨⟨fd, ["found", "due"], [], [], ⟨fun vs H Q E h => ?_, fun A outer s H args us vs Q E _ _ _ _ _ h => ?_⟩, FD.bindsN fun _ _ _ _ _ _ us hl => match us, hl with | [_, _], _ => rfl, .nil, fun ρ H => by simp only [Reps]⟩, FD.kp⟩
    · obtain ⟨ρ, ds, S, hl, _⟩ := h; exact hl
    · obtain ⟨ρ, ds, S, hl, _, _, h⟩ := h; exact h.elim
  | r + 1 => by
    have FR := ok__law_same t r
    have sy := sy_of t; have kt := kt_of t; have xt := xt_of t; have xc := xc_of t
    refine fnM_mk (N := ["found", "due", "one", "other"]) (ps := ["found", "due"]) (t.defn 13) sc__law_same rfl (fun _ _ _ _ _ _ us hl => match us, hl with | [_, _], _ => rfl) fun cdv A outer s H E hr hg => ?_
    have nd := (sc__law_same).nd
    have tk := takes_of (X := cxOf (L2.CX P w) P w K mg base ["found", "due", "one", "other"] "_law_same" (defScope s__law_same) (He.fAd K ("_law_same", none)) cdv A outer s H E) (E := E) rfl rfl rfl rfl
    have hp := passes_of (X := cxOf (L2.CX P w) P w K mg base ["found", "due", "one", "other"] "_law_same" (defScope s__law_same) (He.fAd K ("_law_same", none)) cdv A outer s H E) rfl
    exact dss_cons (ds_if (dt_truth (de_blt (cd_isi kt ci) (t.free "isinstance" 1) (by decide +kernel) (da_cons (de_var 1) (da_cons (de_ty (n := "tuple") (by decide +kernel) (t.free "tuple" 7)) da_nil)))) (dss_cons (ds_if (dt_bool (dw_or (dt_not (dt_truth (de_blt (cd_isi kt ci) (t.free "isinstance" 1) (by decide +kernel) (da_cons (de_var 0) (da_cons (de_ty (n := "tuple") (by decide +kernel) (t.free "tuple" 7)) da_nil))))) (dw_or1 (dt_cmp (od_ne sy (u16 hr)) (de_blt cd_len (t.free "len" 8) (by decide +kernel) (da_cons (de_var 0) da_nil)) (de_blt cd_len (t.free "len" 8) (by decide +kernel) (da_cons (de_var 1) da_nil)))))) (dss_one (ds_ret de_bl)) dss_nil) (dss_one (ds_ret (de_cmp (od_eq sy (u16 hr)) (de_lc (own := ([("one", 2), ("other", 3)] : List (Str × Nat))) { calm := rfl, nd := nd, ok := blkOk_by rfl, it := di_zip (da_cons (de_var 0) (da_cons (de_var 1) da_nil)) (t.free "zip" 29), tg := fun _ _ _ _ _ _ => dg_tup rfl (dgs_cons (dg_name 2 nd (hfr := blk_fr rfl)) (dgs_cons (dg_name 3 nd (hfr := blk_fr rfl)) dgs_nil)), ts := fun _ _ _ _ _ _ => (dts_one (dt_not (dt_truth (de_call FR hr hg (Nat.le_refl _) (t.glo "_law_same" 30) takesW (da_cons (de_var 2) (da_cons (de_var 3) da_nil)))))), el := fun _ _ _ _ _ _ => (de_int), fs := fun _ => rfl }) (de_lst da_nil))))) dss_nil) (dss_cons (ds_if (dt_cmp od_is (de_var 1) de_non) (dss_one (ds_ret (de_cmp od_is (de_var 0) de_non))) dss_nil) (dss_cons (ds_if (dt_truth (de_blt (cd_isi kt ci) (t.free "isinstance" 1) (by decide +kernel) (da_cons (de_var 1) (da_cons (de_ty (n := "str") (by decide +kernel) (t.free "str" 25)) da_nil)))) (dss_one (ds_ret (de_and (de_blt (cd_isi kt ci) (t.free "isinstance" 1) (by decide +kernel) (da_cons (de_var 0) (da_cons (de_ty (n := "str") (by decide +kernel) (t.free "str" 25)) da_nil))) (de_one (de_cmp (od_eq sy (u16 hr)) (de_var 0) (de_var 1)))))) dss_nil) (dss_one (ds_ret (de_and (de_blt (cd_isi kt ci) (t.free "isinstance" 1) (by decide +kernel) (da_cons (de_var 0) (da_cons (de_ty (n := "int") (by decide +kernel) (t.free "int" 0)) da_nil))) (de_and (de_cmp (od_eq sy (u16 hr)) (de_blt (cd_isi kt ci) (t.free "isinstance" 1) (by decide +kernel) (da_cons (de_var 0) (da_cons (de_ty (n := "bool") (by decide +kernel) (t.free "bool" 2)) da_nil))) (de_blt (cd_isi kt ci) (t.free "isinstance" 1) (by decide +kernel) (da_cons (de_var 1) (da_cons (de_ty (n := "bool") (by decide +kernel) (t.free "bool" 2)) da_nil)))) (de_one (de_cmp (od_eq sy (u16 hr)) (de_var 0) (de_var 1)))))))))
theorem sc__law_state : FnScope ["deck", "guests", "most", "top", "found", "feet", "k", "foot", "near"] ["deck", "guests", "most"] (defScope s__law_state) := ⟨rfl, rfl, rfl, by decide +kernel, rfl, by decide +kernel, by decide +kernel⟩
theorem ok__law_state (t : TT K mg) : FnM P w K mg base 2 (He.fAd K ("_law_state", none)) 3 [] m__law_state := by
  have F__law_draw := ok__law_draw (P := P) (w := w) (base := base) t
  have sy := sy_of t; have kt := kt_of t; have xt := xt_of t; have xc := xc_of t
  refine fnM_mk (N := ["deck", "guests", "most", "top", "found", "feet", "k", "foot", "near"]) (ps := ["deck", "guests", "most"]) (t.defn 14) sc__law_state rfl (fun _ _ _ _ _ _ us hl => match us, hl with | [_, _, _], _ => rfl) fun cdv A outer s H E hr hg => ?_
  have nd := (sc__law_state).nd
  have tk := takes_of (X := cxOf (L2.CX P w) P w K mg base ["deck", "guests", "most", "top", "found", "feet", "k", "foot", "near"] "_law_state" (defScope s__law_state) (He.fAd K ("_law_state", none)) cdv A outer s H E) (E := E) rfl rfl rfl rfl
  have hp := passes_of (X := cxOf (L2.CX P w) P w K mg base ["deck", "guests", "most", "top", "found", "feet", "k", "foot", "near"] "_law_state" (defScope s__law_state) (He.fAd K ("_law_state", none)) cdv A outer s H E) rfl
  exact dss_cons (ds_asg (de_tup (da_cons (de_ix (de_lst (da_cons de_int (da_cons de_int (da_cons (de_op od_pow de_int de_int) da_nil)))) (de_call (F__law_draw) hr hg (by omega) (t.glo "_law_draw" 31) tk (da_cons (de_var 0) (da_cons de_int da_nil)))) (da_cons (de_ref da_nil) da_nil))) (dg_tup rfl (dgs_cons (dg_name 3 nd) (dgs_cons (dg_name 4 nd) dgs_nil)))) (dss_cons (ds_asg (de_bty cd_tuple (t.free "tuple" 7) (by decide +kernel) (da_cons (de_lc (own := ([("k", 6)] : List (Str × Nat))) { calm := rfl, nd := nd, ok := blkOk_by rfl, it := di_range1 (da_cons (de_op od_add de_int (de_call (F__law_draw) hr hg (by omega) (t.glo "_law_draw" 31) tk (da_cons (de_var 0) (da_cons (de_var 1) da_nil)))) da_nil) rfl (t.free "range" 32), tg := fun _ _ _ _ _ _ => dg_name 6 nd (hfr := blk_fr rfl), ts := fun _ _ _ _ _ _ => (dts_nil), el := fun _ _ _ _ _ _ => (de_op od_add de_int (de_call (F__law_draw) hr hg (by omega) (t.glo "_law_draw" 31) takesW (da_cons (de_var 0) (da_cons (de_var 3) da_nil)))), fs := fun _ => rfl }) da_nil)) (dg_name 5 nd)) (dss_cons (ds_for (di_range1 (da_cons (de_call (F__law_draw) hr hg (by omega) (t.glo "_law_draw" 31) tk (da_cons (de_var 0) (da_cons (de_op od_add (de_var 2) de_int) da_nil))) da_nil) rfl (t.free "range" 32)) (dg_name 6 nd) (dss_cons (ds_asg (de_ix (de_var 5) (de_call (F__law_draw) hr hg (by omega) (t.glo "_law_draw" 31) tk (da_cons (de_var 0) (da_cons (de_blt cd_len (t.free "len" 8) (by decide +kernel) (da_cons (de_var 5) da_nil)) da_nil)))) (dg_name 7 nd)) (dss_cons (ds_asg (de_blt (cd_max2 rfl) (t.free "max" 34) (by decide +kernel) (da_cons de_int (da_cons (de_blt (cd_min2 rfl) (t.free "min" 33) (by decide +kernel) (da_cons (de_op od_pow de_int de_int) (da_cons (de_op od_sub (de_op od_add (de_var 7) (de_call (F__law_draw) hr hg (by omega) (t.glo "_law_draw" 31) tk (da_cons (de_var 0) (da_cons de_int da_nil)))) de_int) da_nil))) da_nil))) (dg_name 8 nd)) (dss_one (ds_expr (de_bm PySem.F.plainAttrs_list PySem.F.slot_list_append PySem.F.type_list_append md_append (lmD_noexc _) (de_var 4) (da_cons (de_ix (de_lst (da_cons (de_op od_add de_int (de_call (F__law_draw) hr hg (by omega) (t.glo "_law_draw" 31) tk (da_cons (de_var 0) (da_cons (de_var 3) da_nil)))) (da_cons (de_var 8) da_nil))) (de_call (F__law_draw) hr hg (by omega) (t.glo "_law_draw" 31) tk (da_cons (de_var 0) (da_cons de_int da_nil)))) da_nil)))))) rfl hp) (dss_one (ds_ret (de_tup (da_cons (de_var 5) (da_cons (de_bty cd_tuple (t.free "tuple" 7) (by decide +kernel) (da_cons (de_var 4) da_nil)) da_nil)))))))
theorem sc__law_hall_text : FnScope ["state", "feet", "pairs", "some", "size"] ["state"] (defScope s__law_hall_text) := ⟨rfl, rfl, rfl, by decide +kernel, rfl, by decide +kernel, by decide +kernel⟩
theorem ok__law_hall_text (t : TT K mg) : FnM P w K mg base 1 (He.fAd K ("_law_hall_text", none)) 1 [] m__law_hall_text := by
  have sy := sy_of t; have kt := kt_of t; have xt := xt_of t; have xc := xc_of t
  refine fnM_mk (N := ["state", "feet", "pairs", "some", "size"]) (ps := ["state"]) (t.defn 15) sc__law_hall_text rfl (fun _ _ _ _ _ _ us hl => match us, hl with | [_], _ => rfl) fun cdv A outer s H E hr hg => ?_
  have nd := (sc__law_hall_text).nd
  have tk := takes_of (X := cxOf (L2.CX P w) P w K mg base ["state", "feet", "pairs", "some", "size"] "_law_hall_text" (defScope s__law_hall_text) (He.fAd K ("_law_hall_text", none)) cdv A outer s H E) (E := E) rfl rfl rfl rfl
  have hp := passes_of (X := cxOf (L2.CX P w) P w K mg base ["state", "feet", "pairs", "some", "size"] "_law_hall_text" (defScope s__law_hall_text) (He.fAd K ("_law_hall_text", none)) cdv A outer s H E) rfl
  exact dss_cons (ds_asg (de_lc (own := ([("some", 3)] : List (Str × Nat))) { calm := rfl, nd := nd, ok := blkOk_by rfl, it := di_tup (de_var 0), tg := fun _ _ _ _ _ _ => dg_name 3 nd (hfr := blk_fr rfl), ts := fun _ _ _ _ _ _ => (dts_nil), el := fun _ _ _ _ _ _ => (de_bm PySem.F.plainAttrs_str PySem.F.slot_str_join PySem.F.type_str_join md_join join_noexc de_str (da_cons (de_lc (own := ([("size", 4)] : List (Str × Nat))) { calm := rfl, nd := nd, ok := blkOk_by rfl, it := di_tup (de_var 3), tg := fun _ _ _ _ _ _ => dg_name 4 nd (hfr := blk_fr rfl), ts := fun _ _ _ _ _ _ => (dts_nil), el := fun _ _ _ _ _ _ => (de_bty cd_str (t.free "str" 25) (by decide +kernel) (da_cons (de_var 4) da_nil)), fs := fun _ => rfl }) da_nil)), fs := fun _ => rfl }) (dg_tup rfl (dgs_cons (dg_name 1 nd) (dgs_cons (dg_name 2 nd) dgs_nil)))) (dss_one (ds_ret (de_op od_add (de_op od_add (de_var 1) de_str) (de_if (dt_cmp (od_ne sy (u16 hr)) (de_var 2) de_str) (de_var 2) de_str))))
theorem sc__law_odd : FnScope ["deck", "some"] ["deck"] (defScope s__law_odd) := ⟨rfl, rfl, rfl, by decide +kernel, rfl, by decide +kernel, by decide +kernel⟩
theorem ok__law_odd (t : TT K mg) : FnM P w K mg base 2 (He.fAd K ("_law_odd", none)) 1 [] m__law_odd := by
  have F__law_draw := ok__law_draw (P := P) (w := w) (base := base) t
  have sy := sy_of t; have kt := kt_of t; have xt := xt_of t; have xc := xc_of t
  refine fnM_mk (N := ["deck", "some"]) (ps := ["deck"]) (t.defn 16) sc__law_odd rfl (fun _ _ _ _ _ _ us hl => match us, hl with | [_], _ => rfl) fun cdv A outer s H E hr hg => ?_
  have nd := (sc__law_odd).nd
  have tk := takes_of (X := cxOf (L2.CX P w) P w K mg base ["deck", "some"] "_law_odd" (defScope s__law_odd) (He.fAd K ("_law_odd", none)) cdv A outer s H E) (E := E) rfl rfl rfl rfl
  have hp := passes_of (X := cxOf (L2.CX P w) P w K mg base ["deck", "some"] "_law_odd" (defScope s__law_odd) (He.fAd K ("_law_odd", none)) cdv A outer s H E) rfl
  exact dss_cons (ds_asg (de_lst (da_cons de_non (da_cons de_bl (da_cons de_bl (da_cons de_int (da_cons (de_neg de_int) (da_cons (de_op od_pow de_int de_int) (da_cons (de_tup da_nil) (da_cons (de_lst da_nil) (da_cons de_emp (da_cons (de_tup (da_cons de_int (da_cons de_int da_nil))) (da_cons (de_lst (da_cons de_str da_nil)) (da_cons (de_tup (da_cons (de_tup (da_cons de_int da_nil)) (da_cons (de_tup da_nil) da_nil))) da_nil))))))))))))) (dg_name 1 nd)) (dss_one (ds_ret (de_ix (de_var 1) (de_call (F__law_draw) hr hg (by omega) (t.glo "_law_draw" 31) tk (da_cons (de_var 0) (da_cons de_int da_nil))))))
theorem sc__law_bent : FnScope ["deck", "text", "words", "at", "way", "place", "sign"] ["deck", "text"] (defScope s__law_bent) := ⟨rfl, rfl, rfl, by decide +kernel, rfl, by decide +kernel, by decide +kernel⟩
theorem ok__law_bent (t : TT K mg) : FnM P w K mg base 2 (He.fAd K ("_law_bent", none)) 2 [] m__law_bent := by
  have F__law_draw := ok__law_draw (P := P) (w := w) (base := base) t
  have sy := sy_of t; have kt := kt_of t; have xt := xt_of t; have xc := xc_of t
  refine fnM_mk (N := ["deck", "text", "words", "at", "way", "place", "sign"]) (ps := ["deck", "text"]) (t.defn 17) sc__law_bent rfl (fun _ _ _ _ _ _ us hl => match us, hl with | [_, _], _ => rfl) fun cdv A outer s H E hr hg => ?_
  have nd := (sc__law_bent).nd
  have tk := takes_of (X := cxOf (L2.CX P w) P w K mg base ["deck", "text", "words", "at", "way", "place", "sign"] "_law_bent" (defScope s__law_bent) (He.fAd K ("_law_bent", none)) cdv A outer s H E) (E := E) rfl rfl rfl rfl
  have hp := passes_of (X := cxOf (L2.CX P w) P w K mg base ["deck", "text", "words", "at", "way", "place", "sign"] "_law_bent" (defScope s__law_bent) (He.fAd K ("_law_bent", none)) cdv A outer s H E) rfl
  exact dss_cons (ds_asg (de_bm PySem.F.plainAttrs_str PySem.F.slot_str_split PySem.F.type_str_split md_split split_noexc (de_var 1) (da_cons de_str da_nil)) (dg_name 2 nd)) (dss_cons (ds_asg (de_call (F__law_draw) hr hg (by omega) (t.glo "_law_draw" 31) tk (da_cons (de_var 0) (da_cons (de_blt cd_len (t.free "len" 8) (by decide +kernel) (da_cons (de_var 2) da_nil)) da_nil))) (dg_name 3 nd)) (dss_cons (ds_asg (de_call (F__law_draw) hr hg (by omega) (t.glo "_law_draw" 31) tk (da_cons (de_var 0) (da_cons de_int da_nil))) (dg_name 4 nd)) (dss_cons (ds_if (dt_cmp (od_eq sy (u16 hr)) (de_var 4) de_int) (dss_one (ds_ret (de_bm PySem.F.plainAttrs_str PySem.F.slot_str_join PySem.F.type_str_join md_join join_noexc de_str (da_cons (de_op od_add (de_op od_add (de_sl (de_var 2) do_none (do_some (de_var 3))) (de_sl (de_var 2) (do_some (de_var 3)) (do_some (de_op od_add (de_var 3) de_int)))) (de_sl (de_var 2) (do_some (de_var 3)) do_none)) da_nil)))) dss_nil) (dss_cons (ds_if (dt_cmp (od_eq sy (u16 hr)) (de_var 4) de_int) (dss_one (ds_ret (de_bm PySem.F.plainAttrs_str PySem.F.slot_str_join PySem.F.type_str_join md_join join_noexc de_str (da_cons (de_op od_add (de_sl (de_var 2) (do_some (de_var 3)) do_none) (de_sl (de_var 2) do_none (do_some (de_var 3)))) da_nil)))) dss_nil) (dss_cons (ds_if (dt_cmp (od_eq sy (u16 hr)) (de_var 4) de_int) (dss_one (ds_ret (de_bm PySem.F.plainAttrs_str PySem.F.slot_str_join PySem.F.type_str_join md_join join_noexc de_str (da_cons (de_op od_add (de_sl (de_var 2) do_none (do_some (de_var 3))) (de_sl (de_var 2) (do_some (de_op od_add (de_var 3) de_int)) do_none)) da_nil)))) dss_nil) (dss_cons (ds_if (dt_cmp (od_eq sy (u16 hr)) (de_var 4) de_int) (dss_one (ds_ret (de_bm PySem.F.plainAttrs_str PySem.F.slot_str_join PySem.F.type_str_join md_join join_noexc de_str (da_cons (de_op od_add (de_var 2) (de_sl (de_var 2) (do_some (de_var 3)) do_none)) da_nil)))) dss_nil) (dss_cons (ds_asg (de_call (F__law_draw) hr hg (by omega) (t.glo "_law_draw" 31) tk (da_cons (de_var 0) (da_cons (de_op od_add (de_blt cd_len (t.free "len" 8) (by decide +kernel) (da_cons (de_var 1) da_nil)) de_int) da_nil))) (dg_name 5 nd)) (dss_cons (ds_asg (de_ix (de_lst (da_cons de_str (da_cons de_str (da_cons de_str (da_cons de_str (da_cons de_str (da_cons de_str (da_cons de_str (da_cons de_str (da_cons de_str (da_cons de_str (da_cons de_str (da_cons de_str da_nil))))))))))))) (de_call (F__law_draw) hr hg (by omega) (t.glo "_law_draw" 31) tk (da_cons (de_var 0) (da_cons de_int da_nil)))) (dg_name 6 nd)) (dss_one (ds_ret (de_op od_add (de_op od_add (de_sl (de_var 1) do_none (do_some (de_var 5))) (de_op od_mul (de_var 6) (de_call (F__law_draw) hr hg (by omega) (t.glo "_law_draw" 31) tk (da_cons (de_var 0) (da_cons de_int da_nil))))) (de_sl (de_var 1) (do_some (de_op od_add (de_var 5) (de_call (F__law_draw) hr hg (by omega) (t.glo "_law_draw" 31) tk (da_cons (de_var 0) (da_cons de_int da_nil))))) do_none))))))))))))
theorem sc__law_sizes : FnScope ["word", "parts", "part", "one"] ["word"] (defScope s__law_sizes) := ⟨rfl, rfl, rfl, by decide +kernel, rfl, by decide +kernel, by decide +kernel⟩
theorem ok__law_sizes (t : TT K mg) : FnM P w K mg base 1 (He.fAd K ("_law_sizes", none)) 1 [] m__law_sizes := by
  have sy := sy_of t; have kt := kt_of t; have xt := xt_of t; have xc := xc_of t
  refine fnM_mk (N := ["word", "parts", "part", "one"]) (ps := ["word"]) (t.defn 18) sc__law_sizes rfl (fun _ _ _ _ _ _ us hl => match us, hl with | [_], _ => rfl) fun cdv A outer s H E hr hg => ?_
  have nd := (sc__law_sizes).nd
  have tk := takes_of (X := cxOf (L2.CX P w) P w K mg base ["word", "parts", "part", "one"] "_law_sizes" (defScope s__law_sizes) (He.fAd K ("_law_sizes", none)) cdv A outer s H E) (E := E) rfl rfl rfl rfl
  have hp := passes_of (X := cxOf (L2.CX P w) P w K mg base ["word", "parts", "part", "one"] "_law_sizes" (defScope s__law_sizes) (He.fAd K ("_law_sizes", none)) cdv A outer s H E) rfl
  exact dss_cons (ds_asg (de_bm PySem.F.plainAttrs_str PySem.F.slot_str_split PySem.F.type_str_split md_split split_noexc (de_var 0) (da_cons de_str da_nil)) (dg_name 1 nd)) (dss_cons (ds_for (di_lst (de_var 1)) (dg_name 2 nd) (dss_cons (ds_if (dt_bool (dw_or (dt_not (dt_chain od_le od_le de_int (de_blt cd_len (t.free "len" 8) (by decide +kernel) (da_cons (de_var 2) da_nil)) de_int)) (dw_or1 (dt_cmp (od_ne sy (u16 hr)) (de_lc (own := ([("one", 3)] : List (Str × Nat))) { calm := rfl, nd := nd, ok := blkOk_by rfl, it := di_chr (de_var 2), tg := fun _ _ _ _ _ _ => dg_name 3 nd (hfr := blk_fr rfl), ts := fun _ _ _ _ _ _ => (dts_one (dt_cmp (od_notIn sy (u32 hr)) (de_var 3) de_str)), el := fun _ _ _ _ _ _ => (de_var 3), fs := fun _ => rfl }) (de_lst da_nil))))) (dss_one (ds_ret de_non)) dss_nil) (dss_one (ds_if (dt_bool (dw_or (dt_cmp (od_eq sy (u16 hr)) (de_ix (de_var 2) de_int) de_str) (dw_or1 (dt_cmp od_gt (de_bty cd_int (t.free "int" 0) (by decide +kernel) (da_cons (de_var 2) da_nil)) (de_op od_pow de_int de_int))))) (dss_one (ds_ret de_non)) dss_nil))) rfl hp) (dss_one (ds_ret (de_if (dt_cmp od_le (de_blt cd_len (t.free "len" 8) (by decide +kernel) (da_cons (de_var 1) da_nil)) de_int) (de_bty cd_tuple (t.free "tuple" 7) (by decide +kernel) (da_cons (de_lc (own := ([("part", 2)] : List (Str × Nat))) { calm := rfl, nd := nd, ok := blkOk_by rfl, it := di_lst (de_var 1), tg := fun _ _ _ _ _ _ => dg_name 2 nd (hfr := blk_fr rfl), ts := fun _ _ _ _ _ _ => (dts_nil), el := fun _ _ _ _ _ _ => (de_bty cd_int (t.free "int" 0) (by decide +kernel) (da_cons (de_var 2) da_nil)), fs := fun _ => rfl }) da_nil)) de_non))))
theorem sc__law_part : FnScope ["k", "word"] ["k", "word"] (defScope s__law_part) := ⟨rfl, rfl, rfl, by decide +kernel, rfl, by decide +kernel, by decide +kernel⟩
theorem ok__law_part (t : TT K mg) : FnM P w K mg base 2 (He.fAd K ("_law_part", none)) 2 [] m__law_part := by
  have F__law_sizes := ok__law_sizes (P := P) (w := w) (base := base) t
  have sy := sy_of t; have kt := kt_of t; have xt := xt_of t; have xc := xc_of t
  refine fnM_mk (N := ["k", "word"]) (ps := ["k", "word"]) (t.defn 19) sc__law_part rfl (fun _ _ _ _ _ _ us hl => match us, hl with | [_, _], _ => rfl) fun cdv A outer s H E hr hg => ?_
  have nd := (sc__law_part).nd
  have tk := takes_of (X := cxOf (L2.CX P w) P w K mg base ["k", "word"] "_law_part" (defScope s__law_part) (He.fAd K ("_law_part", none)) cdv A outer s H E) (E := E) rfl rfl rfl rfl
  have hp := passes_of (X := cxOf (L2.CX P w) P w K mg base ["k", "word"] "_law_part" (defScope s__law_part) (He.fAd K ("_law_part", none)) cdv A outer s H E) rfl
  exact dss_cons (ds_if (dt_cmp (od_eq sy (u16 hr)) (de_var 0) de_int) (dss_one (ds_ret (de_call (F__law_sizes) hr hg (by omega) (t.glo "_law_sizes" 35) tk (da_cons (de_var 1) da_nil)))) dss_nil) (dss_cons (ds_if (dt_cmp (od_eq sy (u16 hr)) (de_var 0) de_int) (dss_one (ds_ret (de_if (dt_cmp (od_eq sy (u16 hr)) (de_var 1) de_str) (de_var 1) de_non))) dss_nil) (dss_cons (ds_if (dt_cmp (od_eq sy (u16 hr)) (de_var 0) de_int) (dss_one (ds_ret (de_if (dt_cmp (od_eq sy (u16 hr)) (de_var 1) de_str) (de_tup da_nil) (de_call (F__law_sizes) hr hg (by omega) (t.glo "_law_sizes" 35) tk (da_cons (de_var 1) da_nil))))) dss_nil) (dss_one (ds_ret de_non))))
theorem sc__law_due : FnScope ["text", "parts", "k", "word"] ["text"] (defScope s__law_due) := ⟨rfl, rfl, rfl, by decide +kernel, rfl, by decide +kernel, by decide +kernel⟩
theorem ok__law_due (t : TT K mg) : FnM P w K mg base 3 (He.fAd K ("_law_due", none)) 1 [] m__law_due := by
  have F__law_part := ok__law_part (P := P) (w := w) (base := base) t
  have sy := sy_of t; have kt := kt_of t; have xt := xt_of t; have xc := xc_of t
  refine fnM_mk (N := ["text", "parts", "k", "word"]) (ps := ["text"]) (t.defn 20) sc__law_due rfl (fun _ _ _ _ _ _ us hl => match us, hl with | [_], _ => rfl) fun cdv A outer s H E hr hg => ?_
  have nd := (sc__law_due).nd
  have tk := takes_of (X := cxOf (L2.CX P w) P w K mg base ["text", "parts", "k", "word"] "_law_due" (defScope s__law_due) (He.fAd K ("_law_due", none)) cdv A outer s H E) (E := E) rfl rfl rfl rfl
  have hp := passes_of (X := cxOf (L2.CX P w) P w K mg base ["text", "parts", "k", "word"] "_law_due" (defScope s__law_due) (He.fAd K ("_law_due", none)) cdv A outer s H E) rfl
  exact dss_cons (ds_if (dt_not (dt_truth (de_blt (cd_isi kt ci) (t.free "isinstance" 1) (by decide +kernel) (da_cons (de_var 0) (da_cons (de_ty (n := "str") (by decide +kernel) (t.free "str" 25)) da_nil))))) (dss_one (ds_ret (de_tup (da_cons de_str (da_cons de_non da_nil))))) dss_nil) (dss_cons (ds_setLc 1 (own := ([("k", 2), ("word", 3)] : List (Str × Nat))) { calm := rfl, nd := nd, ok := blkOk_by rfl, it := di_enum (da_cons (de_bm PySem.F.plainAttrs_str PySem.F.slot_str_split PySem.F.type_str_split md_split split_noexc (de_var 0) (da_cons de_str da_nil)) da_nil) (t.free "enumerate" 5), tg := fun _ _ _ _ _ _ => dg_tup rfl (dgs_cons (dg_name 2 nd (hfr := blk_fr rfl)) (dgs_cons (dg_name 3 nd (hfr := blk_fr rfl)) dgs_nil)), ts := fun _ _ _ _ _ _ => (dts_nil), el := fun _ _ _ _ _ _ => (de_call (F__law_part) hr hg (by omega) (t.glo "_law_part" 36) takesW (da_cons (de_var 2) (da_cons (de_var 3) da_nil))), fs := fun _ => rfl }) (dss_cons (ds_if (dt_cmp (od_in sy (u32 hr)) de_non (de_var 1)) (dss_one (ds_ret (de_tup (da_cons de_str (da_cons (de_bm PySem.F.plainAttrs_list PySem.F.slot_list_index PySem.F.type_list_index (md_index (u65 hr)) indexD_noexc (de_var 1) (da_cons de_non da_nil)) da_nil))))) dss_nil) (dss_one (ds_ret (de_if (dt_cmp (od_eq sy (u16 hr)) (de_blt cd_len (t.free "len" 8) (by decide +kernel) (da_cons (de_var 1) da_nil)) de_int) (de_tup (da_cons (de_ix (de_var 1) de_int) (da_cons (de_ix (de_var 1) de_int) da_nil))) (de_tup (da_cons de_str (da_cons (de_blt cd_len (t.free "len" 8) (by decide +kernel) (da_cons (de_var 1) da_nil)) da_nil))))))))
theorem sc__law_told : FnScope ["text", "error"] ["text"] (defScope s__law_told) := ⟨rfl, rfl, rfl, by decide +kernel, rfl, by decide +kernel, by decide +kernel⟩
theorem ok__law_told (t : TT K mg) : FnM P w K mg base 10 (He.fAd K ("_law_told", none)) 1 [] m__law_told := by
  have F_parse_hall := ok_parse_hall (P := P) (w := w) (base := base) t
  have sy := sy_of t; have kt := kt_of t; have xt := xt_of t; have xc := xc_of t
  refine fnM_mk (N := ["text", "error"]) (ps := ["text"]) (t.defn 21) sc__law_told rfl (fun _ _ _ _ _ _ us hl => match us, hl with | [_], _ => rfl) fun cdv A outer s H E hr hg => ?_
  have nd := (sc__law_told).nd
  have tk := takes_of (X := cxOf (L2.CX P w) P w K mg base ["text", "error"] "_law_told" (defScope s__law_told) (He.fAd K ("_law_told", none)) cdv A outer s H E) (E := E) rfl rfl rfl rfl
  have hp := passes_of (X := cxOf (L2.CX P w) P w K mg base ["text", "error"] "_law_told" (defScope s__law_told) (He.fAd K ("_law_told", none)) cdv A outer s H E) rfl
  exact dss_one (ds_tryAs 1 xt ⟨rfl, rfl, Or.inl (t.glo "BadText" 26)⟩ tk (fun W pn xe tk hp => dss_one (ds_ret (de_call (F_parse_hall) hr hg (by omega) (t.glo "parse_hall" 37) tk (da_cons (de_var 0) da_nil)))) (fun y a oe cls d pn hz hf => dss_cons (ds_if (dt_bool (dw_or (dt_not (dt_truth (de_isx kt xc hz hf (de_gl (t.gl "PartyError" 38)) (t.free "isinstance" 1)))) (dw_or1 (dt_truth (de_isx kt xc hz hf (de_tup (da_cons (de_gl (t.gl "BadHall" 39)) (da_cons (de_gl (t.gl "BadSize" 40)) (da_cons (de_ty (n := "LookupError") (by decide +kernel) (t.free "LookupError" 41)) da_nil)))) (t.free "isinstance" 1)))))) (dss_one (ds_ret de_str)) dss_nil) (dss_one (ds_ret (de_tup (da_cons de_str (da_cons (de_xf (i := 1) (xf_BadText t) hz hf) da_nil)))))) nd)
theorem sc_law : FnScope ["script", "deck", "things", "word", "many", "text", "k", "turn", "thing", "kept"] ["script"] (defScope s_law) := ⟨rfl, rfl, rfl, by decide +kernel, rfl, by decide +kernel, by decide +kernel⟩
theorem ok_law (t : TT K mg) : FnM P w K mg base 11 (He.fAd K ("law", none)) 1 [] m_law := by
  have F__law_bent := ok__law_bent (P := P) (w := w) (base := base) t
  have F__law_deck := ok__law_deck (P := P) (w := w) (base := base) t
  have F__law_due := ok__law_due (P := P) (w := w) (base := base) t
  have F__law_hall_text := ok__law_hall_text (P := P) (w := w) (base := base) t
  have F__law_odd := ok__law_odd (P := P) (w := w) (base := base) t
  have F__law_same := ok__law_same (P := P) (w := w) (base := base) t 4
  have F__law_state := ok__law_state (P := P) (w := w) (base := base) t
  have F__law_told := ok__law_told (P := P) (w := w) (base := base) t
  have sy := sy_of t; have kt := kt_of t; have xt := xt_of t; have xc := xc_of t
  refine fnM_mk (N := ["script", "deck", "things", "word", "many", "text", "k", "turn", "thing", "kept"]) (ps := ["script"]) (t.defn 22) sc_law rfl (fun _ _ _ _ _ _ us hl => match us, hl with | [_], _ => rfl) fun cdv A outer s H E hr hg => ?_
  have nd := (sc_law).nd
  have tk := takes_of (X := cxOf (L2.CX P w) P w K mg base ["script", "deck", "things", "word", "many", "text", "k", "turn", "thing", "kept"] "law" (defScope s_law) (He.fAd K ("law", none)) cdv A outer s H E) (E := E) rfl rfl rfl rfl
  have hp := passes_of (X := cxOf (L2.CX P w) P w K mg base ["script", "deck", "things", "word", "many", "text", "k", "turn", "thing", "kept"] "law" (defScope s_law) (He.fAd K ("law", none)) cdv A outer s H E) rfl
  exact dss_cons (ds_asg (de_call (F__law_deck) hr hg (by omega) (t.glo "_law_deck" 42) tk (da_cons (de_var 0) da_nil)) (dg_name 1 nd)) (dss_cons (ds_asg (de_lst (da_cons de_str (da_cons de_str (da_cons de_str (da_cons de_str (da_cons de_str (da_cons de_str (da_cons de_str (da_cons de_str (da_cons de_str (da_cons de_str (da_cons de_str (da_cons de_str (da_cons de_str da_nil)))))))))))))) (dg_name 2 nd)) (dss_cons (ds_asg (de_op od_add (de_var 2) (de_lst (da_cons de_str (da_cons de_str (da_cons de_str (da_cons de_str (da_cons de_str (da_cons de_str (da_cons de_str (da_cons de_str (da_cons de_str (da_cons de_str da_nil)))))))))))) (dg_name 2 nd)) (dss_cons (ds_for (di_lst (de_lst (da_cons de_str (da_cons de_str (da_cons de_str (da_cons de_str (da_cons de_str (da_cons de_str (da_cons de_str (da_cons de_str (da_cons de_str (da_cons de_str (da_cons de_str (da_cons de_str (da_cons de_str (da_cons de_str da_nil)))))))))))))))) (dg_name 3 nd) (dss_cons (ds_asg (de_op od_add (de_var 2) (de_lst (da_cons (de_var 3) (da_cons (de_op od_add (de_var 3) de_str) (da_cons (de_op od_add (de_var 3) de_str) (da_cons (de_op od_add de_str (de_var 3)) (da_cons (de_op od_add (de_op od_add de_str (de_var 3)) de_str) (da_cons (de_op od_add (de_var 3) de_str) da_nil)))))))) (dg_name 2 nd)) (dss_one (ds_asg (de_op od_add (de_var 2) (de_lst (da_cons (de_op od_add (de_op od_add de_str (de_var 3)) de_str) (da_cons (de_op od_add de_str (de_var 3)) (da_cons (de_op od_add (de_op od_add (de_var 3) de_str) (de_var 3)) (da_cons (de_op od_add (de_op od_add de_str (de_var 3)) de_str) da_nil)))))) (dg_name 2 nd)))) rfl hp) (dss_cons (ds_for (di_lst (de_lst (da_cons de_int (da_cons de_int (da_cons de_int (da_cons de_int da_nil)))))) (dg_name 4 nd) (dss_cons (ds_asg (de_bm PySem.F.plainAttrs_str PySem.F.slot_str_join PySem.F.type_str_join md_join join_noexc de_str (da_cons (de_op od_mul (de_lst (da_cons de_str da_nil)) (de_var 4)) da_nil)) (dg_name 5 nd)) (dss_one (ds_asg (de_op od_add (de_var 2) (de_lst (da_cons (de_var 5) (da_cons (de_op od_add (de_var 5) de_str) (da_cons (de_op od_add de_str (de_var 5)) (da_cons (de_op od_add (de_op od_add (de_var 5) de_str) (de_var 5)) da_nil)))))) (dg_name 2 nd)))) rfl hp) (dss_cons (ds_for (di_range1 (da_cons de_int da_nil) rfl (t.free "range" 32)) (dg_name 6 nd) (dss_cons (ds_asg (de_call (F__law_hall_text) hr hg (by omega) (t.glo "_law_hall_text" 44) tk (da_cons (de_call (F__law_state) hr hg (by omega) (t.glo "_law_state" 43) tk (da_cons (de_var 1) (da_cons de_int (da_cons de_int da_nil)))) da_nil)) (dg_name 5 nd)) (dss_cons (ds_for (di_range1 (da_cons de_int da_nil) rfl (t.free "range" 32)) (dg_name 7 nd) (dss_one (ds_asg (de_op od_add (de_var 2) (de_lst (da_cons (de_call (F__law_bent) hr hg (by omega) (t.glo "_law_bent" 45) tk (da_cons (de_var 1) (da_cons (de_var 5) da_nil))) (da_cons (de_call (F__law_bent) hr hg (by omega) (t.glo "_law_bent" 45) tk (da_cons (de_var 1) (da_cons (de_call (F__law_bent) hr hg (by omega) (t.glo "_law_bent" 45) tk (da_cons (de_var 1) (da_cons (de_var 5) da_nil))) da_nil))) da_nil)))) (dg_name 2 nd))) rfl hp) (dss_one (ds_asg (de_op od_add (de_var 2) (de_lst (da_cons (de_var 5) (da_cons (de_lst (da_cons (de_var 5) da_nil)) (da_cons (de_call (F__law_odd) hr hg (by omega) (t.glo "_law_odd" 46) tk (da_cons (de_var 1) da_nil)) da_nil))))) (dg_name 2 nd))))) rfl hp) (dss_cons (ds_for (di_lst (de_op od_add (de_var 2) (de_lst (da_cons de_non (da_cons de_int (da_cons de_bl (da_cons (de_tup (da_cons (de_tup (da_cons de_int da_nil)) (da_cons (de_tup da_nil) da_nil))) (da_cons de_str (da_cons de_str (da_cons de_str da_nil)))))))))) (dg_name 8 nd) (dss_cons (ds_asg (de_blt (cd_repr sy (u32 hr) hg) (t.free "repr" 47) (by decide +kernel) (da_cons (de_var 8) da_nil)) (dg_name 9 nd)) (dss_one (ds_if (dt_bool (dw_or (dt_not (dt_truth (de_call (F__law_same) hr hg (by omega) (t.glo "_law_same" 30) tk (da_cons (de_call (F__law_told) hr hg (by omega) (t.glo "_law_told" 48) tk (da_cons (de_var 8) da_nil)) (da_cons (de_call (F__law_due) hr hg (by omega) (t.glo "_law_due" 49) tk (da_cons (de_var 8) da_nil)) da_nil))))) (dw_or1 (dt_cmp (od_ne sy (u16 hr)) (de_blt (cd_repr sy (u32 hr) hg) (t.free "repr" 47) (by decide +kernel) (da_cons (de_var 8) da_nil)) (de_var 9))))) (dss_one (ds_ret de_bl)) dss_nil))) rfl hp) (dss_one (ds_ret de_bl))))))))
end
end K56

namespace K56
open PySem PySem.Spec PyProof.Rows L2 DL
def szB (n : Int) : Bool := decide (1 ≤ n) && decide (n ≤ 1000000)
theorem isInt (n : Int) (S : Sto) : isiD tab ins [.int n, .ty "int"] S = .ok (.bl true) S := rfl
theorem isBl (n : Int) (S : Sto) : isiD tab ins [.int n, .ty "bool"] S = .ok (.bl false) S := rfl
theorem isTup (l : List D) (S : Sto) : isiD tab ins [.tup l, .ty "tuple"] S = .ok (.bl true) S := rfl
theorem isStr (x : Str) (S : Sto) : isiD tab ins [.str x, .ty "str"] S = .ok (.bl true) S := rfl
theorem is_number_int (n : Int) (S : Sto) : m_is_number [.int n, .int 1, .int 1000000] S = .ok (.bl (szB n)) S := by
  unfold m_is_number b_is_number
  simp [callE, consA, nilA, varE, conE, startD, RE.bind, RE.toS, RS.andThen, andE, orE, notE, bltE, binE, unE, chainE, testE, truE, notT, andT, orT, ifE, ifS, seqS, asgS, retS, exprS, passS, nameG, tupG, consG, nilG, methE, isTy, lstOf, seqOf, fnB, truD, tupE, lstE, parS, List.foldl, isInt, isBl, leD, cmpD, szB]
  by_cases h : 1 ≤ n <;> simp [h]
theorem is_size_int (n : Int) (S : Sto) : m_is_size [.int n] S = .ok (.bl (szB n)) S := by
  unfold m_is_size b_is_size
  simp [callE, consA, nilA, varE, conE, startD, RE.bind, RE.toS, RS.andThen, andE, orE, notE, bltE, binE, unE, chainE, testE, truE, notT, andT, orT, ifE, ifS, seqS, asgS, retS, exprS, passS, nameG, tupG, consG, nilG, methE, isTy, lstOf, seqOf, fnB, truD, tupE, lstE, parS, List.foldl, is_number_int]
/-- the first of them that is no size -/
noncomputable abbrev bFW : MS := ifS (notT (truE (callE 1 [] m_is_size (consA (varE 2) nilA)))) (retS (varE 1)) passS
theorem bFW_ok (x : D) (k : Int) (n : Int) (S : Sto) : bFW [some x, some (.int k), some (.int n)] S = if szB n = true then .nx [some x, some (.int k), some (.int n)] S else .rt (.int k) S := by
  unfold bFW
  cases h : szB n <;> simp [callE, consA, nilA, varE, conE, startD, RE.bind, RE.toS, RS.andThen, andE, orE, notE, bltE, binE, unE, chainE, testE, truE, notT, andT, orT, ifE, ifS, seqS, asgS, retS, exprS, passS, nameG, tupG, consG, nilG, methE, isTy, lstOf, seqOf, fnB, truD, tupE, lstE, parS, List.foldl, is_size_int, h]
theorem g12 (x d e : D) (v w : Option D) (S : Sto) : tupG 2 (consG (nameG 1) (consG (nameG 2) nilG)) (D.tup [d, e]) S [some x, v, w] = some [some x, some d, some e] := by
  simp [callE, consA, nilA, varE, conE, startD, RE.bind, RE.toS, RS.andThen, andE, orE, notE, bltE, binE, unE, chainE, testE, truE, notT, andT, orT, ifE, ifS, seqS, asgS, retS, exprS, passS, nameG, tupG, consG, nilG, methE, isTy, lstOf, seqOf, fnB, truD, tupE, lstE, parS, List.foldl]
theorem first_wrong_go {I : ItD} (hI : ∀ S, I.ok S) (S : Sto) : ∀ (ns : List Int) (k : Nat) (v w : Option D) (x : D),
    (ns.all szB = true ∧ ∃ v' w', forGo I (tupG 2 (consG (nameG 1) (consG (nameG 2) nilG))) bFW (pairs k (ns.map D.int)) [some x, v, w] S = .nx [some x, v', w'] S) ∨ (ns.all szB = false ∧ ∃ i : Int, forGo I (tupG 2 (consG (nameG 1) (consG (nameG 2) nilG))) bFW (pairs k (ns.map D.int)) [some x, v, w] S = .rt (.int i) S)
  | [], k, v, w, x => .inl ⟨rfl, v, w, forGo_nil (hI S)⟩
  | n :: ns, k, v, w, x => by
    rw [List.map_cons, pairs, forGo_cons (hI S) (g12 x _ _ v w S), bFW_ok]
    cases h : szB n with
    | true =>
      rw [if_pos rfl]
      have ih := first_wrong_go hI S ns (k + 1) (some (.int (k : Nat))) (some (.int n)) x
      simp only [List.all_cons, h, Bool.true_and]
      rcases ih with ⟨h1, v', w', e⟩ | ⟨h1, i, e⟩
      · exact .inl ⟨h1, v', w', e⟩
      · exact .inr ⟨h1, i, e⟩
    | false =>
      rw [if_neg Bool.false_ne_true]
      exact .inr ⟨by simp [h], _, rfl⟩
theorem first_wrong_tup (ns : List Int) (S : Sto) : (ns.all szB = true ∧ m_first_wrong [.tup (ns.map D.int)] S = .ok .non S) ∨ (ns.all szB = false ∧ ∃ i : Int, m_first_wrong [.tup (ns.map D.int)] S = .ok (.int i) S) := by
  unfold m_first_wrong b_first_wrong
  have e : ∀ S, enI (consA (varE 0) nilA) (startD 3 [.tup (ns.map D.int)]) S = .ok ⟨pairs 0 (ns.map D.int), fun _ => True⟩ S := fun S => by
    unfold enI
    simp [callE, consA, nilA, varE, conE, startD, RE.bind, RE.toS, RS.andThen, andE, orE, notE, bltE, binE, unE, chainE, testE, truE, notT, andT, orT, ifE, ifS, seqS, asgS, retS, exprS, passS, nameG, tupG, consG, nilG, methE, isTy, lstOf, seqOf, fnB, truD, tupE, lstE, parS, List.foldl, seqI, startD]
  rcases first_wrong_go (I := ⟨pairs 0 (ns.map D.int), fun _ => True⟩) (fun _ => trivial) S ns 0 none none (.tup (ns.map D.int)) with ⟨h, v, w, q⟩ | ⟨h, i, q⟩
  · refine .inl ⟨h, ?_⟩
    unfold fnB seqS forS
    rw [e]
    simp only [RE.toS]
    rw [show startD 3 [.tup (ns.map D.int)] = [some (.tup (ns.map D.int)), none, none] from rfl, q]
    simp [callE, consA, nilA, varE, conE, startD, RE.bind, RE.toS, RS.andThen, andE, orE, notE, bltE, binE, unE, chainE, testE, truE, notT, andT, orT, ifE, ifS, seqS, asgS, retS, exprS, passS, nameG, tupG, consG, nilG, methE, isTy, lstOf, seqOf, fnB, truD, tupE, lstE, parS, List.foldl]
  · refine .inr ⟨h, i, ?_⟩
    unfold fnB seqS forS
    rw [e]
    simp only [RE.toS]
    rw [show startD 3 [.tup (ns.map D.int)] = [some (.tup (ns.map D.int)), none, none] from rfl, q]
    simp [callE, consA, nilA, varE, conE, startD, RE.bind, RE.toS, RS.andThen, andE, orE, notE, bltE, binE, unE, chainE, testE, truE, notT, andT, orT, ifE, ifS, seqS, asgS, retS, exprS, passS, nameG, tupG, consG, nilG, methE, isTy, lstOf, seqOf, fnB, truD, tupE, lstE, parS, List.foldl]
/-- a hall of these feet and pairs -/
def hallB (f p : List Int) : Bool := decide (1 ≤ f.length) && decide (f.length ≤ 20) && f.all szB && decide (p.length ≤ 20) && p.all szB
theorem is_hall_ok (f p : List Int) (S : Sto) : m_is_hall [.tup [.tup (f.map D.int), .tup (p.map D.int)]] S = .ok (.bl (hallB f p)) S := by
  unfold m_is_hall b_is_hall m_hall_error b_hall_error hallB
  have z : (2 : Nat) ≤ sizeLine := by decide
  have c1 : ((1 : Int) ≤ (f.length : Int)) ↔ 1 ≤ f.length := by omega
  have c2 : ((f.length : Int) ≤ 20) ↔ f.length ≤ 20 := by omega
  have c3 : ((20 : Int) < (p.length : Int)) ↔ ¬ p.length ≤ 20 := by omega
  by_cases h1 : 1 ≤ f.length <;> by_cases h2 : f.length ≤ 20 <;> by_cases h3 : p.length ≤ 20 <;> rcases first_wrong_tup f S with ⟨h4, h5⟩ | ⟨h4, i, h5⟩ <;> rcases first_wrong_tup p S with ⟨h6, h7⟩ | ⟨h6, j, h7⟩ <;>
    simp [callE, consA, nilA, varE, conE, startD, RE.bind, RE.toS, RS.andThen, andE, orE, notE, bltE, binE, unE, chainE, testE, truE, notT, andT, orT, ifE, ifS, seqS, asgS, retS, exprS, passS, nameG, tupG, consG, nilG, methE, isTy, lstOf, seqOf, fnB, truD, tupE, lstE, parS, List.foldl, isTup, lenD, leD, gtD, cmpD, neD, pyS, py, PyData.plain, PyData.depth, PyData.eqv, isD, DL.isNon, ifNN, c1, c2, c3, h1, h2, h3, h4, h5, h6, h7, z]

/-! ### numbers -/
abbrev FIG : Str := "0123456789"
def digB (c : Nat) : Bool := decide (c ∈ FIG.cps.toList)
theorem digB_iff (c : Nat) : digB c = true ↔ 48 ≤ c ∧ c ≤ 57 := by
  have e : FIG.cps.toList = [48, 49, 50, 51, 52, 53, 54, 55, 56, 57] := by decide +kernel
  unfold digB
  rw [decide_eq_true_iff, e]
  simp only [List.mem_cons, List.not_mem_nil, or_false]
  omega
theorem in_fig (neg : Bool) (c : Nat) (S : Sto) : inD neg (.str ⟨#[c]⟩) (.str FIG) S = .ok (.bl (xor neg (digB c))) S := by
  simp only [inD, pyS, py]
  rw [occ_one]
  rfl
def allDig (w : Str) : Bool := w.cps.toList.all digB
abbrev valOf (w : Str) : Int := ((NumText.digitsVal w.cps.toList : Nat) : Int)
theorem int_of {w : Str} (h : allDig w = true) (h1 : 1 ≤ w.length) (h2 : w.length ≤ 600) (S : Sto) : intD [.str w] S = .ok (.int (valOf w)) S := by
  have e : intText? w = some (valOf w) := intText_digits (fun c hc => (digB_iff c).mp (List.all_eq_true.mp h c hc)) (fun z => by
    have : w.cps.toList.length = w.length := Array.length_toList
    rw [z] at this
    simp at this
    omega) (by omega)
  show (match intText? w with | some n => if w.length ≤ 640 then RE.ok (D.int n) S else .bad | none => .bad) = _
  rw [e]
  exact if_pos (by omega)
def fIn : D → D
  | .str x => .bl (!(Builtin.Str.occurrences FIG x 0 FIG.length 1).isEmpty)
  | _ => .non
theorem bls_chars : ∀ l : List Nat, blsOf ((l.map fun c => D.str ⟨#[c]⟩).map fIn) = some (l.map digB)
  | [] => rfl
  | c :: l => by
    rw [List.map_cons, List.map_cons]
    have e : fIn (.str ⟨#[c]⟩) = .bl (digB c) := by
      show D.bl (!(Builtin.Str.occurrences FIG ⟨#[c]⟩ 0 FIG.length 1).isEmpty) = _
      rw [occ_one]
      rfl
    rw [e]
    simp only [blsOf]
    rw [bls_chars l]
    rfl
theorem all_fig {w : Str} (hz : w.length ≤ sizeLine) (v : Option D) (S : Sto) :
    bltE allD (consA (lcE (chI (varE 0)) [1] (nameG 1) noT (binE (inD false) (varE 1) (conE (.str FIG)))) nilA) [some (.str w), v] S = .ok (.bl (allDig w)) S := by
  have hl : (chars w).length ≤ sizeLine := by unfold chars; rw [List.length_map, Array.length_toList]; exact hz
  have e : lcM (chI (varE 0)) [1] (nameG 1) noT (binE (inD false) (varE 1) (conE (.str FIG))) [some (.str w), v] S = .ok ((chars w).map fIn) S := by
    unfold lcM chI
    simp [callE, consA, nilA, varE, conE, startD, RE.bind, RE.toS, RS.andThen, andE, orE, notE, bltE, binE, unE, chainE, testE, truE, notT, andT, orT, ifE, ifS, seqS, asgS, retS, exprS, passS, nameG, tupG, consG, nilG, methE, isTy, lstOf, seqOf, fnB, truD, tupE, lstE, parS, List.foldl, wipeL]
    refine lcGo_map (f := fIn) trivial _ (fun d hd => ?_) hl
    unfold chars at hd
    obtain ⟨c, _, rfl⟩ := List.mem_map.mp hd
    refine ⟨_, rfl, ?_⟩
    simp [callE, consA, nilA, varE, conE, startD, RE.bind, RE.toS, RS.andThen, andE, orE, notE, bltE, binE, unE, chainE, testE, truE, notT, andT, orT, ifE, ifS, seqS, asgS, retS, exprS, passS, nameG, tupG, consG, nilG, methE, isTy, lstOf, seqOf, fnB, truD, tupE, lstE, parS, List.foldl, inD, pyS, py, fIn]
  unfold lcE
  simp [callE, consA, nilA, varE, conE, startD, RE.bind, RE.toS, RS.andThen, andE, orE, notE, bltE, binE, unE, chainE, testE, truE, notT, andT, orT, ifE, ifS, seqS, asgS, retS, exprS, passS, nameG, tupG, consG, nilG, methE, isTy, lstOf, seqOf, fnB, truD, tupE, lstE, parS, List.foldl, e, allD]
  unfold chars
  rw [bls_chars]
  simp [allDig, List.all_map]
def numP (w : Str) : Option Int := if 1 ≤ w.length ∧ w.length ≤ 8 ∧ allDig w = true then (if w.cps.toList.head? = some 48 ∧ w ≠ "0" then none else some (valOf w)) else none
def optD : Option Int → D
  | some n => .int n
  | none => .non

theorem toList_len (w : Str) : w.cps.toList.length = w.length := Array.length_toList
theorem str_cons {w : Str} (h : 1 ≤ w.length) : ∃ c cs, w.cps.toList = c :: cs := by
  cases e : w.cps.toList with
  | nil =>
    have := toList_len w
    rw [e] at this
    simp at this
    omega
  | cons c cs => exact ⟨c, cs, rfl⟩
theorem at_zero {α : Type} (c : α) (cs : List α) : atI (c :: cs) 0 = some c := by
  simp [atI, ixN]
theorem ix0 {w : Str} {c : Nat} {cs : List Nat} (hz : w.length ≤ sizeLine) (e : w.cps.toList = c :: cs) (S : Sto) : ixD (.str w) (.int 0) S = .ok (.str ⟨#[c]⟩) S := by
  show (if w.length ≤ sizeLine then (match atI w.cps.toList 0 with
      | some c => RE.ok (D.str ⟨#[c]⟩) S
      | none => .bad) else .bad) = _
  rw [if_pos hz, e, at_zero]
theorem one_eq (c : Nat) : ((⟨#[c]⟩ : Str) == "0") = decide (c = 48) := by
  by_cases h : c = 48
  · subst h
    decide
  · rw [decide_eq_false h]
    refine Bool.eq_false_iff.mpr fun z => h ?_
    have e : (⟨#[c]⟩ : Str) = "0" := eq_of_beq z
    have e2 : (⟨#[c]⟩ : Str).cps.toList = ("0" : Str).cps.toList := by rw [e]
    have e3 : ("0" : Str).cps.toList = [48] := by decide +kernel
    rw [e3] at e2
    simpa using e2
theorem eq_str (x y : Str) (S : Sto) : eqD (.str x) (.str y) S = .ok (.bl (x == y)) S := by
  simp [callE, consA, nilA, varE, conE, startD, RE.bind, RE.toS, RS.andThen, andE, orE, notE, bltE, binE, unE, chainE, testE, truE, notT, andT, orT, ifE, ifS, seqS, asgS, retS, exprS, passS, nameG, tupG, consG, nilG, methE, isTy, lstOf, seqOf, fnB, truD, tupE, lstE, parS, List.foldl, eqD, pyS, py, PyData.plain, PyData.depth, PyData.eqv]
theorem ne_str (x y : Str) (S : Sto) : neD (.str x) (.str y) S = .ok (.bl (!(x == y))) S := by
  simp [callE, consA, nilA, varE, conE, startD, RE.bind, RE.toS, RS.andThen, andE, orE, notE, bltE, binE, unE, chainE, testE, truE, notT, andT, orT, ifE, ifS, seqS, asgS, retS, exprS, passS, nameG, tupG, consG, nilG, methE, isTy, lstOf, seqOf, fnB, truD, tupE, lstE, parS, List.foldl, neD, pyS, py, PyData.plain, PyData.depth, PyData.eqv]
theorem parse_number_ok {w : Str} (hz : w.length ≤ sizeLine) (S : Sto) : m_parse_number [.str w] S = .ok (optD (numP w)) S := by
  unfold m_parse_number b_parse_number numP
  have ha := all_fig (w := w) hz none
  have c1 : ((1 : Int) ≤ (w.length : Int)) ↔ 1 ≤ w.length := by omega
  have c2 : ((w.length : Int) ≤ 8) ↔ w.length ≤ 8 := by omega
  have st : startD 2 [.str w] = [some (.str w), none] := rfl
  have len : ∀ S, bltE lenD (consA (varE 0) nilA) [some (.str w), none] S = .ok (.int w.length) S := fun S => by
    simp [callE, consA, nilA, varE, conE, startD, RE.bind, RE.toS, RS.andThen, andE, orE, notE, bltE, binE, unE, chainE, testE, truE, notT, andT, orT, ifE, ifS, seqS, asgS, retS, exprS, passS, nameG, tupG, consG, nilG, methE, isTy, lstOf, seqOf, fnB, truD, tupE, lstE, parS, List.foldl, lenD, hz]
  unfold fnB
  rw [st]
  by_cases h1 : 1 ≤ w.length
  case neg => simp [callE, consA, nilA, varE, conE, startD, RE.bind, RE.toS, RS.andThen, andE, orE, notE, bltE, binE, unE, chainE, testE, truE, notT, andT, orT, ifE, ifS, seqS, asgS, retS, exprS, passS, nameG, tupG, consG, nilG, methE, isTy, lstOf, seqOf, fnB, truD, tupE, lstE, parS, List.foldl, lenD, hz, leD, cmpD, c1, c2, h1, optD]
  by_cases h2 : w.length ≤ 8
  case neg => simp [callE, consA, nilA, varE, conE, startD, RE.bind, RE.toS, RS.andThen, andE, orE, notE, bltE, binE, unE, chainE, testE, truE, notT, andT, orT, ifE, ifS, seqS, asgS, retS, exprS, passS, nameG, tupG, consG, nilG, methE, isTy, lstOf, seqOf, fnB, truD, tupE, lstE, parS, List.foldl, lenD, hz, leD, cmpD, c1, c2, h1, h2, optD]
  cases h3 : allDig w with
  | false =>
    rw [h3] at ha
    have t : orT (notT (testE (chainE leD leD (conE (.int 1)) (bltE lenD (consA (varE 0) nilA)) (conE (.int 8))))) (notT (truE (bltE allD (consA (lcE (chI (varE 0)) [1] (nameG 1) noT (binE (inD false) (varE 1) (conE (.str FIG)))) nilA)))) [some (.str w), none] S = .ok true S := by
      simp [orT, notT, testE, truE, chainE, conE, RE.bind, len, ha, leD, cmpD, truD, c1, c2, h1, h2]
    unfold seqS ifS
    rw [t]
    simp [callE, consA, nilA, varE, conE, startD, RE.bind, RE.toS, RS.andThen, andE, orE, notE, bltE, binE, unE, chainE, testE, truE, notT, andT, orT, ifE, ifS, seqS, asgS, retS, exprS, passS, nameG, tupG, consG, nilG, methE, isTy, lstOf, seqOf, fnB, truD, tupE, lstE, parS, List.foldl, optD]
  | true =>
    rw [h3] at ha
    have t : orT (notT (testE (chainE leD leD (conE (.int 1)) (bltE lenD (consA (varE 0) nilA)) (conE (.int 8))))) (notT (truE (bltE allD (consA (lcE (chI (varE 0)) [1] (nameG 1) noT (binE (inD false) (varE 1) (conE (.str FIG)))) nilA)))) [some (.str w), none] S = .ok false S := by
      simp [orT, notT, testE, truE, chainE, conE, RE.bind, len, ha, leD, cmpD, truD, c1, c2, h1, h2]
    obtain ⟨c, cs, e⟩ := str_cons h1
    have i0 := ix0 hz e S
    unfold seqS ifS
    rw [t]
    by_cases h4 : c = 48
    · by_cases h5 : w = "0"
      · have h5' : (w == ("0" : Str)) = true := by simpa using h5
        have h6 := eq_true h5
        clear h5
        simp [callE, consA, nilA, varE, conE, startD, RE.bind, RE.toS, RS.andThen, andE, orE, notE, bltE, binE, unE, chainE, testE, truE, notT, andT, orT, ifE, ifS, seqS, asgS, retS, exprS, passS, nameG, tupG, consG, nilG, methE, isTy, lstOf, seqOf, fnB, truD, tupE, lstE, parS, List.foldl, i0, eq_str, ne_str, one_eq, h1, h2, h3, h4, h5', h6, e, optD, int_of h3 h1 (by omega)]
      · have h5' : (w == ("0" : Str)) = false := by simpa using h5
        simp [callE, consA, nilA, varE, conE, startD, RE.bind, RE.toS, RS.andThen, andE, orE, notE, bltE, binE, unE, chainE, testE, truE, notT, andT, orT, ifE, ifS, seqS, asgS, retS, exprS, passS, nameG, tupG, consG, nilG, methE, isTy, lstOf, seqOf, fnB, truD, tupE, lstE, parS, List.foldl, i0, eq_str, ne_str, one_eq, h1, h2, h3, h4, h5, h5', e, optD, int_of h3 h1 (by omega)]
    · simp [callE, consA, nilA, varE, conE, startD, RE.bind, RE.toS, RS.andThen, andE, orE, notE, bltE, binE, unE, chainE, testE, truE, notT, andT, orT, ifE, ifS, seqS, asgS, retS, exprS, passS, nameG, tupG, consG, nilG, methE, isTy, lstOf, seqOf, fnB, truD, tupE, lstE, parS, List.foldl, i0, eq_str, ne_str, one_eq, h1, h2, h3, h4, e, optD, int_of h3 h1 (by omega)]

/-! ### the sizes of a word -/
abbrev parts (w : Str) : List Str := Txt.split w ","
def headB (p : Str) : Bool := decide (p.cps.toList.head? = some 48)
def partB (p : Str) : Bool := decide (1 ≤ p.length) && decide (p.length ≤ 7) && allDig p && !headB p && decide (valOf p ≤ 1000000)
def sizesD (w : Str) : D := if (parts w).all partB = true ∧ (parts w).length ≤ 20 then .tup ((parts w).map fun p => .int (valOf p)) else .non
theorem val_fold : ∀ (cs : List Nat) (acc : Nat), acc * 10 ^ cs.length ≤ cs.foldl (fun acc c => acc * 10 + (c - 48)) acc
  | [], acc => by simp
  | c :: cs, acc => by
    have h := val_fold cs (acc * 10 + (c - 48))
    rw [List.foldl_cons, List.length_cons, Nat.pow_succ]
    refine Nat.le_trans ?_ h
    rw [show acc * (10 ^ cs.length * 10) = (acc * 10) * 10 ^ cs.length by rw [Nat.mul_comm (10 ^ cs.length) 10, Nat.mul_assoc]]
    exact Nat.mul_le_mul_right _ (Nat.le_add_right _ _)
theorem val_low {p : Str} {c : Nat} {cs : List Nat} (e : p.cps.toList = c :: cs) : (c - 48) * 10 ^ cs.length ≤ NumText.digitsVal p.cps.toList := by
  rw [e]
  unfold NumText.digitsVal
  rw [List.foldl_cons]
  have := val_fold cs (0 * 10 + (c - 48))
  simpa using this
/-- a part is the text of a size, by the package and by the law -/
theorem part_iff (p : Str) : (match numP p with | some n => szB n | none => false) = partB p := by
  unfold numP partB headB szB
  by_cases h1 : 1 ≤ p.length
  case neg => simp [h1]
  obtain ⟨c, cs, e⟩ := str_cons h1
  have ln : cs.length + 1 = p.length := by rw [← toList_len, e]; rfl
  have lo := val_low e
  cases hd : allDig p with
  | false => simp [hd]
  | true =>
    have hc : 48 ≤ c ∧ c ≤ 57 := (digB_iff c).mp (List.all_eq_true.mp hd c (by rw [e]; exact List.mem_cons_self ..))
    by_cases h8 : p.length ≤ 8
    case neg =>
      have : ¬ p.length ≤ 7 := by omega
      simp [h8, this]
    by_cases h0 : c = 48
    · subst h0
      by_cases hz : p = "0"
      · subst hz
        have e0 : (("0" : Str).cps.toList) = [48] := by decide +kernel
        have l0 : ("0" : Str).length = 1 := by decide +kernel
        have v0 : valOf "0" = 0 := by
          show ((NumText.digitsVal ("0" : Str).cps.toList : Nat) : Int) = 0
          rw [e0]
          rfl
        simp [e0, l0, hd, v0]
      · simp [e, hz]
    · have pos : 1 ≤ NumText.digitsVal p.cps.toList := by
        refine Nat.le_trans ?_ lo
        exact Nat.mul_pos (by omega) (Nat.pos_of_ne_zero (by simp))
      have pos' : (1 : Int) ≤ valOf p := by
        show (1 : Int) ≤ ((NumText.digitsVal p.cps.toList : Nat) : Int)
        omega
      by_cases h7 : p.length ≤ 7
      · simp [h1, h8, h7, e, h0]
        intro _
        exact pos'
      · have e8 : cs.length = 7 := by omega
        have big : 10000000 ≤ NumText.digitsVal p.cps.toList := by
          refine Nat.le_trans ?_ lo
          rw [e8]
          have : 1 ≤ c - 48 := by omega
          calc 10000000 = 1 * 10 ^ 7 := by decide
            _ ≤ (c - 48) * 10 ^ 7 := Nat.mul_le_mul_right _ this
        have nb : ¬ valOf p ≤ 1000000 := by
          show ¬ ((NumText.digitsVal p.cps.toList : Nat) : Int) ≤ 1000000
          omega
        simp [h1, h8, h7, e, h0, nb]
theorem part_val {p : Str} (h : partB p = true) : numP p = some (valOf p) := by
  have := part_iff p
  rw [h] at this
  cases e : numP p with
  | none => rw [e] at this; simp at this
  | some n =>
    unfold numP at e
    split at e
    · split at e
      · cases e
      · exact e.symm ▸ rfl
    · cases e

/-! ### numbers of a word -/
def pyO : Option Int → PyData
  | some n => .int n
  | none => .none
theorem pys_opts (f : Nat → Option PyData) : ∀ l : List (Option Int), pys f (l.map optD) = some (l.map pyO)
  | [] => rfl
  | o :: l => by
    rw [List.map_cons, List.map_cons]
    unfold pys
    rw [pys_opts f l]
    cases o <;> rfl
theorem plain_opts : ∀ l : List (Option Int), PyData.plainAll (l.map pyO) = true
  | [] => rfl
  | o :: l => by
    rw [List.map_cons]
    unfold PyData.plainAll
    rw [plain_opts l]
    cases o <;> rfl
theorem none_in_opts (neg : Bool) (l : List (Option Int)) (S : Sto) : inD neg .non (.tup (l.map optD)) S = .ok (.bl (xor neg (l.any (·.isNone)))) S := by
  have e1 : pyS S (.tup (l.map optD)) = some (.tuple (l.map pyO)) := by
    show (pys (deref S) (l.map optD)).map PyData.tuple = _
    rw [pys_opts]
    rfl
  have e2 : (l.map pyO).any (fun q => PyData.eqv q .none) = l.any (·.isNone) := by
    rw [List.any_map]
    congr 1
    funext o
    cases o <;> rfl
  unfold inD
  rw [e1]
  show (if PyData.plain .none = true ∧ PyData.plainAll (l.map pyO) = true ∧ PyData.depth .none ≤ 16 then RE.ok (D.bl (xor neg ((l.map pyO).any fun q => PyData.eqv q .none))) S else .bad) = _
  rw [plain_opts, e2]
  rfl
theorem split_len {w : Str} : (parts w).length ≤ w.length + 2 := split_le w ","
theorem part_le {w p : Str} (h : p ∈ parts w) : p.length ≤ w.length := part_short h
def numsD (w : Str) : D := if ((parts w).map numP).any (·.isNone) = true then .non else .tup (((parts w).map numP).map optD)
theorem comma : (("," : Str).length == 0) = false := by decide +kernel
theorem split_ok {w : Str} (hw : w.length + 2 ≤ sizeLine) (S : Sto) : splitD (.str w) [.str ","] S = .ok (.lst ((parts w).map D.str)) S := by
  show (if (("," : Str).length == 0) = false ∧ w.length + 2 ≤ sizeLine then RE.ok (D.lst ((Txt.split w ",").map D.str)) S else .bad) = _
  rw [if_pos ⟨comma, hw⟩]
def fNum : D → D
  | .str p => optD (numP p)
  | _ => .non
theorem parse_numbers_ok {w : Str} (hw : w.length + 2 ≤ sizeLine) (S : Sto) : m_parse_numbers [.str w] S = .ok (numsD w) S := by
  have st : startD 3 [.str w] = [some (.str w), none, none] := rfl
  have hl : ((parts w).map D.str).length ≤ sizeLine := by
    rw [List.length_map]
    exact Nat.le_trans split_len hw
  have e : lcM (lsI (methE "str" splitD (varE 0) (consA (conE (.str ",")) nilA))) [2] (nameG 2) noT (callE 1 [] m_parse_number (consA (varE 2) nilA)) [some (.str w), none, none] S = .ok (((parts w).map D.str).map fNum) S := by
    unfold lcM lsI
    simp [callE, consA, nilA, varE, conE, startD, RE.bind, RE.toS, RS.andThen, andE, orE, notE, bltE, binE, unE, chainE, testE, truE, notT, andT, orT, ifE, ifS, seqS, asgS, retS, exprS, passS, nameG, tupG, consG, nilG, methE, isTy, lstOf, seqOf, fnB, truD, tupE, lstE, parS, List.foldl, wipeL, split_ok hw]
    rw [← List.map_map] at *
    refine lcGo_map (f := fNum) ?_ _ (fun d hd => ?_) hl
    · trivial
    obtain ⟨p, hp, rfl⟩ := List.mem_map.mp hd
    have hz : p.length ≤ sizeLine := Nat.le_trans (part_le hp) (by omega)
    refine ⟨_, rfl, ?_⟩
    simp [callE, consA, nilA, varE, conE, startD, RE.bind, RE.toS, RS.andThen, andE, orE, notE, bltE, binE, unE, chainE, testE, truE, notT, andT, orT, ifE, ifS, seqS, asgS, retS, exprS, passS, nameG, tupG, consG, nilG, methE, isTy, lstOf, seqOf, fnB, truD, tupE, lstE, parS, List.foldl, parse_number_ok hz, fNum]
  have e2 : ((parts w).map D.str).map fNum = ((parts w).map numP).map optD := by
    rw [List.map_map, List.map_map]
    rfl
  rw [e2] at e
  unfold m_parse_numbers b_parse_numbers fnB
  rw [st]
  have t : bltE tupleD (consA (lcE (lsI (methE "str" splitD (varE 0) (consA (conE (.str ",")) nilA))) [2] (nameG 2) noT (callE 1 [] m_parse_number (consA (varE 2) nilA))) nilA) [some (.str w), none, none] S = .ok (.tup (((parts w).map numP).map optD)) S := by
    rw [bltE_one (lcE_ok e)]
    rfl
  rw [seqS_nx (asgS_ok t rfl)]
  unfold numsD
  generalize (parts w).map numP = ons
  cases hn : ons.any (·.isNone) <;> simp [callE, consA, nilA, varE, conE, startD, RE.bind, RE.toS, RS.andThen, andE, orE, notE, bltE, binE, unE, chainE, testE, truE, notT, andT, orT, ifE, ifS, seqS, asgS, retS, exprS, passS, nameG, tupG, consG, nilG, methE, isTy, lstOf, seqOf, fnB, truD, tupE, lstE, parS, List.foldl, none_in_opts, hn]
/-- the part's numbers, where all are there -/
theorem nums_sizes (w : Str) : (∃ ns : List Int, numsD w = .tup (ns.map D.int) ∧ ((ns.all szB = true ∧ ns.length ≤ 20 ∧ sizesD w = .tup (ns.map D.int)) ∨ (¬ (ns.all szB = true ∧ ns.length ≤ 20) ∧ sizesD w = .non)) ∧ ns.length = (parts w).length) ∨ (numsD w = .non ∧ sizesD w = .non) := by
  unfold numsD sizesD
  generalize parts w = l
  cases hn : (l.map numP).any (·.isNone) with
  | true =>
    refine .inr ⟨rfl, ?_⟩
    rw [if_neg]
    rintro ⟨h, _⟩
    obtain ⟨o, ho, h1⟩ := List.any_eq_true.mp hn
    obtain ⟨p, hp, rfl⟩ := List.mem_map.mp ho
    rw [part_val (List.all_eq_true.mp h p hp)] at h1
    cases h1
  | false =>
    have all : ∀ p ∈ l, ∃ n, numP p = some n := fun p hp => by
      have := List.any_eq_false.mp hn (numP p) (List.mem_map_of_mem hp)
      cases e : numP p with
      | none => rw [e] at this; simp at this
      | some n => exact ⟨n, rfl⟩
    have ex : ∀ l : List Str, (∀ p ∈ l, ∃ n, numP p = some n) → ∃ ns : List Int, (l.map numP).map optD = ns.map D.int ∧ ns.all szB = l.all partB ∧ ns.length = l.length ∧ (l.all partB = true → ns.map D.int = l.map fun p => D.int (valOf p)) := by
      intro l
      induction l with
      | nil => intro _; exact ⟨[], rfl, rfl, rfl, fun _ => rfl⟩
      | cons p l ih =>
        intro h
        obtain ⟨n, hn⟩ := h p (List.mem_cons_self ..)
        obtain ⟨ns, e1, e2, e3, e4⟩ := ih fun q hq => h q (List.mem_cons_of_mem _ hq)
        have pi := part_iff p
        rw [hn] at pi
        refine ⟨n :: ns, ?_, ?_, by rw [List.length_cons, List.length_cons, e3], fun ha => ?_⟩
        · rw [List.map_cons, List.map_cons, e1, hn]
          rfl
        · rw [List.all_cons, List.all_cons, e2, ← pi]
        · rw [List.all_cons, Bool.and_eq_true] at ha
          rw [List.map_cons, List.map_cons, e4 ha.2]
          have := part_val ha.1
          rw [hn] at this
          cases this
          rfl
    obtain ⟨ns, e1, e2, e3, e4⟩ := ex l all
    refine .inl ⟨ns, ?_, ?_, e3⟩
    · rw [if_neg Bool.false_ne_true, e1]
    · rw [e2, e3]
      by_cases h : l.all partB = true ∧ l.length ≤ 20
      · exact .inl ⟨h.1, h.2, by rw [if_pos h, e4 h.1]⟩
      · exact .inr ⟨h, if_neg h⟩
theorem parts_pos (w : Str) : 1 ≤ (parts w).length := split_pos w ","
theorem parse_feet_ok {w : Str} (hw : w.length + 2 ≤ sizeLine) (S : Sto) : m_parse_feet [.str w] S = .ok (sizesD w) S := by
  have st : startD 2 [.str w] = [some (.str w), none] := rfl
  have nums := parse_numbers_ok hw
  unfold m_parse_feet b_parse_feet fnB
  rw [st]
  rcases nums_sizes w with ⟨ns, e, h, hl⟩ | ⟨e, h⟩
  · rw [e] at nums
    have hall := is_hall_ok ns []
    have hp := parts_pos w
    have z : (2 : Nat) ≤ sizeLine := by decide
    rcases h with ⟨h1, h2, h3⟩ | ⟨h1, h3⟩
    · have hb : hallB ns [] = true := by
        unfold hallB
        simp [h1, h2]
        omega
      rw [hb] at hall
      rw [List.map_nil] at hall
      rw [h3]
      simp [callE, consA, nilA, varE, conE, startD, RE.bind, RE.toS, RS.andThen, andE, orE, notE, bltE, binE, unE, chainE, testE, truE, notT, andT, orT, ifE, ifS, seqS, asgS, retS, exprS, passS, nameG, tupG, consG, nilG, methE, isTy, lstOf, seqOf, fnB, truD, tupE, lstE, parS, List.foldl, nums, isD, DL.isNon, hall, z]
    · have hb : hallB ns [] = false := by
        unfold hallB
        by_cases h2 : ns.length ≤ 20
        · have h1' : ns.all szB = false := by
            cases q : ns.all szB with
            | false => rfl
            | true => exact absurd ⟨q, h2⟩ h1
          simp [h1']
        · simp [h2]
      rw [hb] at hall
      rw [List.map_nil] at hall
      rw [h3]
      simp [callE, consA, nilA, varE, conE, startD, RE.bind, RE.toS, RS.andThen, andE, orE, notE, bltE, binE, unE, chainE, testE, truE, notT, andT, orT, ifE, ifS, seqS, asgS, retS, exprS, passS, nameG, tupG, consG, nilG, methE, isTy, lstOf, seqOf, fnB, truD, tupE, lstE, parS, List.foldl, nums, isD, DL.isNon, hall, z]
  · rw [e] at nums
    rw [h]
    simp [callE, consA, nilA, varE, conE, startD, RE.bind, RE.toS, RS.andThen, andE, orE, notE, bltE, binE, unE, chainE, testE, truE, notT, andT, orT, ifE, ifS, seqS, asgS, retS, exprS, passS, nameG, tupG, consG, nilG, methE, isTy, lstOf, seqOf, fnB, truD, tupE, lstE, parS, List.foldl, nums, isD, DL.isNon]
def pairsD (w : Str) : D := if w = "-" then .tup [] else sizesD w
theorem parse_pairs_ok {w : Str} (hw : w.length + 2 ≤ sizeLine) (S : Sto) : m_parse_pairs [.str w] S = .ok (pairsD w) S := by
  have st : startD 2 [.str w] = [some (.str w), none] := rfl
  have nums := parse_numbers_ok hw
  have z : (2 : Nat) ≤ sizeLine := by decide
  have z1 : (1 : Nat) ≤ sizeLine := by decide
  unfold m_parse_pairs b_parse_pairs pairsD fnB
  rw [st]
  by_cases hd : w = "-"
  · have hd' : (w == ("-" : Str)) = true := by simpa using hd
    rw [if_pos hd]
    clear hd
    simp [callE, consA, nilA, varE, conE, startD, RE.bind, RE.toS, RS.andThen, andE, orE, notE, bltE, binE, unE, chainE, testE, truE, notT, andT, orT, ifE, ifS, seqS, asgS, retS, exprS, passS, nameG, tupG, consG, nilG, methE, isTy, lstOf, seqOf, fnB, truD, tupE, lstE, parS, List.foldl, eq_str, hd']
  have hd' : (w == ("-" : Str)) = false := by simpa using hd
  rw [if_neg hd]
  rcases nums_sizes w with ⟨ns, e, h, hl⟩ | ⟨e, h⟩
  · rw [e] at nums
    have hall := is_hall_ok [1] ns
    rcases h with ⟨h1, h2, h3⟩ | ⟨h1, h3⟩
    · have hb : hallB [1] ns = true := by
        unfold hallB
        simp [h1, h2, szB]
      rw [hb] at hall
      rw [List.map_cons, List.map_nil] at hall
      rw [h3]
      simp [callE, consA, nilA, varE, conE, startD, RE.bind, RE.toS, RS.andThen, andE, orE, notE, bltE, binE, unE, chainE, testE, truE, notT, andT, orT, ifE, ifS, seqS, asgS, retS, exprS, passS, nameG, tupG, consG, nilG, methE, isTy, lstOf, seqOf, fnB, truD, tupE, lstE, parS, List.foldl, eq_str, hd', nums, isD, DL.isNon, hall, z, z1]
    · have hb : hallB [1] ns = false := by
        unfold hallB
        by_cases h2 : ns.length ≤ 20
        · have h1' : ns.all szB = false := by
            cases q : ns.all szB with
            | false => rfl
            | true => exact absurd ⟨q, h2⟩ h1
          simp [h1']
        · simp [h2]
      rw [hb] at hall
      rw [List.map_cons, List.map_nil] at hall
      rw [h3]
      simp [callE, consA, nilA, varE, conE, startD, RE.bind, RE.toS, RS.andThen, andE, orE, notE, bltE, binE, unE, chainE, testE, truE, notT, andT, orT, ifE, ifS, seqS, asgS, retS, exprS, passS, nameG, tupG, consG, nilG, methE, isTy, lstOf, seqOf, fnB, truD, tupE, lstE, parS, List.foldl, eq_str, hd', nums, isD, DL.isNon, hall, z, z1]
  · rw [e] at nums
    rw [h]
    simp [callE, consA, nilA, varE, conE, startD, RE.bind, RE.toS, RS.andThen, andE, orE, notE, bltE, binE, unE, chainE, testE, truE, notT, andT, orT, ifE, ifS, seqS, asgS, retS, exprS, passS, nameG, tupG, consG, nilG, methE, isTy, lstOf, seqOf, fnB, truD, tupE, lstE, parS, List.foldl, eq_str, hd', nums, isD, DL.isNon]

/-! ### the law's own reading of a word -/
theorem pys_strs (f : Nat → Option PyData) : ∀ l : List Str, pys f (l.map D.str) = some (l.map PyData.str)
  | [] => rfl
  | x :: l => by
    rw [List.map_cons, List.map_cons]
    unfold pys
    rw [pys_strs f l]
    rfl
theorem plain_strs : ∀ l : List Str, PyData.plainAll (l.map PyData.str) = true
  | [] => rfl
  | x :: l => by
    rw [List.map_cons]
    unfold PyData.plainAll
    rw [plain_strs l]
    rfl
theorem depth_strs : ∀ l : List Str, PyData.depthAll (l.map PyData.str) ≤ 1
  | [] => by decide
  | x :: l => by
    rw [List.map_cons]
    unfold PyData.depthAll
    have := depth_strs l
    simp only [PyData.depth]
    omega
theorem strs_ne (l : List Str) (S : Sto) : neD (.lst (l.map D.str)) (.lst []) S = .ok (.bl (!l.isEmpty)) S := by
  have e1 : pyS S (.lst (l.map D.str)) = some (.list (l.map PyData.str)) := by
    show (pys (deref S) (l.map D.str)).map PyData.list = _
    rw [pys_strs]
    rfl
  have e2 : PyData.eqv (.list (l.map PyData.str)) (.list []) = l.isEmpty := by
    cases l <;> rfl
  have e3 : PyData.depth (.list (l.map PyData.str)) ≤ 16 := by
    have := depth_strs l
    simp only [PyData.depth]
    omega
  have e4 : PyData.plain (.list (l.map PyData.str)) = true := plain_strs l
  unfold neD
  rw [e1]
  show (if PyData.plain (.list (l.map PyData.str)) = true ∧ PyData.plain (.list []) = true ∧ PyData.depth (.list (l.map PyData.str)) ≤ 16 then RE.ok (D.bl (!PyData.eqv (.list (l.map PyData.str)) (.list []))) S else .bad) = _
  rw [if_pos ⟨e4, rfl, e3⟩, e2]
/-- the characters that are no digits -/
theorem odd_chars {p : Str} (hz : p.length ≤ sizeLine) (a b v : Option D) (S : Sto) :
    lcE (chI (varE 2)) [3] (nameG 3) (testE (binE (inD true) (varE 3) (conE (.str FIG)))) (varE 3) [a, b, some (.str p), v] S = .ok (.lst (((p.cps.toList.filter fun c => !digB c).map fun c => (⟨#[c]⟩ : Str)).map D.str)) S := by
  refine lcE_ok ?_
  unfold lcM chI
  simp [callE, consA, nilA, varE, conE, startD, RE.bind, RE.toS, RS.andThen, andE, orE, notE, bltE, binE, unE, chainE, testE, truE, notT, andT, orT, ifE, ifS, seqS, asgS, retS, exprS, passS, nameG, tupG, consG, nilG, methE, isTy, lstOf, seqOf, fnB, truD, tupE, lstE, parS, List.foldl, wipeL]
  have hl : (chars p).length ≤ sizeLine := by unfold chars; rw [List.length_map, Array.length_toList]; exact hz
  refine (lcGo_pure (p := fun d => match d with | .str x => !(!(Builtin.Str.occurrences FIG x 0 FIG.length 1).isEmpty) | _ => false) (f := fun d => d) ?_ _ [] (fun d hd => ?_) (by simpa using hl)).trans ?_
  · trivial
  · unfold chars at hd
    obtain ⟨c, _, rfl⟩ := List.mem_map.mp hd
    refine ⟨_, rfl, ?_, fun _ => ?_⟩
    · simp [callE, consA, nilA, varE, conE, startD, RE.bind, RE.toS, RS.andThen, andE, orE, notE, bltE, binE, unE, chainE, testE, truE, notT, andT, orT, ifE, ifS, seqS, asgS, retS, exprS, passS, nameG, tupG, consG, nilG, methE, isTy, lstOf, seqOf, fnB, truD, tupE, lstE, parS, List.foldl, inD, pyS, py]
    · simp [callE, consA, nilA, varE, conE, startD, RE.bind, RE.toS, RS.andThen, andE, orE, notE, bltE, binE, unE, chainE, testE, truE, notT, andT, orT, ifE, ifS, seqS, asgS, retS, exprS, passS, nameG, tupG, consG, nilG, methE, isTy, lstOf, seqOf, fnB, truD, tupE, lstE, parS, List.foldl]
  · unfold chars
    rw [List.nil_append, List.map_id', List.filter_map]
    have e : ∀ c ∈ p.cps.toList, ((fun d => match d with | D.str x => !(!(Builtin.Str.occurrences FIG x 0 FIG.length 1).isEmpty) | _ => false) ∘ fun c => D.str ⟨#[c]⟩) c = !digB c := fun c _ => by
      show (!(!(Builtin.Str.occurrences FIG ⟨#[c]⟩ 0 FIG.length 1).isEmpty)) = !digB c
      rw [occ_one]
      rfl
    rw [List.filter_congr e]
    rfl
theorem odd_none (p : Str) : (((p.cps.toList.filter fun c => !digB c).map fun c => (⟨#[c]⟩ : Str)).isEmpty) = allDig p := by
  unfold allDig
  induction p.cps.toList with
  | nil => rfl
  | cons c cs ih =>
    rw [List.filter_cons, List.all_cons]
    cases digB c with
    | true => simpa using ih
    | false => rfl
theorem million (δ : DL.Loc) (S : Sto) : binE powD (conE (.int 10)) (conE (.int 6)) δ S = .ok (.int 1000000) S := by
  simp [callE, consA, nilA, varE, conE, startD, RE.bind, RE.toS, RS.andThen, andE, orE, notE, bltE, binE, unE, chainE, testE, truE, notT, andT, orT, ifE, ifS, seqS, asgS, retS, exprS, passS, nameG, tupG, consG, nilG, methE, isTy, lstOf, seqOf, fnB, truD, tupE, lstE, parS, List.foldl, intOpC]
noncomputable abbrev bSZ : MS := seqS (ifS (orT (notT (testE (chainE leD leD (conE (.int 1)) (bltE lenD (consA (varE 2) nilA)) (conE (.int 7))))) (testE (binE neD (lcE (chI (varE 2)) [3] (nameG 3) (testE (binE (inD true) (varE 3) (conE (.str FIG)))) (varE 3)) (lstE nilA)))) (retS (conE .non)) passS)
  (ifS (orT (testE (binE eqD (binE ixD (varE 2) (conE (.int 0))) (conE (.str "0")))) (testE (binE gtD (bltE intD (consA (varE 2) nilA)) (binE powD (conE (.int 10)) (conE (.int 6)))))) (retS (conE .non)) passS)
theorem bSZ_ok {p : Str} (hz : p.length ≤ sizeLine) (a b v : Option D) (S : Sto) : bSZ [a, b, some (.str p), v] S = if partB p = true then .nx [a, b, some (.str p), v] S else .rt .non S := by
  unfold bSZ partB headB
  have c1 : ((1 : Int) ≤ (p.length : Int)) ↔ 1 ≤ p.length := by omega
  have c2 : ((p.length : Int) ≤ 7) ↔ p.length ≤ 7 := by omega
  have len : ∀ S, bltE lenD (consA (varE 2) nilA) [a, b, some (.str p), v] S = .ok (.int p.length) S := fun S => by
    simp [callE, consA, nilA, varE, conE, startD, RE.bind, RE.toS, RS.andThen, andE, orE, notE, bltE, binE, unE, chainE, testE, truE, notT, andT, orT, ifE, ifS, seqS, asgS, retS, exprS, passS, nameG, tupG, consG, nilG, methE, isTy, lstOf, seqOf, fnB, truD, tupE, lstE, parS, List.foldl, lenD, hz]
  have od : ∀ S, (binE neD (lcE (chI (varE 2)) [3] (nameG 3) (testE (binE (inD true) (varE 3) (conE (.str FIG)))) (varE 3)) (lstE nilA)) [a, b, some (.str p), v] S = .ok (.bl (!allDig p)) S := fun S => by
    rw [binE_ok (odd_chars hz a b v S) (show lstE nilA _ S = .ok (.lst []) S from rfl), strs_ne, odd_none]
  have t0 := notT_ok (between (lo := 1) (hi := 7) (len S))
  have t1 : orT (notT (testE (chainE leD leD (conE (.int 1)) (bltE lenD (consA (varE 2) nilA)) (conE (.int 7))))) (testE (binE neD (lcE (chI (varE 2)) [3] (nameG 3) (testE (binE (inD true) (varE 3) (conE (.str FIG)))) (varE 3)) (lstE nilA))) [a, b, some (.str p), v] S = .ok (!(decide (1 ≤ p.length) && decide (p.length ≤ 7) && allDig p)) S := by
    cases h1 : (decide (1 ≤ p.length) && decide (p.length ≤ 7)) with
    | false =>
      have : (decide ((1 : Int) ≤ (p.length : Int)) && decide ((p.length : Int) ≤ 7)) = false := by
        rw [← h1]
        simp only [c1, c2]
      rw [this] at t0
      rw [orT_t t0]
      rfl
    | true =>
      have : (decide ((1 : Int) ≤ (p.length : Int)) && decide ((p.length : Int) ≤ 7)) = true := by
        rw [← h1]
        simp only [c1, c2]
      rw [this] at t0
      rw [orT_f t0, testE_bl (od S)]
      rfl
  cases h : (decide (1 ≤ p.length) && decide (p.length ≤ 7) && allDig p) with
  | false =>
    rw [h] at t1
    rw [seqS_rt ((ifS_t t1).trans (retS_ok rfl))]
    rfl
  | true =>
    rw [h] at t1
    rw [seqS_nx ((ifS_f t1).trans (show passS _ _ = _ from rfl))]
    simp only [Bool.and_eq_true, decide_eq_true_eq] at h
    obtain ⟨⟨h1, h2⟩, h3⟩ := h
    obtain ⟨c, cs, e⟩ := str_cons h1
    have i0 := ix0 hz e S
    have io := int_of h3 h1 (by omega) S
    have q0 : testE (binE eqD (binE ixD (varE 2) (conE (.int 0))) (conE (.str "0"))) [a, b, some (.str p), v] S = .ok (decide (c = 48)) S := by
      refine testE_bl ?_
      rw [binE_ok ((binE_ok (x := .str p) (y := .int 0) rfl rfl).trans i0) (show conE _ _ S = _ from rfl), eq_str, one_eq]
    have q1 : testE (binE gtD (bltE intD (consA (varE 2) nilA)) (binE powD (conE (.int 10)) (conE (.int 6)))) [a, b, some (.str p), v] S = .ok (decide (1000000 < valOf p)) S := by
      refine testE_bl ?_
      rw [binE_ok ((bltE_one (d := .str p) rfl).trans io) (million _ S)]
      rfl
    rw [e]
    by_cases h4 : c = 48
    · rw [decide_eq_true h4] at q0
      rw [ifS_t (orT_t q0)]
      simp [h4]
      rfl
    · rw [decide_eq_false h4] at q0
      by_cases h5 : valOf p ≤ 1000000
      · rw [decide_eq_false (by omega)] at q1
        rw [ifS_f ((orT_f q0).trans q1)]
        simp [h4, h5]
        rfl
      · rw [decide_eq_true (by omega)] at q1
        rw [ifS_t ((orT_f q0).trans q1)]
        simp [h4, h5]
        rfl

theorem sizes_go {I : ItD} (hI : ∀ S, I.ok S) (a b : Option D) (S : Sto) : ∀ (l : List Str) (v w : Option D), (∀ p ∈ l, p.length ≤ sizeLine) →
    (l.all partB = true ∧ ∃ v' w', forGo I (nameG 2) bSZ (l.map D.str) [a, b, v, w] S = .nx [a, b, v', w'] S) ∨ (l.all partB = false ∧ forGo I (nameG 2) bSZ (l.map D.str) [a, b, v, w] S = .rt .non S)
  | [], v, w, h => .inl ⟨rfl, v, w, forGo_nil (hI S)⟩
  | p :: l, v, w, h => by
    rw [List.map_cons, forGo_cons (hI S) (show nameG 2 (.str p) S [a, b, v, w] = some [a, b, some (.str p), w] from rfl), bSZ_ok (h p (List.mem_cons_self ..))]
    cases hp : partB p with
    | true =>
      rw [if_pos rfl]
      have ih := sizes_go hI a b S l (some (.str p)) w fun q hq => h q (List.mem_cons_of_mem _ hq)
      rw [List.all_cons, hp, Bool.true_and]
      exact ih
    | false =>
      rw [if_neg Bool.false_ne_true]
      exact .inr ⟨by rw [List.all_cons, hp, Bool.false_and], rfl⟩
def fVal : D → D
  | .str p => .int (valOf p)
  | _ => .non
theorem law_sizes_ok {w : Str} (hw : w.length + 2 ≤ sizeLine) (S : Sto) : m__law_sizes [.str w] S = .ok (sizesD w) S := by
  have st : startD 4 [.str w] = [some (.str w), none, none, none] := rfl
  have hl : ((parts w).map D.str).length ≤ sizeLine := by
    rw [List.length_map]
    exact Nat.le_trans split_len hw
  have hz : ∀ p ∈ parts w, p.length ≤ sizeLine := fun p hp => Nat.le_trans (part_le hp) (by omega)
  unfold m__law_sizes b__law_sizes sizesD
  have s1 : asgS (methE "str" splitD (varE 0) (consA (conE (.str ",")) nilA)) (nameG 1) [some (.str w), none, none, none] S = .nx [some (.str w), some (.lst ((parts w).map D.str)), none, none] S := by
    refine asgS_ok ?_ rfl
    simp [callE, consA, nilA, varE, conE, startD, RE.bind, RE.toS, RS.andThen, andE, orE, notE, bltE, binE, unE, chainE, testE, truE, notT, andT, orT, ifE, ifS, seqS, asgS, retS, exprS, passS, nameG, tupG, consG, nilG, methE, isTy, lstOf, seqOf, fnB, truD, tupE, lstE, parS, List.foldl, split_ok hw]
  have it : lsI (varE 1) [some (.str w), some (.lst ((parts w).map D.str)), none, none] S = .ok ⟨(parts w).map D.str, fun _ => True⟩ S := rfl
  rcases sizes_go (I := ⟨(parts w).map D.str, fun _ => True⟩) (fun _ => trivial) (some (.str w)) (some (.lst ((parts w).map D.str))) S (parts w) none none hz with ⟨h, v', w', q⟩ | ⟨h, q⟩
  · have len : bltE lenD (consA (varE 1) nilA) [some (.str w), some (.lst ((parts w).map D.str)), v', w'] S = .ok (.int (parts w).length) S := by
      rw [bltE_one (d := .lst ((parts w).map D.str)) rfl]
      simp [lenD, seqOf, lstOf]
    have t : testE (binE leD (bltE lenD (consA (varE 1) nilA)) (conE (.int 20))) [some (.str w), some (.lst ((parts w).map D.str)), v', w'] S = .ok (decide ((parts w).length ≤ 20)) S := by
      refine testE_bl ?_
      rw [binE_ok len (show conE _ _ S = _ from rfl)]
      show RE.ok (D.bl (decide (((parts w).length : Int) ≤ 20))) S = _
      congr 2
      exact decide_eq_decide.mpr (by omega)
    have e : lcM (lsI (varE 1)) [2] (nameG 2) noT (bltE intD (consA (varE 2) nilA)) [some (.str w), some (.lst ((parts w).map D.str)), v', w'] S = .ok (((parts w).map D.str).map fVal) S := by
      unfold lcM
      rw [show lsI (varE 1) [some (.str w), some (.lst ((parts w).map D.str)), v', w'] S = .ok ⟨(parts w).map D.str, fun _ => True⟩ S from rfl]
      refine lcGo_map (f := fVal) ?_ _ (fun d hd => ?_) hl
      · trivial
      obtain ⟨p, hp, rfl⟩ := List.mem_map.mp hd
      have hb := List.all_eq_true.mp h p hp
      unfold partB at hb
      simp only [Bool.and_eq_true, decide_eq_true_eq] at hb
      obtain ⟨⟨⟨⟨b1, b2⟩, b3⟩, _⟩, _⟩ := hb
      exact ⟨_, rfl, (bltE_one (d := .str p) rfl).trans (int_of b3 b1 (by omega) S)⟩
    refine fnB_rt (S1 := S) ?_
    rw [st, seqS_nx s1, seqS_nx ((forS_ok it).trans q)]
    refine retS_ok ?_
    by_cases h2 : (parts w).length ≤ 20
    · rw [decide_eq_true h2] at t
      rw [ifE_t t, if_pos ⟨h, h2⟩, bltE_one (lcE_ok e), List.map_map]
      rfl
    · rw [decide_eq_false h2] at t
      rw [ifE_f t, if_neg fun z => h2 z.2]
      rfl
  · refine fnB_rt (S1 := S) ?_
    rw [st, seqS_nx s1, seqS_rt ((forS_ok it).trans q), if_neg]
    rintro ⟨z, _⟩
    rw [z] at h
    cases h
/-- what a word denotes at its place -/
def partD (k : Int) (w : Str) : D := if k = 0 then sizesD w else if k = 1 then (if w = "/" then .str "/" else .non) else if k = 2 then pairsD w else .non
theorem eq_int (i j : Int) (S : Sto) : eqD (.int i) (.int j) S = .ok (.bl (i == j)) S := by
  simp [callE, consA, nilA, varE, conE, startD, RE.bind, RE.toS, RS.andThen, andE, orE, notE, bltE, binE, unE, chainE, testE, truE, notT, andT, orT, ifE, ifS, seqS, asgS, retS, exprS, passS, nameG, tupG, consG, nilG, methE, isTy, lstOf, seqOf, fnB, truD, tupE, lstE, parS, List.foldl, eqD, pyS, py, PyData.plain, PyData.depth, PyData.eqv]
theorem is_k (k j : Int) (a : Option D) (S : Sto) : testE (binE eqD (varE 0) (conE (.int j))) [some (.int k), a] S = .ok (decide (k = j)) S := by
  refine testE_bl ?_
  rw [binE_ok (x := .int k) (y := .int j) rfl rfl, eq_int]
  congr 2
theorem is_w (j : Str) (a : Option D) (w : Str) (S : Sto) : testE (binE eqD (varE 1) (conE (.str j))) [a, some (.str w)] S = .ok (decide (w = j)) S := by
  refine testE_bl ?_
  rw [binE_ok (x := .str w) (y := .str j) rfl rfl, eq_str]
  congr 2
theorem law_part_ok {k : Int} {w : Str} (hw : w.length + 2 ≤ sizeLine) (S : Sto) : m__law_part [.int k, .str w] S = .ok (partD k w) S := by
  unfold m__law_part b__law_part partD pairsD
  refine fnB_rt (S1 := S) ?_
  rw [show startD 2 [.int k, .str w] = [some (.int k), some (.str w)] from rfl]
  have k0 := is_k k 0 (some (.str w)) S
  have k1 := is_k k 1 (some (.str w)) S
  have k2 := is_k k 2 (some (.str w)) S
  by_cases h0 : k = 0
  · rw [decide_eq_true h0] at k0
    rw [seqS_rt ((ifS_t k0).trans (retS_ok ((callE_1 (d := .str w) rfl).trans (law_sizes_ok hw S)))), if_pos h0]
  rw [decide_eq_false h0] at k0
  rw [seqS_nx ((ifS_f k0).trans (show passS _ _ = _ from rfl)), if_neg h0]
  by_cases h1 : k = 1
  · rw [decide_eq_true h1] at k1
    have s := is_w "/" (some (.int k)) w S
    rw [if_pos h1]
    by_cases hs : w = "/"
    · rw [decide_eq_true hs] at s
      rw [seqS_rt ((ifS_t k1).trans (retS_ok ((ifE_t s).trans (show varE 1 _ S = .ok (.str w) S from rfl)))), if_pos hs, hs]
    · rw [decide_eq_false hs] at s
      rw [seqS_rt ((ifS_t k1).trans (retS_ok ((ifE_f s).trans (show conE _ _ S = _ from rfl)))), if_neg hs]
  rw [decide_eq_false h1] at k1
  rw [seqS_nx ((ifS_f k1).trans (show passS _ _ = _ from rfl)), if_neg h1]
  by_cases h2 : k = 2
  · rw [decide_eq_true h2] at k2
    have s := is_w "-" (some (.int k)) w S
    rw [if_pos h2]
    by_cases hs : w = "-"
    · rw [decide_eq_true hs] at s
      rw [seqS_rt ((ifS_t k2).trans (retS_ok ((ifE_t s).trans (show tupE nilA _ S = .ok (.tup []) S from rfl)))), if_pos hs]
    · rw [decide_eq_false hs] at s
      rw [seqS_rt ((ifS_t k2).trans (retS_ok ((ifE_f s).trans ((callE_1 (d := .str w) rfl).trans (law_sizes_ok hw S))))), if_neg hs]
  rw [decide_eq_false h2] at k2
  rw [seqS_nx ((ifS_f k2).trans (show passS _ _ = _ from rfl)), if_neg h2]
  rfl
theorem parse_part_ok {k : Int} (hk : 0 ≤ k) {w : Str} (hw : w.length + 2 ≤ sizeLine) (S : Sto) : m_parse_part [.int k, .str w] S = .ok (partD k w) S := by
  unfold m_parse_part b_parse_part partD
  refine fnB_rt (S1 := S) ?_
  rw [show startD 2 [.int k, .str w] = [some (.int k), some (.str w)] from rfl]
  have k0 := is_k k 0 (some (.str w)) S
  have k1 := is_k k 1 (some (.str w)) S
  by_cases h0 : k = 0
  · rw [decide_eq_true h0] at k0
    rw [seqS_rt ((ifS_t k0).trans (retS_ok ((callE_1 (d := .str w) rfl).trans (parse_feet_ok hw S)))), if_pos h0]
  rw [decide_eq_false h0] at k0
  rw [seqS_nx ((ifS_f k0).trans (show passS _ _ = _ from rfl)), if_neg h0]
  by_cases h1 : k = 1
  · rw [decide_eq_true h1] at k1
    have s := is_w "/" (some (.int k)) w S
    rw [if_pos h1]
    by_cases hs : w = "/"
    · rw [decide_eq_true hs] at s
      rw [seqS_rt ((ifS_t k1).trans (retS_ok ((ifE_t s).trans (show conE _ _ S = _ from rfl)))), if_pos hs]
    · rw [decide_eq_false hs] at s
      rw [seqS_rt ((ifS_t k1).trans (retS_ok ((ifE_f s).trans (show conE _ _ S = _ from rfl)))), if_neg hs]
  rw [decide_eq_false h1] at k1
  rw [seqS_nx ((ifS_f k1).trans (show passS _ _ = _ from rfl)), if_neg h1]
  refine retS_ok ?_
  have k3 : testE (binE ltD (varE 0) (conE (.int 3))) [some (.int k), some (.str w)] S = .ok (decide (k < 3)) S := testE_bl (binE_ok (x := .int k) (y := .int 3) rfl rfl)
  by_cases h2 : k = 2
  · rw [decide_eq_true (by omega)] at k3
    rw [ifE_t k3, if_pos h2]
    exact (callE_1 (d := .str w) rfl).trans (parse_pairs_ok hw S)
  · rw [decide_eq_false (by omega)] at k3
    rw [ifE_f k3, if_neg h2]
    rfl

/-! ### the whole text -/
abbrev words (x : Str) : List Str := Txt.split x " "
def partsFrom : Nat → List Str → List D
  | _, [] => []
  | k, w :: ws => partD (k : Nat) w :: partsFrom (k + 1) ws
theorem partsFrom_length : ∀ (ws : List Str) (k : Nat), (partsFrom k ws).length = ws.length
  | [], _ => rfl
  | w :: ws, k => by rw [partsFrom, List.length_cons, List.length_cons, partsFrom_length]
/-- the first wrong place -/
def badFrom : Nat → List Str → Option Nat
  | _, [] => none
  | k, w :: ws => if DL.isNon (partD (k : Nat) w) = true then some k else badFrom (k + 1) ws
noncomputable abbrev bPH : MS := seqS (asgS (callE 2 [] m_parse_part (consA (varE 2) (consA (varE 3) nilA))) (nameG 4)) (seqS (ifS (testE (binE (isD false) (varE 4) (conE .non))) (raiseS (mkfE "BadText" "index" (varE 2))) passS) (exprS (methE "list" (lmD appK) (varE 1) (consA (varE 4) nilA))))
abbrev gPH : MG := tupG 2 (consG (nameG 2) (consG (nameG 3) nilG))
theorem gPH_ok (a b c d e f g h : Option D) (x y : D) (S : Sto) : gPH (.tup [x, y]) S [a, b, c, d, e, f, g, h] = some [a, b, some x, some y, e, f, g, h] := rfl
theorem getLast_app (S0 : Sto) (o : O) : (S0 ++ [o])[S0.length]? = some o := by
  rw [List.getElem?_append_right (Nat.le_refl _)]
  simp
theorem setLast_app (S0 : Sto) (o p : O) : (S0 ++ [o]).set S0.length p = S0 ++ [p] := by
  rw [List.set_append_right _ _ (Nat.le_refl _)]
  simp
theorem bPH_ok (S0 : Sto) (acc : List D) (a e f g h : Option D) {k : Nat} {w : Str} (hw : w.length + 2 ≤ sizeLine) (hz : acc.length < sizeLine) :
    bPH [a, some (.ref S0.length), some (.int (k : Nat)), some (.str w), e, f, g, h] (S0 ++ [.lst acc]) = if DL.isNon (partD (k : Nat) w) = true
      then .exc ⟨.own "BadText", some ("index", .int (k : Nat))⟩ [a, some (.ref S0.length), some (.int (k : Nat)), some (.str w), some (partD (k : Nat) w), f, g, h] (S0 ++ [.lst acc])
      else .nx [a, some (.ref S0.length), some (.int (k : Nat)), some (.str w), some (partD (k : Nat) w), f, g, h] (S0 ++ [.lst (acc ++ [partD (k : Nat) w])]) := by
  unfold bPH
  have s1 : asgS (callE 2 [] m_parse_part (consA (varE 2) (consA (varE 3) nilA))) (nameG 4) [a, some (.ref S0.length), some (.int (k : Nat)), some (.str w), e, f, g, h] (S0 ++ [.lst acc]) = .nx [a, some (.ref S0.length), some (.int (k : Nat)), some (.str w), some (partD (k : Nat) w), f, g, h] (S0 ++ [.lst acc]) :=
    asgS_ok ((callE_2 (d := .int (k : Nat)) (e := .str w) rfl rfl).trans (parse_part_ok (by omega) hw _)) rfl
  rw [seqS_nx s1]
  generalize partD (k : Nat) w = p
  have t : testE (binE (isD false) (varE 4) (conE .non)) [a, some (.ref S0.length), some (.int (k : Nat)), some (.str w), some p, f, g, h] (S0 ++ [.lst acc]) = .ok (DL.isNon p) (S0 ++ [.lst acc]) := by
    refine testE_bl ?_
    rw [binE_ok (x := p) (y := .non) rfl rfl]
    simp [isD]
  cases hp : DL.isNon p with
  | true =>
    rw [hp] at t
    rw [seqS_exc ((ifS_t t).trans (show raiseS (mkfE "BadText" "index" (varE 2)) _ _ = .exc _ _ _ from rfl)), if_pos rfl]
  | false =>
    rw [hp] at t
    rw [seqS_nx ((ifS_f t).trans (show passS _ _ = _ from rfl)), if_neg Bool.false_ne_true]
    have l1 : lstOf (S0 ++ [O.lst acc]) (.ref S0.length) = some acc := by
      show (match (S0 ++ [O.lst acc])[S0.length]? with | some (O.lst ds) => some ds | _ => none) = _
      rw [getLast_app]
    have m1 : lmD appK (.ref S0.length) [p] (S0 ++ [O.lst acc]) = .ok .non (S0 ++ [O.lst (acc ++ [p])]) := by
      show (match (S0 ++ [O.lst acc])[S0.length]? with | some (O.lst ds) => (match appK ds [p] with | some (r, ds') => RE.ok r ((S0 ++ [O.lst acc]).set S0.length (O.lst ds')) | none => .bad) | _ => .bad) = _
      rw [getLast_app]
      show (match (if acc.length < sizeLine then some (D.non, acc ++ [p]) else none) with | some (r, ds') => RE.ok r ((S0 ++ [O.lst acc]).set S0.length (O.lst ds')) | none => .bad) = _
      rw [if_pos hz]
      show RE.ok D.non ((S0 ++ [O.lst acc]).set S0.length (O.lst (acc ++ [p]))) = _
      rw [setLast_app]
    have ty : isTy (S0 ++ [O.lst acc]) "list" (.ref S0.length) = true := by
      show (("list" : String) == "list" && (lstOf (S0 ++ [O.lst acc]) (.ref S0.length)).isSome) = true
      rw [l1]
      rfl
    have m2 : methE "list" (lmD appK) (varE 1) (consA (varE 4) nilA) [a, some (.ref S0.length), some (.int (k : Nat)), some (.str w), some p, f, g, h] (S0 ++ [.lst acc]) = .ok .non (S0 ++ [.lst (acc ++ [p])]) := by
      show (if isTy (S0 ++ [O.lst acc]) "list" (.ref S0.length) = true then lmD appK (.ref S0.length) [p] (S0 ++ [O.lst acc]) else .bad) = _
      rw [if_pos ty, m1]
    show RE.toS (methE "list" (lmD appK) (varE 1) (consA (varE 4) nilA) _ _) _ _ = _
    rw [m2]
    rfl
theorem hall_go {I : ItD} (hI : ∀ S, I.ok S) (S0 : Sto) (a f g h : Option D) : ∀ (ws : List Str) (k : Nat) (acc : List D) (c d e : Option D), (∀ w ∈ ws, w.length + 2 ≤ sizeLine) → acc.length + ws.length ≤ sizeLine →
    (∀ i, badFrom k ws = some i → ∃ δ S', forGo I gPH bPH (pairs k (ws.map D.str)) [a, some (.ref S0.length), c, d, e, f, g, h] (S0 ++ [.lst acc]) = .exc ⟨.own "BadText", some ("index", .int (i : Nat))⟩ δ (S0 ++ [S'])) ∧
    (badFrom k ws = none → ∃ c' d' e', forGo I gPH bPH (pairs k (ws.map D.str)) [a, some (.ref S0.length), c, d, e, f, g, h] (S0 ++ [.lst acc]) = .nx [a, some (.ref S0.length), c', d', e', f, g, h] (S0 ++ [.lst (acc ++ partsFrom k ws)]))
  | [], k, acc, c, d, e, hw, hz => ⟨fun i z => (by cases z), fun _ => ⟨c, d, e, by rw [List.map_nil, pairs, forGo_nil (hI _), partsFrom, List.append_nil]⟩⟩
  | w :: ws, k, acc, c, d, e, hw, hz => by
    have hz' : acc.length + (ws.length + 1) ≤ sizeLine := hz
    rw [List.map_cons, pairs, forGo_cons (hI _) (gPH_ok a _ c d e f g h _ _ _), bPH_ok S0 acc a e f g h (hw w (List.mem_cons_self ..)) (by omega)]
    unfold badFrom
    cases hp : DL.isNon (partD (k : Nat) w) with
    | true =>
      rw [if_pos rfl, if_pos rfl]
      exact ⟨fun i z => (by cases z; exact ⟨_, _, rfl⟩), fun z => (by cases z)⟩
    | false =>
      rw [if_neg Bool.false_ne_true, if_neg Bool.false_ne_true]
      obtain ⟨h1, h2⟩ := hall_go hI S0 a f g h ws (k + 1) (acc ++ [partD (k : Nat) w]) (some (.int (k : Nat))) (some (.str w)) (some (partD (k : Nat) w)) (fun q hq => hw q (List.mem_cons_of_mem _ hq)) (by simp; omega)
      refine ⟨fun i z => h1 i z, fun z => ?_⟩
      obtain ⟨c', d', e', q⟩ := h2 z
      exact ⟨c', d', e', by rw [show partsFrom k (w :: ws) = partD (k : Nat) w :: partsFrom (k + 1) ws from rfl]; simpa using q⟩

theorem space : ((" " : Str).length == 0) = false := by decide +kernel
theorem split_sp {x : Str} (hx : x.length + 2 ≤ sizeLine) (S : Sto) : splitD (.str x) [.str " "] S = .ok (.lst ((words x).map D.str)) S := by
  show (if ((" " : Str).length == 0) = false ∧ x.length + 2 ≤ sizeLine then RE.ok (D.lst ((Txt.split x " ").map D.str)) S else .bad) = _
  rw [if_pos ⟨space, hx⟩]
theorem bad_range : ∀ (ws : List Str) (k i : Nat), badFrom k ws = some i → k ≤ i ∧ i < k + ws.length
  | [], k, i, h => by cases h
  | w :: ws, k, i, h => by
    unfold badFrom at h
    split at h
    · cases h
      simp
    · have := bad_range ws (k + 1) i h
      simp only [List.length_cons]
      omega
/-- where nothing is wrong there are three words at most -/
theorem good_few : ∀ (ws : List Str) (k : Nat), badFrom k ws = none → k + ws.length ≤ 3 ∨ ws = []
  | [], k, h => .inr rfl
  | w :: ws, k, h => by
    unfold badFrom at h
    split at h
    · cases h
    · rename_i hp
      have hk : k ≤ 2 := by
        refine Nat.le_of_not_lt fun q => hp ?_
        have e : partD (k : Nat) w = .non := by
          unfold partD
          rw [if_neg (by omega), if_neg (by omega), if_neg (by omega)]
        rw [e]
        rfl
      rcases good_few ws (k + 1) h with q | q
      · left
        rw [List.length_cons]
        omega
      · subst q
        left
        simp
        omega
/-- what the law and the package say of a text -/
def dueD (x : Str) : D := match badFrom 0 (words x) with
  | some i => .tup [.str "BadText", .int (i : Nat)]
  | none => if (words x).length = 3 then .tup [(partsFrom 0 (words x)).getD 0 .non, (partsFrom 0 (words x)).getD 2 .non] else .tup [.str "BadText", .int ((words x).length : Nat)]
theorem word_le {x w : Str} (h : w ∈ words x) : w.length ≤ x.length := part_short h
theorem parse_hall_ok {x : Str} (hx : x.length + 4 ≤ sizeLine) (S : Sto) : ∃ o, (match badFrom 0 (words x) with
    | some i => m_parse_hall [.str x] S = .exc ⟨.own "BadText", some ("index", .int (i : Nat))⟩ (S ++ [o])
    | none => if (words x).length = 3 then m_parse_hall [.str x] S = .ok (dueD x) (S ++ [o]) else m_parse_hall [.str x] S = .exc ⟨.own "BadText", some ("index", .int ((words x).length : Nat))⟩ (S ++ [o])) := by
  have st : startD 8 [.str x] = [some (.str x), none, none, none, none, none, none, none] := rfl
  have wl : (words x).length ≤ x.length + 2 := split_le x " "
  have wz : ∀ w ∈ words x, w.length + 2 ≤ sizeLine := fun w hw => by
    have := word_le hw
    omega
  have t0 : notT (truE (bltE (isiD tab ins) (consA (varE 0) (consA (conE (.ty "str")) nilA)))) [some (.str x), none, none, none, none, none, none, none] S = .ok false S := by
    refine notT_ok (b := true) (truE_ok (d := .bl true) ?_ rfl)
    show isiD tab ins [.str x, .ty "str"] S = _
    exact isStr x S
  have s0 : ∀ m n : MS, seqS (ifS (notT (truE (bltE (isiD tab ins) (consA (varE 0) (consA (conE (.ty "str")) nilA))))) m passS) n [some (.str x), none, none, none, none, none, none, none] S = n [some (.str x), none, none, none, none, none, none, none] S := fun m n => seqS_nx ((ifS_f t0).trans (show passS _ _ = _ from rfl))
  have s1 : asgS (refE nilA) (nameG 1) [some (.str x), none, none, none, none, none, none, none] S = .nx [some (.str x), some (.ref S.length), none, none, none, none, none, none] (S ++ [.lst []]) := asgS_ok (show refE nilA _ S = _ from rfl) rfl
  have it : enI (consA (methE "str" splitD (varE 0) (consA (conE (.str " ")) nilA)) nilA) [some (.str x), some (.ref S.length), none, none, none, none, none, none] (S ++ [.lst []]) = .ok ⟨pairs 0 ((words x).map D.str), fun _ => True⟩ (S ++ [.lst []]) := by
    have m1 : methE "str" splitD (varE 0) (consA (conE (.str " ")) nilA) [some (.str x), some (.ref S.length), none, none, none, none, none, none] (S ++ [.lst []]) = .ok (.lst ((words x).map D.str)) (S ++ [.lst []]) := split_sp (by omega) _
    unfold enI
    rw [consA_ok m1 rfl]
    rfl
  obtain ⟨go1, go2⟩ := hall_go (I := ⟨pairs 0 ((words x).map D.str), fun _ => True⟩) (fun _ => trivial) S (some (.str x)) none none none (words x) 0 [] none none none wz (by simp; omega)
  unfold m_parse_hall b_parse_hall
  cases hb : badFrom 0 (words x) with
  | some i =>
    obtain ⟨δ, o, q⟩ := go1 i hb
    refine ⟨o, ?_⟩
    refine fnB_exc (δ := δ) ?_
    rw [st, s0, seqS_nx s1, seqS_exc ((forS_ok it).trans q)]
  | none =>
    obtain ⟨c', d', e', q⟩ := go2 hb
    rw [List.nil_append] at q
    have ln := partsFrom_length (words x) 0
    refine ⟨.lst (partsFrom 0 (words x)), ?_⟩
    have l1 : lstOf (S ++ [O.lst (partsFrom 0 (words x))]) (.ref S.length) = some (partsFrom 0 (words x)) := by
      show (match (S ++ [O.lst (partsFrom 0 (words x))])[S.length]? with | some (O.lst ds) => some ds | _ => none) = _
      rw [getLast_app]
    have len : ∀ a b c d e f g, bltE lenD (consA (varE 1) nilA) [a, some (.ref S.length), b, c, d, e, f, g] (S ++ [.lst (partsFrom 0 (words x))]) = .ok (.int ((words x).length : Nat)) (S ++ [.lst (partsFrom 0 (words x))]) := fun a b c d e f g => by
      rw [bltE_one (d := .ref S.length) rfl]
      show (match seqOf (S ++ [O.lst (partsFrom 0 (words x))]) (.ref S.length) with | some es => RE.ok (D.int es.length) (S ++ [O.lst (partsFrom 0 (words x))]) | none => .bad) = _
      rw [show seqOf (S ++ [O.lst (partsFrom 0 (words x))]) (.ref S.length) = some (partsFrom 0 (words x)) from l1]
      show RE.ok (D.int (((partsFrom 0 (words x)).length : Nat) : Int)) _ = _
      rw [ln]
    have few : (words x).length ≤ 3 := by
      rcases good_few (words x) 0 hb with z | z
      · omega
      · rw [z]; simp
    have t3 : testE (binE ltD (bltE lenD (consA (varE 1) nilA)) (conE (.int 3))) [some (.str x), some (.ref S.length), c', d', e', none, none, none] (S ++ [.lst (partsFrom 0 (words x))]) = .ok (decide ((words x).length < 3)) (S ++ [.lst (partsFrom 0 (words x))]) := by
      refine testE_bl ?_
      rw [binE_ok (len _ _ _ _ _ _ _) (show conE _ _ _ = _ from rfl)]
      show RE.ok (D.bl (decide (((words x).length : Int) < 3))) _ = _
      congr 2
      exact decide_eq_decide.mpr (by omega)
    by_cases h3 : (words x).length = 3
    · simp only [h3, if_true]
      refine fnB_rt ?_
      rw [st, s0, seqS_nx s1, seqS_nx ((forS_ok it).trans q)]
      rw [decide_eq_false (by omega)] at t3
      rw [seqS_nx ((ifS_f t3).trans (show passS _ _ = _ from rfl))]
      have d3 : ∃ a b c, partsFrom 0 (words x) = [a, b, c] := by
        match partsFrom 0 (words x), (ln.trans h3) with
        | [a, b, c], _ => exact ⟨a, b, c, rfl⟩
      obtain ⟨a, b, c, e3⟩ := d3
      have g3 : tupG 3 (consG (nameG 5) (consG (nameG 6) (consG (nameG 7) nilG))) (.ref S.length) (S ++ [.lst (partsFrom 0 (words x))]) [some (.str x), some (.ref S.length), c', d', e', none, none, none] = some [some (.str x), some (.ref S.length), c', d', e', some a, some b, some c] := by
        unfold tupG
        rw [show seqOf (S ++ [O.lst (partsFrom 0 (words x))]) (.ref S.length) = some (partsFrom 0 (words x)) from l1, e3]
        rfl
      rw [seqS_nx (asgS_ok (d := .ref S.length) rfl g3)]
      refine retS_ok ?_
      unfold dueD
      rw [hb]
      simp only [h3, if_true]
      rw [e3]
      rfl
    · simp only [h3, if_false]
      refine fnB_exc (δ := [some (.str x), some (.ref S.length), c', d', e', none, none, none]) ?_
      rw [st, s0, seqS_nx s1, seqS_nx ((forS_ok it).trans q)]
      rw [decide_eq_true (by omega)] at t3
      refine seqS_exc ((ifS_t t3).trans ?_)
      unfold raiseS mkfE
      rw [len]
      rfl
end K56

namespace K56
open PySem PySem.Spec PyProof.Rows L2 DL
/-! ### the law's due -/
/-- the values that a place has: nothing, numbers, a stroke -/
inductive Sort3 : D → PyData → Prop
  | non : Sort3 .non .none
  | str : Sort3 (.str "/") (.str "/")
  | tup (ns : List Int) : Sort3 (.tup (ns.map D.int)) (.tuple (ns.map PyData.int))
theorem sizes_sort (w : Str) : ∃ p, Sort3 (sizesD w) p := by
  unfold sizesD
  by_cases h : (parts w).all partB = true ∧ (parts w).length ≤ 20
  · rw [if_pos h, show ((parts w).map fun p => D.int (valOf p)) = ((parts w).map valOf).map D.int by rw [List.map_map]; rfl]
    exact ⟨_, .tup _⟩
  · rw [if_neg h]
    exact ⟨_, .non⟩
theorem part_sort (k : Int) (w : Str) : ∃ p, Sort3 (partD k w) p := by
  unfold partD pairsD
  split
  · exact sizes_sort w
  · split
    · split
      · exact ⟨_, .str⟩
      · exact ⟨_, .non⟩
    · split
      · split
        · exact ⟨_, .tup []⟩
        · exact sizes_sort w
      · exact ⟨_, .non⟩
theorem pys_ints (f : Nat → Option PyData) : ∀ l : List Int, pys f (l.map D.int) = some (l.map PyData.int)
  | [] => rfl
  | x :: l => by
    rw [List.map_cons, List.map_cons]
    unfold pys
    rw [pys_ints f l]
    rfl
theorem plain_ints : ∀ l : List Int, PyData.plainAll (l.map PyData.int) = true
  | [] => rfl
  | x :: l => by
    rw [List.map_cons]
    unfold PyData.plainAll
    rw [plain_ints l]
    rfl
theorem lay_ints : ∀ l : List Int, PyData.canLayAll0 (l.map PyData.int) = true
  | [] => rfl
  | x :: l => by
    rw [List.map_cons]
    unfold PyData.canLayAll0
    rw [lay_ints l]
    rfl
theorem depth_ints : ∀ l : List Int, PyData.depthAll (l.map PyData.int) ≤ 1
  | [] => by decide
  | x :: l => by
    rw [List.map_cons]
    unfold PyData.depthAll
    have := depth_ints l
    simp only [PyData.depth]
    omega
theorem dps_ints : ∀ l : List Int, dpsOf (l.map D.int) = some (l.map PyData.int)
  | [] => rfl
  | x :: l => by
    rw [List.map_cons, List.map_cons]
    unfold dpsOf
    rw [dps_ints l]
    rfl
theorem sort_py {d : D} {p : PyData} (h : Sort3 d p) : (∀ f, py f d = some p) ∧ PyData.plain p = true ∧ PyData.eqv p .none = DL.isNon d ∧ dpOf d = some p ∧ PyData.canLay0 p = true ∧ PyData.depth p ≤ 2 := by
  cases h with
  | non => exact ⟨fun _ => rfl, rfl, rfl, rfl, rfl, by decide⟩
  | str => exact ⟨fun _ => rfl, rfl, rfl, rfl, by decide +kernel, by simp [PyData.depth]⟩
  | tup ns =>
    refine ⟨fun f => ?_, plain_ints ns, rfl, ?_, lay_ints ns, ?_⟩
    · show (pys f (ns.map D.int)).map PyData.tuple = _
      rw [pys_ints]
      rfl
    · show (dpsOf (ns.map D.int)).map PyData.tuple = _
      rw [dps_ints]
      rfl
    · have := depth_ints ns
      simp only [PyData.depth]
      omega
theorem bad_cons (k : Nat) (w : Str) (ws : List Str) : badFrom k (w :: ws) = if DL.isNon (partD (k : Nat) w) = true then some k else badFrom (k + 1) ws := rfl
/-- the places' values as data -/
theorem from_py : ∀ (ws : List Str) (k : Nat), ∃ ps : List PyData, (∀ f, pys f (partsFrom k ws) = some ps) ∧ PyData.plainAll ps = true ∧ dpsOf (partsFrom k ws) = some ps ∧ PyData.canLayAll0 ps = true ∧ PyData.depthAll ps ≤ 2 ∧
    (ps.findIdx? fun z => PyData.eqv z .none) = (badFrom k ws).map (fun i => i - k) ∧ (ps.any fun z => PyData.eqv z .none) = (badFrom k ws).isSome
  | [], k => ⟨[], fun _ => rfl, rfl, rfl, rfl, by decide, rfl, rfl⟩
  | w :: ws, k => by
    obtain ⟨ps, h1, h2, h3, h4, h5, h6, h7⟩ := from_py ws (k + 1)
    obtain ⟨p, hp⟩ := part_sort (k : Nat) w
    obtain ⟨q1, q2, q3, q4, q5, q6⟩ := sort_py hp
    refine ⟨p :: ps, fun f => ?_, ?_, ?_, ?_, ?_, ?_, ?_⟩
    · rw [partsFrom]
      unfold pys
      rw [q1, h1]
    · unfold PyData.plainAll
      rw [q2, h2]
      rfl
    · rw [partsFrom]
      unfold dpsOf
      rw [q4, h3]
      rfl
    · unfold PyData.canLayAll0
      rw [q5, h4]
      rfl
    · unfold PyData.depthAll
      omega
    · rw [List.findIdx?_cons, q3, h6, bad_cons]
      cases hn : DL.isNon (partD (k : Nat) w) with
      | true => simp
      | false =>
        rw [if_neg Bool.false_ne_true, if_neg Bool.false_ne_true]
        cases hb : badFrom (k + 1) ws with
        | none => rfl
        | some i =>
          have := bad_range ws (k + 1) i hb
          simp
          omega
    · rw [List.any_cons, q3, h7, bad_cons]
      cases hn : DL.isNon (partD (k : Nat) w) <;> simp
theorem due_str {x : Str} (hx : x.length + 4 ≤ sizeLine) (S : Sto) : m__law_due [.str x] S = .ok (dueD x) S := by
  have st : startD 4 [.str x] = [some (.str x), none, none, none] := rfl
  have wl : (words x).length ≤ x.length + 2 := split_le x " "
  have wz : ∀ w ∈ words x, w.length + 2 ≤ sizeLine := fun w hw => by
    have := word_le hw
    omega
  have t0 : notT (truE (bltE (isiD tab ins) (consA (varE 0) (consA (conE (.ty "str")) nilA)))) [some (.str x), none, none, none] S = .ok false S := notT_ok (b := true) (truE_ok (d := .bl true) (isStr x S) rfl)
  obtain ⟨ps, h1, h2, h3, h4, h5, h6, h7⟩ := from_py (words x) 0
  have ln := partsFrom_length (words x) 0
  have lc : lcM (enI (consA (methE "str" splitD (varE 0) (consA (conE (.str " ")) nilA)) nilA)) [2, 3] (tupG 2 (consG (nameG 2) (consG (nameG 3) nilG))) noT (callE 2 [] m__law_part (consA (varE 2) (consA (varE 3) nilA))) [some (.str x), none, none, none] S = .ok (partsFrom 0 (words x)) S := by
    have m1 : methE "str" splitD (varE 0) (consA (conE (.str " ")) nilA) [some (.str x), none, none, none] S = .ok (.lst ((words x).map D.str)) S := split_sp (by omega) _
    unfold lcM enI
    rw [consA_ok m1 rfl]
    show lcGo ⟨pairs 0 ((words x).map D.str), fun _ => True⟩ _ _ _ _ (pairs 0 ((words x).map D.str)) S [] = _
    have key : ∀ (ws : List Str) (k : Nat) (acc : List D), (∀ w ∈ ws, w.length + 2 ≤ sizeLine) → acc.length + ws.length ≤ sizeLine → lcGo ⟨pairs 0 ((words x).map D.str), fun _ => True⟩ (tupG 2 (consG (nameG 2) (consG (nameG 3) nilG))) noT (callE 2 [] m__law_part (consA (varE 2) (consA (varE 3) nilA))) [some (.str x), none, none, none] (pairs k (ws.map D.str)) S acc = .ok (acc ++ partsFrom k ws) S := by
      intro ws
      induction ws with
      | nil =>
        intro k acc _ _
        rw [List.map_nil, pairs, partsFrom, List.append_nil]
        unfold lcGo
        exact if_pos trivial
      | cons w ws ih =>
        intro k acc hw hz
        have hz' : acc.length + (ws.length + 1) ≤ sizeLine := hz
        rw [List.map_cons, pairs, partsFrom]
        unfold lcGo
        rw [if_pos trivial]
        show (match (callE 2 [] m__law_part (consA (varE 2) (consA (varE 3) nilA))) [some (.str x), none, some (.int (k : Nat)), some (.str w)] S with | .ok y S2 => if acc.length < sizeLine then lcGo _ _ _ _ _ _ S2 (acc ++ [y]) else .bad | _ => .bad) = _
        rw [(callE_2 (d := .int (k : Nat)) (e := .str w) rfl rfl).trans (law_part_ok (hw w (List.mem_cons_self ..)) S)]
        show (if acc.length < sizeLine then lcGo _ _ _ _ _ _ S (acc ++ [partD (k : Nat) w]) else .bad) = _
        rw [if_pos (by omega), ih (k + 1) (acc ++ [partD (k : Nat) w]) (fun q hq => hw q (List.mem_cons_of_mem _ hq)) (by simp; omega)]
        simp
    exact (key (words x) 0 [] wz (by simp; omega)).trans rfl
  unfold m__law_due b__law_due dueD
  refine fnB_rt (S1 := S) ?_
  rw [st, seqS_nx ((ifS_f t0).trans (show passS _ _ = _ from rfl)), seqS_nx (asgS_ok (lcE_ok lc) rfl)]
  show seqS _ _ [some (.str x), some (.lst (partsFrom 0 (words x))), none, none] S = _
  have e1 : pyS S (.lst (partsFrom 0 (words x))) = some (.list ps) := by
    show (pys (deref S) (partsFrom 0 (words x))).map PyData.list = _
    rw [h1]
    rfl
  have tin : testE (binE (inD false) (conE .non) (varE 1)) [some (.str x), some (.lst (partsFrom 0 (words x))), none, none] S = .ok (badFrom 0 (words x)).isSome S := by
    refine testE_bl ?_
    rw [binE_ok (x := .non) (y := .lst (partsFrom 0 (words x))) rfl rfl]
    unfold inD
    rw [e1]
    show (if PyData.plain .none = true ∧ PyData.plainAll ps = true ∧ PyData.depth .none ≤ 16 then RE.ok (D.bl (xor false (ps.any fun q => PyData.eqv q .none))) S else .bad) = _
    rw [if_pos ⟨rfl, h2, by decide⟩, h7]
    simp
  cases hb : badFrom 0 (words x) with
  | some i =>
    rw [hb] at tin h6
    refine seqS_rt ((ifS_t tin).trans (retS_ok ?_))
    have ix : methE "list" indexD (varE 1) (consA (conE .non) nilA) [some (.str x), some (.lst (partsFrom 0 (words x))), none, none] S = .ok (.int (i : Nat)) S := by
      show indexD (.lst (partsFrom 0 (words x))) [.non] S = _
      unfold indexD
      show (match dpsOf (partsFrom 0 (words x)), dpOf .non with | some ps, some q => if SeqAt.shaped (.list ps) = true ∧ SeqAt.shaped q = true then match ps.findIdx? (fun z => PyData.eqv z q) with | some j => RE.ok (D.int (j : Nat)) S | none => .bad else .bad | _, _ => .bad) = _
      rw [h3]
      have sh : SeqAt.shaped (.list ps) = true := by
        unfold SeqAt.shaped
        rw [Bool.and_eq_true]
        refine ⟨h4, decide_eq_true ?_⟩
        simp only [PyData.depth]
        omega
      show (if SeqAt.shaped (.list ps) = true ∧ SeqAt.shaped .none = true then match ps.findIdx? (fun z => PyData.eqv z .none) with | some j => RE.ok (D.int (j : Nat)) S | none => .bad else .bad) = _
      rw [if_pos ⟨sh, by decide⟩, h6]
      rfl
    unfold tupE
    rw [consA_ok (show conE _ _ S = _ from rfl) (consA_ok ix rfl)]
    rfl
  | none =>
    rw [hb] at tin
    rw [seqS_nx ((ifS_f tin).trans (show passS _ _ = _ from rfl))]
    refine retS_ok ?_
    have len : bltE lenD (consA (varE 1) nilA) [some (.str x), some (.lst (partsFrom 0 (words x))), none, none] S = .ok (.int ((words x).length : Nat)) S := by
      rw [bltE_one (d := .lst (partsFrom 0 (words x))) rfl]
      show RE.ok (D.int (((partsFrom 0 (words x)).length : Nat) : Int)) _ = _
      rw [ln]
    have t3 : testE (binE eqD (bltE lenD (consA (varE 1) nilA)) (conE (.int 3))) [some (.str x), some (.lst (partsFrom 0 (words x))), none, none] S = .ok (decide ((words x).length = 3)) S := by
      refine testE_bl ?_
      rw [binE_ok len (show conE _ _ _ = _ from rfl), eq_int]
      congr 2
      exact decide_eq_decide.mpr (by omega)
    by_cases h3' : (words x).length = 3
    · rw [decide_eq_true h3'] at t3
      rw [ifE_t t3]
      simp only [h3', if_true]
      have d3 : ∃ a b c, partsFrom 0 (words x) = [a, b, c] := by
        match partsFrom 0 (words x), (ln.trans h3') with
        | [a, b, c], _ => exact ⟨a, b, c, rfl⟩
      obtain ⟨a, b, c, e3⟩ := d3
      rw [e3]
      rfl
    · rw [decide_eq_false h3'] at t3
      rw [ifE_f t3]
      simp only [h3', if_false]
      unfold tupE
      rw [consA_ok (show conE _ _ S = _ from rfl) (consA_ok len rfl)]
      rfl
end K56

namespace K56
open PySem PySem.Spec PyProof.Rows L2 DL
/-! ### told -/
def suT : Ex → MS := fun y => seqS (ifS (orT (notT (truE (isxE tab xcl y (conE (.glo "PartyError"))))) (truE (isxE tab xcl y (tupE (consA (conE (.glo "BadHall")) (consA (conE (.glo "BadSize")) (consA (conE (.ty "LookupError")) nilA))))))) (retS (conE (.str "other"))) passS) (retS (tupE (consA (conE (.str "BadText")) (consA (xfE (fun c => c == "BadText") "index" y) nilA))))
theorem suT_ok (d : D) (v : Option D) (S : Sto) : suT ⟨.own "BadText", some ("index", d)⟩ [v, none] S = .rt (.tup [.str "BadText", d]) S := by
  have a1 : kitD tab (.own "BadText") (.own "PartyError") = some true := by decide +kernel
  have a2 : kitAnyD tab (.own "BadText") [.own "BadHall", .own "BadSize", .blt "LookupError"] = some false := by decide +kernel
  have a3 : xcl "BadText" = true := by decide +kernel
  have i1 : isxE tab xcl ⟨.own "BadText", some ("index", d)⟩ (conE (.glo "PartyError")) [v, none] S = .ok (.bl true) S := by
    show (if xcl "BadText" = true then match kitD tab (.own "BadText") (.own "PartyError") with | some b => RE.ok (D.bl b) S | none => .bad else .bad) = _
    rw [if_pos a3, a1]
  have i2 : isxE tab xcl ⟨.own "BadText", some ("index", d)⟩ (tupE (consA (conE (.glo "BadHall")) (consA (conE (.glo "BadSize")) (consA (conE (.ty "LookupError")) nilA)))) [v, none] S = .ok (.bl false) S := by
    show (if xcl "BadText" = true then match kitAnyD tab (.own "BadText") [.own "BadHall", .own "BadSize", .blt "LookupError"] with | some b => RE.ok (D.bl b) S | none => .bad else .bad) = _
    rw [if_pos a3, a2]
  have c : (("BadText" : Str) == "BadText") = true := by decide +kernel
  unfold suT
  rw [seqS_nx ((ifS_f ((orT_f (notT_ok (b := true) (truE_ok i1 rfl))).trans (truE_ok i2 rfl))).trans (show passS _ _ = _ from rfl))]
  refine retS_ok ?_
  have x1 : xfE (fun c => c == "BadText") "index" ⟨.own "BadText", some ("index", d)⟩ [v, none] S = .ok d S := by
    show (if ("index" : Str) = "index" ∧ (("BadText" : Str) == "BadText") = true then RE.ok d S else .bad) = _
    exact if_pos ⟨rfl, c⟩
  unfold tupE
  rw [consA_ok (show conE _ _ S = _ from rfl) (consA_ok x1 rfl)]
  rfl
theorem told_of {t d : D} {S S' : Sto} (h : m_parse_hall [t] S = .exc ⟨.own "BadText", some ("index", d)⟩ S') : m__law_told [t] S = .ok (.tup [.str "BadText", d]) S' := by
  have l : xtab.lookup (Ec.own "BadText", Ec.own "BadText") = some true := by decide +kernel
  unfold m__law_told b__law_told
  refine fnB_rt ?_
  rw [show startD 2 [t] = [some t, none] from rfl]
  unfold tryAsS
  rw [retS_exc ((callE_1 (d := t) rfl).trans h)]
  show (if 1 < 2 then match xtab.lookup (Ec.own "BadText", Ec.own "BadText") with | some true => (suT ⟨.own "BadText", some ("index", d)⟩ [some t, none] S').unset 1 | some false => RS.exc ⟨.own "BadText", some ("index", d)⟩ [some t, none] S' | none => .bad else .bad) = _
  rw [if_pos (by decide), l]
  show (suT ⟨.own "BadText", some ("index", d)⟩ [some t, none] S').unset 1 = _
  rw [suT_ok]
  rfl
theorem told_ok {t d : D} {S S' : Sto} (h : m_parse_hall [t] S = .ok d S') : m__law_told [t] S = .ok d S' := by
  unfold m__law_told b__law_told
  refine fnB_rt ?_
  rw [show startD 2 [t] = [some t, none] from rfl]
  unfold tryAsS
  rw [retS_ok ((callE_1 (d := t) rfl).trans h)]
theorem told_str {x : Str} (hx : x.length + 4 ≤ sizeLine) (S : Sto) : ∃ o, m__law_told [.str x] S = .ok (dueD x) (S ++ [o]) := by
  obtain ⟨o, h⟩ := parse_hall_ok hx S
  refine ⟨o, ?_⟩
  unfold dueD
  cases hb : badFrom 0 (words x) with
  | some i =>
    rw [hb] at h
    exact told_of h
  | none =>
    rw [hb] at h
    by_cases h3 : (words x).length = 3
    · simp only [h3, if_true] at h ⊢
      have := told_ok h
      rw [this]
      unfold dueD
      rw [hb]
      simp only [h3, if_true]
    · simp only [h3, if_false] at h ⊢
      exact told_of h
/-- no text -/
def NoText (d : D) : Prop := ∀ S, isiD tab ins [d, .ty "str"] S = .ok (.bl false) S
theorem told_odd {d : D} (h : NoText d) (S : Sto) : m__law_told [d] S = .ok (.tup [.str "BadText", .non]) S := by
  refine told_of ?_
  unfold m_parse_hall b_parse_hall
  refine fnB_exc (δ := [some d, none, none, none, none, none, none, none]) ?_
  rw [show startD 8 [d] = [some d, none, none, none, none, none, none, none] from rfl]
  refine seqS_exc ((ifS_t (notT_ok (b := false) (truE_ok (d := .bl false) ?_ rfl))).trans rfl)
  exact h S
theorem due_odd {d : D} (h : NoText d) (S : Sto) : m__law_due [d] S = .ok (.tup [.str "BadText", .non]) S := by
  unfold m__law_due b__law_due
  refine fnB_rt (S1 := S) ?_
  rw [show startD 4 [d] = [some d, none, none, none] from rfl]
  exact seqS_rt ((ifS_t (notT_ok (b := false) (truE_ok (d := .bl false) (h S) rfl))).trans (retS_ok rfl))
/-! ### same -/
theorem same_int (r : Nat) (n : Int) (S : Sto) : m__law_same (r + 1) [.int n, .int n] S = .ok (.bl true) S := by
  have e1 : isiD tab ins [.int n, .ty "tuple"] S = .ok (.bl false) S := rfl
  have e2 : isiD tab ins [.int n, .ty "str"] S = .ok (.bl false) S := rfl
  have e3 : ∀ b c : Bool, eqD (.bl b) (.bl c) S = .ok (.bl (b == c)) S := fun b c => by cases b <;> cases c <;> rfl
  unfold m__law_same
  simp [callE, consA, nilA, varE, conE, startD, RE.bind, RE.toS, RS.andThen, andE, orE, notE, bltE, binE, unE, chainE, testE, truE, notT, andT, orT, ifE, ifS, seqS, asgS, retS, exprS, passS, nameG, tupG, consG, nilG, methE, isTy, lstOf, seqOf, fnB, truD, tupE, lstE, parS, List.foldl, e1, e2, e3, isInt, isBl, isD, DL.isNon, eq_int]
theorem same_non (r : Nat) (S : Sto) : m__law_same (r + 1) [.non, .non] S = .ok (.bl true) S := by
  have e1 : isiD tab ins [.non, .ty "tuple"] S = .ok (.bl false) S := rfl
  unfold m__law_same
  simp [callE, consA, nilA, varE, conE, startD, RE.bind, RE.toS, RS.andThen, andE, orE, notE, bltE, binE, unE, chainE, testE, truE, notT, andT, orT, ifE, ifS, seqS, asgS, retS, exprS, passS, nameG, tupG, consG, nilG, methE, isTy, lstOf, seqOf, fnB, truD, tupE, lstE, parS, List.foldl, e1, isD, DL.isNon]
theorem same_str (r : Nat) (x : Str) (S : Sto) : m__law_same (r + 1) [.str x, .str x] S = .ok (.bl true) S := by
  have e1 : isiD tab ins [.str x, .ty "tuple"] S = .ok (.bl false) S := rfl
  unfold m__law_same
  simp [callE, consA, nilA, varE, conE, startD, RE.bind, RE.toS, RS.andThen, andE, orE, notE, bltE, binE, unE, chainE, testE, truE, notT, andT, orT, ifE, ifS, seqS, asgS, retS, exprS, passS, nameG, tupG, consG, nilG, methE, isTy, lstOf, seqOf, fnB, truD, tupE, lstE, parS, List.foldl, e1, isStr, isD, DL.isNon, eq_str]
theorem same_tup (r : Nat) (ds : List D) (S : Sto) (h : ∀ d ∈ ds, m__law_same r [d, d] S = .ok (.bl true) S) (hz : ds.length ≤ sizeLine) : m__law_same (r + 1) [.tup ds, .tup ds] S = .ok (.bl true) S := by
  have e1 : ∀ l, isiD tab ins [.tup l, .ty "tuple"] S = .ok (.bl true) S := fun l => rfl
  have ln : ∀ l : List D, lenD [.tup l] S = .ok (.int l.length) S := fun l => rfl
  have ne : neD (.int ds.length) (.int ds.length) S = .ok (.bl false) S := by
    simp [callE, consA, nilA, varE, conE, startD, RE.bind, RE.toS, RS.andThen, andE, orE, notE, bltE, binE, unE, chainE, testE, truE, notT, andT, orT, ifE, ifS, seqS, asgS, retS, exprS, passS, nameG, tupG, consG, nilG, methE, isTy, lstOf, seqOf, fnB, truD, tupE, lstE, parS, List.foldl, neD, pyS, py, PyData.plain, PyData.depth, PyData.eqv]
  have lc : lcM (zpI (consA (varE 0) (consA (varE 1) nilA))) [2, 3] (tupG 2 (consG (nameG 2) (consG (nameG 3) nilG))) (notT (truE (callE 2 [] (m__law_same r) (consA (varE 2) (consA (varE 3) nilA))))) (conE (.int 1)) [some (.tup ds), some (.tup ds), none, none] S = .ok [] S := by
    show lcGo ⟨(ds.zip ds).map fun p => .tup [p.1, p.2], fun S => True ∧ True⟩ _ _ _ _ ((ds.zip ds).map fun p => .tup [p.1, p.2]) S [] = _
    refine (lcGo_pure (p := fun _ => false) (f := fun d => d) ?_ _ _ (fun d hd => ?_) (by rw [List.length_map, List.length_zip]; simp; exact hz)).trans ?_
    · exact ⟨trivial, trivial⟩
    rotate_left
    · rw [List.filter_eq_nil_iff.mpr (fun _ _ => Bool.false_ne_true)]
      rfl
    · obtain ⟨p, hp, rfl⟩ := List.mem_map.mp hd
      obtain ⟨i, hi⟩ := List.mem_iff_getElem?.mp hp
      obtain ⟨h1, h2⟩ := zip_at hi
      rw [h1] at h2
      have e : p.1 = p.2 := Option.some.inj h2
      refine ⟨_, rfl, ?_, fun z => by cases z⟩
      refine notT_ok (b := true) (truE_ok (d := .bl true) ((callE_2 (d := p.1) (e := p.2) rfl rfl).trans ?_) rfl)
      rw [← e]
      exact h _ (List.mem_of_getElem? h1)
  have eqn : eqD (.lst []) (.lst []) S = .ok (.bl true) S := rfl
  unfold m__law_same
  refine fnB_rt (S1 := S) ?_
  rw [show startD 4 [.tup ds, .tup ds] = [some (.tup ds), some (.tup ds), none, none] from rfl]
  refine seqS_rt ((ifS_t (truE_ok (d := .bl true) (e1 ds) rfl)).trans ?_)
  have t : orT (notT (truE (bltE (isiD tab ins) (consA (varE 0) (consA (conE (.ty "tuple")) nilA))))) (testE (binE neD (bltE lenD (consA (varE 0) nilA)) (bltE lenD (consA (varE 1) nilA)))) [some (.tup ds), some (.tup ds), none, none] S = .ok false S := by
    refine (orT_f (notT_ok (b := true) (truE_ok (d := .bl true) (e1 ds) rfl))).trans (testE_bl ?_)
    rw [binE_ok ((bltE_one (d := .tup ds) rfl).trans (ln ds)) ((bltE_one (d := .tup ds) rfl).trans (ln ds))]
    exact ne
  rw [seqS_nx ((ifS_f t).trans (show passS _ _ = _ from rfl))]
  refine retS_ok ?_
  rw [binE_ok (lcE_ok lc) (show lstE nilA _ S = .ok (.lst []) S from rfl)]
  exact eqn
theorem same_ints (r : Nat) (ns : List Int) (S : Sto) (hz : ns.length ≤ sizeLine) : m__law_same (r + 2) [.tup (ns.map D.int), .tup (ns.map D.int)] S = .ok (.bl true) S :=
  same_tup (r + 1) _ S (fun d hd => by obtain ⟨n, _, rfl⟩ := List.mem_map.mp hd; exact same_int r n S) (by simpa using hz)
theorem same_sort (r : Nat) {d : D} {p : PyData} (h : Sort3 d p) (S : Sto) (hz : ∀ ds, d = .tup ds → ds.length ≤ sizeLine) : m__law_same (r + 2) [d, d] S = .ok (.bl true) S := by
  cases h with
  | non => exact same_non _ S
  | str => exact same_str _ _ S
  | tup ns => exact same_ints r ns S (by simpa using hz _ rfl)
theorem sizes_len {w : Str} {ds : List D} (h : sizesD w = .tup ds) : ds.length ≤ sizeLine := by
  unfold sizesD at h
  split at h
  · rename_i c
    cases h
    rw [List.length_map]
    exact Nat.le_trans c.2 (by decide)
  · cases h
theorem part_len {k : Int} {w : Str} {ds : List D} (h : partD k w = .tup ds) : ds.length ≤ sizeLine := by
  unfold partD pairsD at h
  split at h
  · exact sizes_len h
  · split at h
    · split at h <;> cases h
    · split at h
      · split at h
        · cases h; exact Nat.zero_le _
        · exact sizes_len h
      · cases h
theorem same_due (x : Str) (S : Sto) : m__law_same 4 [dueD x, dueD x] S = .ok (.bl true) S := by
  have z : (2 : Nat) ≤ sizeLine := by decide
  have two : ∀ (a b : D), (m__law_same 3 [a, a] S = .ok (.bl true) S) → (m__law_same 3 [b, b] S = .ok (.bl true) S) → m__law_same 4 [.tup [a, b], .tup [a, b]] S = .ok (.bl true) S := fun a b ha hb =>
    same_tup 3 _ S (fun d hd => by
      rcases (show d = a ∨ d = b by simpa using hd) with rfl | rfl
      · exact ha
      · exact hb) z
  have part : ∀ (i : Nat), m__law_same 3 [(partsFrom 0 (words x)).getD i .non, (partsFrom 0 (words x)).getD i .non] S = .ok (.bl true) S := by
    have go : ∀ (ws : List Str) (k i : Nat), (partsFrom k ws).getD i .non = .non ∨ ∃ j w, (partsFrom k ws).getD i .non = partD j w := by
      intro ws
      induction ws with
      | nil => intro k i; exact .inl (by simp [partsFrom])
      | cons w ws ih =>
        intro k i
        cases i with
        | zero => exact .inr ⟨(k : Nat), w, rfl⟩
        | succ i => exact ih (k + 1) i
    intro i
    rcases go (words x) 0 i with h | ⟨j, w, h⟩
    · rw [h]; exact same_non _ S
    · rw [h]
      obtain ⟨p, hp⟩ := part_sort j w
      exact same_sort 1 hp S fun ds e => part_len e
  unfold dueD
  split
  · exact two _ _ (same_str _ _ S) (same_int _ _ S)
  · split
    · exact two _ _ (part 0) (part 2)
    · exact two _ _ (same_str _ _ S) (same_int _ _ S)
theorem same_bad (S : Sto) : m__law_same 4 [.tup [.str "BadText", .non], .tup [.str "BadText", .non]] S = .ok (.bl true) S :=
  same_tup 3 _ S (fun d hd => by
    rcases (show d = .str "BadText" ∨ d = .non by simpa using hd) with rfl | rfl
    · exact same_str _ _ S
    · exact same_non _ S) (by decide)
end K56

namespace K56
open PySem PySem.Spec PyProof.Rows L2 DL
/-! ### the deck -/
theorem deck_ok (ns : List Int) (hl : ns.length ≤ 63) : ∃ S, m__law_deck [.scr ns] [] = .ok (.ref 1) S ∧ Deck 0 [] S := by
  have cl : (cutL ns none (some 63)).length ≤ 63 := by
    unfold cutL
    rw [List.length_take, List.length_drop]
    omega
  refine ⟨[.lst (((cutL ns none (some 63)).map fun i => if i < 0 then -i else i).map D.int), .lst [.ref 0, .int 0]], ?_, ⟨(cutL ns none (some 63)).map fun i => if i < 0 then -i else i, rfl, fun c hc => ?_⟩⟩
  · have lc : lcM (lsI (slE (varE 0) noO (someO (conE (.int 63))))) [1] (nameG 1) noT (bltE absD (consA (varE 1) nilA)) [some (.scr ns), none] [] = .ok ((((cutL ns none (some 63)).map fun i => if i < 0 then -i else i)).map D.int) [] := by
      show lcGo ⟨(cutL ns none (some 63)).map D.int, fun _ => True⟩ _ _ _ _ ((cutL ns none (some 63)).map D.int) [] [] = _
      refine (lcGo_map (f := fun d => match d with | .int i => .int (if i < 0 then -i else i) | d => d) ?_ _ (fun d hd => ?_) (by rw [List.length_map]; exact Nat.le_trans cl (by decide))).trans ?_
      · trivial
      · obtain ⟨i, _, rfl⟩ := List.mem_map.mp hd
        exact ⟨_, rfl, rfl⟩
      · rw [List.map_map, List.map_map]
        rfl
    have lr : lcR (lsI (slE (varE 0) noO (someO (conE (.int 63))))) [1] (nameG 1) noT (bltE absD (consA (varE 1) nilA)) [some (.scr ns), none] [] = .ok (.ref 0) [.lst ((((cutL ns none (some 63)).map fun i => if i < 0 then -i else i)).map D.int)] := by
      unfold lcR
      rw [lc]
      rfl
    refine fnB_rt (retS_ok ?_)
    unfold refE
    rw [show startD 2 [.scr ns] = [some (.scr ns), none] from rfl, consA_ok lr (show consA (conE (.int 0)) nilA _ _ = .ok [.int 0] _ from rfl)]
    rfl
  · obtain ⟨i, _, rfl⟩ := List.mem_map.mp hc
    show 0 ≤ (if i < 0 then -i else i)
    split <;> omega
/-- a draw -/
theorem draw_at {k : Nat} {rest S : Sto} {many : Int} {δ : DL.Loc} {m : ME} (hd : Deck k rest S) (hk : k < 2 ^ 40) (h0 : δ[0]? = some (some (.ref 1))) (hm : m δ S = .ok (.int many) S) (h1 : 1 ≤ many) (h2 : many < 2 ^ 29) :
    ∃ (r : Int) (S' : Sto), callE 2 [] m__law_draw (consA (varE 0) (consA m nilA)) δ S = .ok (.int r) S' ∧ 0 ≤ r ∧ r < many ∧ Deck (k + 1) rest S' := by
  obtain ⟨r, S', e, r0, r1, d⟩ := draw_ok hd hk h1 h2
  refine ⟨r, S', ?_, r0, r1, d⟩
  have v : varE 0 δ S = .ok (.ref 1) S := by
    unfold varE
    rw [h0]
  exact (callE_2 v hm).trans e
theorem lcGo_st {I : ItD} {g : MG} {e : ME} {δ : DL.Loc} {Inv : Nat → Sto → Prop} {P : D → Prop} {n : Nat} (hI : ∀ S, I.ok S) (h : ∀ d i S, i < n → Inv i S → ∃ δ1 y S', g d S δ = some δ1 ∧ e δ1 S = .ok y S' ∧ P y ∧ Inv (i + 1) S') :
    ∀ (l acc : List D) (i : Nat) (S : Sto), i + l.length ≤ n → Inv i S → (∀ d ∈ acc, P d) → acc.length + l.length ≤ sizeLine → ∃ ys S', lcGo I g noT e δ l S acc = .ok ys S' ∧ (∀ d ∈ ys, P d) ∧ ys.length = acc.length + l.length ∧ Inv (i + l.length) S'
  | [], acc, i, S, hn, hi, ha, hz => ⟨acc, S, by unfold lcGo; rw [if_pos (hI S)], ha, rfl, hi⟩
  | d :: l, acc, i, S, hn, hi, ha, hz => by
    have hn' : i + (l.length + 1) ≤ n := hn
    have hz' : acc.length + (l.length + 1) ≤ sizeLine := hz
    obtain ⟨δ1, y, S1, h1, h2, h3, h4⟩ := h d i S (by omega) hi
    obtain ⟨ys, S2, e1, e2, e3, e4⟩ := lcGo_st hI h l (acc ++ [y]) (i + 1) S1 (by omega) h4 (fun z hz => by
      rcases List.mem_append.mp hz with q | q
      · exact ha z q
      · rw [show z = y by simpa using q]; exact h3) (by simp; omega)
    refine ⟨ys, S2, ?_, e2, by rw [e3]; simp; omega, by rw [show i + (d :: l).length = i + 1 + l.length by simp; omega]; exact e4⟩
    unfold lcGo
    rw [if_pos (hI S), h1]
    show (match noT δ1 S with | .ok true S1 => (match e δ1 S1 with | .ok y S2 => if acc.length < sizeLine then lcGo I g noT e δ l S2 (acc ++ [y]) else .bad | _ => .bad) | .ok false S1 => lcGo I g noT e δ l S1 acc | _ => .bad) = _
    show (match e δ1 S with | .ok y S2 => if acc.length < sizeLine then lcGo I g noT e δ l S2 (acc ++ [y]) else .bad | _ => .bad) = _
    rw [h2]
    show (if acc.length < sizeLine then lcGo I g noT e δ l S1 (acc ++ [y]) else .bad) = _
    rw [if_pos (by omega), e1]
def IsSz (d : D) : Prop := ∃ n : Int, d = .int n ∧ 1 ≤ n ∧ n ≤ 1000000
theorem szs_of : ∀ {ds : List D}, (∀ d ∈ ds, IsSz d) → ∃ ns : List Int, ds = ns.map D.int ∧ ∀ n ∈ ns, 1 ≤ n ∧ n ≤ 1000000
  | [], _ => ⟨[], rfl, fun n h => by cases h⟩
  | d :: ds, h => by
    obtain ⟨n, rfl, h1, h2⟩ := h d (List.mem_cons_self ..)
    obtain ⟨ns, rfl, h3⟩ := szs_of fun d' hd => h d' (List.mem_cons_of_mem _ hd)
    exact ⟨n :: ns, rfl, fun m hm => by
      rcases List.mem_cons.mp hm with rfl | hm
      · exact ⟨h1, h2⟩
      · exact h3 m hm⟩
theorem upTo_len (lo : Int) (n : Nat) : (DL.upTo lo n).length = n := by
  unfold DL.upTo
  simp
theorem range1 {δ : DL.Loc} {S S1 : Sto} {m : ME} {j : Int} (h : m δ S = .ok (.int j) S1) (h0 : 0 ≤ j) (h1 : j < 2 ^ 62) : rg1I (consA m nilA) δ S = .ok ⟨DL.upTo 0 j.toNat, fun _ => True⟩ S1 := by
  unfold rg1I
  rw [consA_ok h rfl]
  show (if -(2 ^ 62) ≤ j ∧ j < 2 ^ 62 then RE.ok (⟨DL.upTo 0 j.toNat, fun _ => True⟩ : ItD) S1 else .bad) = _
  exact if_pos ⟨by omega, h1⟩
theorem add_int {δ : DL.Loc} {S S1 S2 : Sto} {m n : ME} {i j : Int} (h : m δ S = .ok (.int i) S1) (k : n δ S1 = .ok (.int j) S2) : binE addD m n δ S = .ok (.int (i + j)) S2 := (binE_ok h k).trans rfl

/-! ### a drawn hall -/
noncomputable abbrev bST : MS := seqS (asgS (binE ixD (varE 5) (callE 2 [] m__law_draw (consA (varE 0) (consA (bltE lenD (consA (varE 5) nilA)) nilA)))) (nameG 7)) (seqS (asgS (bltE max2D (consA (conE (.int 1)) (consA (bltE min2D (consA (binE powD (conE (.int 10)) (conE (.int 6))) (consA (binE subD (binE addD (varE 7) (callE 2 [] m__law_draw (consA (varE 0) (consA (conE (.int 3)) nilA)))) (conE (.int 1))) nilA))) nilA))) (nameG 8)) (exprS (methE "list" (lmD appK) (varE 4) (consA (binE ixD (lstE (consA (binE addD (conE (.int 1)) (callE 2 [] m__law_draw (consA (varE 0) (consA (varE 3) nilA)))) (consA (varE 8) nilA))) (callE 2 [] m__law_draw (consA (varE 0) (consA (conE (.int 2)) nilA)))) nilA))))
theorem rest_at {k : Nat} {rest0 S : Sto} {o : O} (h : Deck k (rest0 ++ [o]) S) : S[rest0.length + 2]? = some o ∧ ∀ p, Deck k (rest0 ++ [p]) (S.set (rest0.length + 2) p) := by
  obtain ⟨cells, rfl, hc⟩ := h
  refine ⟨?_, fun p => ⟨cells, ?_, hc⟩⟩
  · show (rest0 ++ [o])[rest0.length]? = some o
    exact getLast_app rest0 o
  · show O.lst _ :: O.lst _ :: ((rest0 ++ [o]).set rest0.length p) = _
    rw [setLast_app]
theorem ix_tup {ds : List D} {i : Int} {d : D} {S : Sto} (e : atI ds i = some d) : ixD (.tup ds) (.int i) S = .ok d S := by
  show (match atI ds i with | some d => RE.ok d S | none => .bad) = _
  rw [e]
theorem ix_lst {ds : List D} {i : Int} {d : D} {S : Sto} (e : atI ds i = some d) : ixD (.lst ds) (.int i) S = .ok d S := by
  show (match atI ds i with | some d => RE.ok d S | none => .bad) = _
  rw [e]
theorem at_two {a b : D} {i : Int} (h0 : 0 ≤ i) (h2 : i < 2) : ∃ d, atI [a, b] i = some d ∧ (d = a ∨ d = b) := by
  rcases (show i = 0 ∨ i = 1 by omega) with rfl | rfl
  · exact ⟨a, rfl, .inl rfl⟩
  · exact ⟨b, rfl, .inr rfl⟩
theorem at_mem {ds : List D} {i : Int} (h0 : 0 ≤ i) (h2 : i < ds.length) : ∃ d, atI ds i = some d ∧ d ∈ ds := by
  have hi : i.toNat < ds.length := by omega
  refine ⟨ds[i.toNat], ?_, List.getElem_mem hi⟩
  have := atI_nat (xs := ds) hi
  rw [show ((i.toNat : Nat) : Int) = i by omega] at this
  rw [this, List.getElem?_eq_getElem hi]
theorem bST_ok {k : Nat} {rest0 S : Sto} {acc feet : List D} {top : Int} {x1 x2 x6 x7 x8 : Option D} (hd : Deck k (rest0 ++ [.lst acc]) S) (hk : k + 10 < 2 ^ 40) (ht : 1 ≤ top ∧ top ≤ 1000000) (hf : feet ≠ []) (hfl : feet.length ≤ 20) (hfs : ∀ d ∈ feet, IsSz d) (hz : acc.length < 100) :
    ∃ v y7 y8 S', bST [some (.ref 1), x1, x2, some (.int top), some (.ref (rest0.length + 2)), some (.tup feet), x6, x7, x8] S = .nx [some (.ref 1), x1, x2, some (.int top), some (.ref (rest0.length + 2)), some (.tup feet), x6, some y7, some y8] S' ∧ IsSz v ∧ Deck (k + 4) (rest0 ++ [.lst (acc ++ [v])]) S' := by
  have fl : 0 < feet.length := List.length_pos_iff.mpr hf
  unfold bST
  -- foot
  obtain ⟨r1, S1, e1, a1, b1, d1⟩ := draw_at (δ := [some (.ref 1), x1, x2, some (.int top), some (.ref (rest0.length + 2)), some (.tup feet), x6, x7, x8]) (m := bltE lenD (consA (varE 5) nilA)) (many := feet.length) hd (by omega) rfl rfl (by omega) (by omega)
  obtain ⟨foot, ef, hm⟩ := at_mem (ds := feet) (i := r1) a1 (by omega)
  obtain ⟨fn, rfl, f1, f2⟩ := hfs foot hm
  have s1 := asgS_ok (g := nameG 7) (δ' := [some (.ref 1), x1, x2, some (.int top), some (.ref (rest0.length + 2)), some (.tup feet), x6, some (.int fn), x8]) ((binE_ok (g := ixD) (m := varE 5) (δ := [some (.ref 1), x1, x2, some (.int top), some (.ref (rest0.length + 2)), some (.tup feet), x6, x7, x8]) (x := .tup feet) rfl e1).trans (ix_tup ef)) rfl
  rw [seqS_nx s1]
  -- near
  obtain ⟨r2, S2, e2, a2, b2, d2⟩ := draw_at (δ := [some (.ref 1), x1, x2, some (.int top), some (.ref (rest0.length + 2)), some (.tup feet), x6, some (.int fn), x8]) (m := conE (.int 3)) (many := 3) d1 (by omega) rfl rfl (by omega) (by omega)
  have n1 := add_int (m := varE 7) (δ := [some (.ref 1), x1, x2, some (.int top), some (.ref (rest0.length + 2)), some (.tup feet), x6, some (.int fn), x8]) (S := S1) (i := fn) rfl e2
  have n2 := (binE_ok (g := subD) n1 (show conE (.int 1) _ S2 = .ok (.int 1) S2 from rfl)).trans (show subD _ _ _ = .ok (.int (fn + r2 - 1)) S2 from rfl)
  have n3 : bltE min2D (consA (binE powD (conE (.int 10)) (conE (.int 6))) (consA (binE subD (binE addD (varE 7) (callE 2 [] m__law_draw (consA (varE 0) (consA (conE (.int 3)) nilA)))) (conE (.int 1))) nilA)) [some (.ref 1), x1, x2, some (.int top), some (.ref (rest0.length + 2)), some (.tup feet), x6, some (.int fn), x8] S1 = .ok (.int (if fn + r2 - 1 < 1000000 then fn + r2 - 1 else 1000000)) S2 := by
    unfold bltE
    rw [consA_ok (million _ S1) (consA_ok n2 rfl)]
    rfl
  generalize hq : (if fn + r2 - 1 < 1000000 then fn + r2 - 1 else 1000000) = q at n3
  have n4 : bltE max2D (consA (conE (.int 1)) (consA (bltE min2D (consA (binE powD (conE (.int 10)) (conE (.int 6))) (consA (binE subD (binE addD (varE 7) (callE 2 [] m__law_draw (consA (varE 0) (consA (conE (.int 3)) nilA)))) (conE (.int 1))) nilA))) nilA)) [some (.ref 1), x1, x2, some (.int top), some (.ref (rest0.length + 2)), some (.tup feet), x6, some (.int fn), x8] S1 = .ok (.int (if q > 1 then q else 1)) S2 := by
    unfold bltE at n3 ⊢
    rw [consA_ok (show conE (.int 1) _ S1 = .ok (.int 1) S1 from rfl) (consA_ok n3 rfl)]
    rfl
  have near : 1 ≤ (if q > 1 then q else 1) ∧ (if q > 1 then q else 1) ≤ 1000000 := by
    split at hq <;> split <;> omega
  generalize (if q > 1 then q else 1) = w at n4 near
  rw [seqS_nx (asgS_ok (g := nameG 8) (δ' := [some (.ref 1), x1, x2, some (.int top), some (.ref (rest0.length + 2)), some (.tup feet), x6, some (.int fn), some (.int w)]) n4 rfl)]
  -- the new size
  obtain ⟨r3, S3, e3, a3, b3, d3⟩ := draw_at (δ := [some (.ref 1), x1, x2, some (.int top), some (.ref (rest0.length + 2)), some (.tup feet), x6, some (.int fn), some (.int w)]) (m := varE 3) (many := top) d2 (by omega) rfl rfl (by omega) (by omega)
  have p1 := add_int (m := conE (.int 1)) (δ := [some (.ref 1), x1, x2, some (.int top), some (.ref (rest0.length + 2)), some (.tup feet), x6, some (.int fn), some (.int w)]) (S := S2) (i := 1) rfl e3
  have p2 : lstE (consA (binE addD (conE (.int 1)) (callE 2 [] m__law_draw (consA (varE 0) (consA (varE 3) nilA)))) (consA (varE 8) nilA)) [some (.ref 1), x1, x2, some (.int top), some (.ref (rest0.length + 2)), some (.tup feet), x6, some (.int fn), some (.int w)] S2 = .ok (.lst [.int (1 + r3), .int w]) S3 := by
    unfold lstE
    rw [consA_ok p1 (show consA (varE 8) nilA _ S3 = .ok [.int w] S3 from rfl)]
    rfl
  obtain ⟨r4, S4, e4, a4, b4, d4⟩ := draw_at (δ := [some (.ref 1), x1, x2, some (.int top), some (.ref (rest0.length + 2)), some (.tup feet), x6, some (.int fn), some (.int w)]) (m := conE (.int 2)) (many := 2) d3 (by omega) rfl rfl (by omega) (by omega)
  obtain ⟨v, ev', hv⟩ := at_two (a := .int (1 + r3)) (b := .int w) a4 b4
  have sv : IsSz v := by
    rcases hv with rfl | rfl
    · exact ⟨1 + r3, rfl, by omega, by omega⟩
    · exact ⟨w, rfl, near.1, near.2⟩
  have p3 := (binE_ok (g := ixD) p2 e4).trans (ix_lst ev')
  obtain ⟨g4, dk⟩ := rest_at d4
  obtain ⟨g2, _⟩ := rest_at d2
  refine ⟨v, .int fn, .int w, S4.set (rest0.length + 2) (.lst (acc ++ [v])), ?_, sv, dk _⟩
  have ty : isTy S2 "list" (.ref (rest0.length + 2)) = true := by
    show (("list" : String) == "list" && (match S2[rest0.length + 2]? with | some (O.lst ds) => some ds | _ => none).isSome) = true
    rw [g2]
    rfl
  have m1 : lmD appK (.ref (rest0.length + 2)) [v] S4 = .ok .non (S4.set (rest0.length + 2) (.lst (acc ++ [v]))) := by
    show (match S4[rest0.length + 2]? with | some (O.lst ds) => (match (if ds.length < sizeLine then some (D.non, ds ++ [v]) else none) with | some (r, ds') => RE.ok r (S4.set (rest0.length + 2) (O.lst ds')) | none => .bad) | _ => .bad) = _
    rw [g4]
    show (match (if acc.length < sizeLine then some (D.non, acc ++ [v]) else none) with | some (r, ds') => RE.ok r (S4.set (rest0.length + 2) (O.lst ds')) | none => .bad) = _
    rw [if_pos (by have := sizeLine_eq; omega)]
  unfold exprS methE
  show RE.toS (if isTy S2 "list" (.ref (rest0.length + 2)) = true then ((consA (binE ixD (lstE (consA (binE addD (conE (.int 1)) (callE 2 [] m__law_draw (consA (varE 0) (consA (varE 3) nilA)))) (consA (varE 8) nilA))) (callE 2 [] m__law_draw (consA (varE 0) (consA (conE (.int 2)) nilA)))) nilA) _ S2).bind fun ds S2 => lmD appK (.ref (rest0.length + 2)) ds S2 else .bad) _ _ = _
  rw [if_pos ty, consA_ok p3 rfl]
  show RE.toS (lmD appK (.ref (rest0.length + 2)) [v] S4) _ _ = _
  rw [m1]
  rfl

theorem deck_len {k : Nat} {rest S : Sto} (h : Deck k rest S) : S.length = rest.length + 2 := by
  obtain ⟨cells, rfl, _⟩ := h
  rfl
theorem deck_add {k : Nat} {rest S : Sto} (h : Deck k rest S) (o : O) : Deck k (rest ++ [o]) (S ++ [o]) := by
  obtain ⟨cells, rfl, hc⟩ := h
  exact ⟨cells, rfl, hc⟩
theorem pairs_go {I : ItD} (hI : ∀ S, I.ok S) {rest0 : Sto} {feet : List D} {top : Int} {x1 x2 : Option D} (ht : 1 ≤ top ∧ top ≤ 1000000) (hf : feet ≠ []) (hfl : feet.length ≤ 20) (hfs : ∀ d ∈ feet, IsSz d) :
    ∀ (l : List D) (k : Nat) (acc : List D) (x6 x7 x8 : Option D) (S : Sto), Deck k (rest0 ++ [.lst acc]) S → k + 10 * (l.length + 1) < 2 ^ 40 → (∀ d ∈ acc, IsSz d) → acc.length + l.length ≤ 20 →
      ∃ acc' y6 y7 y8 S', forGo I (nameG 6) bST l [some (.ref 1), x1, x2, some (.int top), some (.ref (rest0.length + 2)), some (.tup feet), x6, x7, x8] S = .nx [some (.ref 1), x1, x2, some (.int top), some (.ref (rest0.length + 2)), some (.tup feet), y6, y7, y8] S' ∧ Deck (k + 4 * l.length) (rest0 ++ [.lst acc']) S' ∧ (∀ d ∈ acc', IsSz d) ∧ acc'.length ≤ 20
  | [], k, acc, x6, x7, x8, S, hd, hk, ha, hz => ⟨acc, x6, x7, x8, S, forGo_nil (hI S), hd, ha, hz⟩
  | d :: l, k, acc, x6, x7, x8, S, hd, hk, ha, hz => by
    have hz' : acc.length + (l.length + 1) ≤ 20 := hz
    have hk' : k + 10 * (l.length + 1 + 1) < 2 ^ 40 := hk
    obtain ⟨v, y7, y8, S1, e1, sv, d1⟩ := bST_ok (x1 := x1) (x2 := x2) (x6 := some d) (x7 := x7) (x8 := x8) hd (by omega) ht hf hfl hfs (by omega)
    obtain ⟨acc', z6, z7, z8, S2, e2, d2, h2, h3⟩ := pairs_go hI ht hf hfl hfs l (k + 4) (acc ++ [v]) (some d) (some y7) (some y8) S1 d1 (by omega) (fun z hz => by
      rcases List.mem_append.mp hz with q | q
      · exact ha z q
      · rw [show z = v by simpa using q]; exact sv) (by simp; omega)
    refine ⟨acc', z6, z7, z8, S2, ?_, by rw [show k + 4 * (d :: l).length = k + 4 + 4 * l.length by simp; omega]; exact d2, h2, h3⟩
    rw [forGo_cons (hI S) (show nameG 6 d S [some (.ref 1), x1, x2, some (.int top), some (.ref (rest0.length + 2)), some (.tup feet), x6, x7, x8] = some [some (.ref 1), x1, x2, some (.int top), some (.ref (rest0.length + 2)), some (.tup feet), some d, x7, x8] from rfl), e1]
    exact e2
theorem state_ok {k : Nat} {rest S : Sto} (hd : Deck k rest S) (hk : k + 1000 < 2 ^ 40) : ∃ (f p : List Int) (k' : Nat) (rest' S' : Sto), m__law_state [.ref 1, .int 20, .int 20] S = .ok (.tup [.tup (f.map D.int), .tup (p.map D.int)]) S' ∧ (∀ n ∈ f, 1 ≤ n ∧ n ≤ 1000000) ∧ f.length ≤ 20 ∧ (∀ n ∈ p, 1 ≤ n ∧ n ≤ 1000000) ∧ p.length ≤ 20 ∧ Deck k' rest' S' ∧ k' ≤ k + 200 := by
  have st : startD 9 [.ref 1, .int 20, .int 20] = [some (.ref 1), some (.int 20), some (.int 20), none, none, none, none, none, none] := rfl
  -- top, found
  obtain ⟨r1, S1, e1, a1, b1, d1⟩ := draw_at (δ := [some (.ref 1), some (.int 20), some (.int 20), none, none, none, none, none, none]) (m := conE (.int 3)) (many := 3) hd (by omega) rfl rfl (by omega) (by omega)
  have l3 : lstE (consA (conE (.int 4)) (consA (conE (.int 12)) (consA (binE powD (conE (.int 10)) (conE (.int 6))) nilA))) [some (.ref 1), some (.int 20), some (.int 20), none, none, none, none, none, none] S = .ok (.lst [.int 4, .int 12, .int 1000000]) S := by
    unfold lstE
    rw [consA_ok (show conE _ _ S = _ from rfl) (consA_ok (show conE _ _ S = _ from rfl) (consA_ok (million _ S) rfl))]
    rfl
  have tp : ∃ top, atI [D.int 4, .int 12, .int 1000000] r1 = some (.int top) ∧ 1 ≤ top ∧ top ≤ 1000000 := by
    rcases (show r1 = 0 ∨ r1 = 1 ∨ r1 = 2 by omega) with rfl | rfl | rfl
    · exact ⟨4, rfl, by decide, by decide⟩
    · exact ⟨12, rfl, by decide, by decide⟩
    · exact ⟨1000000, rfl, by decide, by decide⟩
  obtain ⟨top, et, t1, t2⟩ := tp
  have q1 := (binE_ok (g := ixD) l3 e1).trans (ix_lst et)
  have ln1 := deck_len d1
  have s1 : asgS (tupE (consA (binE ixD (lstE (consA (conE (.int 4)) (consA (conE (.int 12)) (consA (binE powD (conE (.int 10)) (conE (.int 6))) nilA)))) (callE 2 [] m__law_draw (consA (varE 0) (consA (conE (.int 3)) nilA)))) (consA (refE nilA) nilA))) (tupG 2 (consG (nameG 3) (consG (nameG 4) nilG))) [some (.ref 1), some (.int 20), some (.int 20), none, none, none, none, none, none] S = .nx [some (.ref 1), some (.int 20), some (.int 20), some (.int top), some (.ref (rest.length + 2)), none, none, none, none] (S1 ++ [.lst []]) := by
    refine asgS_ok (d := .tup [.int top, .ref (rest.length + 2)]) ?_ rfl
    unfold tupE
    rw [consA_ok q1 (consA_ok (show refE nilA _ S1 = .ok (.ref S1.length) (S1 ++ [.lst []]) from rfl) rfl), ln1]
    rfl
  have d1' := deck_add d1 (.lst [])
  generalize S1 ++ [O.lst []] = S2 at s1 d1'
  -- feet
  obtain ⟨r3, S3, e3, a3, b3, d3⟩ := draw_at (δ := [some (.ref 1), some (.int 20), some (.int 20), some (.int top), some (.ref (rest.length + 2)), none, none, none, none]) (m := varE 1) (many := 20) d1' (by omega) rfl rfl (by omega) (by omega)
  have it1 := range1 (add_int (m := conE (.int 1)) (δ := [some (.ref 1), some (.int 20), some (.int 20), some (.int top), some (.ref (rest.length + 2)), none, none, none, none]) (S := S2) (i := 1) rfl e3) (by omega) (by omega)
  have ul := upTo_len 0 (1 + r3).toNat
  obtain ⟨feet, S4, f1, f2, f3, f4⟩ := lcGo_st (I := ⟨DL.upTo 0 (1 + r3).toNat, fun _ => True⟩) (g := nameG 6) (e := binE addD (conE (.int 1)) (callE 2 [] m__law_draw (consA (varE 0) (consA (varE 3) nilA)))) (δ := [some (.ref 1), some (.int 20), some (.int 20), some (.int top), some (.ref (rest.length + 2)), none, none, none, none]) (Inv := fun i S => Deck (k + 1 + 1 + i) (rest ++ [.lst []]) S) (P := IsSz) (n := 20) (fun _ => trivial)
    (fun d i S hi hD => by
      obtain ⟨r, S', e, a, b, dd⟩ := draw_at (δ := [some (.ref 1), some (.int 20), some (.int 20), some (.int top), some (.ref (rest.length + 2)), none, some d, none, none]) (m := varE 3) (many := top) hD (by omega) rfl rfl (by omega) (by omega)
      exact ⟨_, .int (1 + r), S', rfl, add_int (m := conE (.int 1)) (δ := [some (.ref 1), some (.int 20), some (.int 20), some (.int top), some (.ref (rest.length + 2)), none, some d, none, none]) (S := S) (i := 1) rfl e, ⟨1 + r, rfl, by omega, by omega⟩, dd⟩)
    (DL.upTo 0 (1 + r3).toNat) [] 0 S3 (by rw [ul]; omega) d3 (fun d h => by cases h) (by rw [ul]; have := sizeLine_eq; simp; omega)
  have lc : lcM (rg1I (consA (binE addD (conE (.int 1)) (callE 2 [] m__law_draw (consA (varE 0) (consA (varE 1) nilA)))) nilA)) [6] (nameG 6) noT (binE addD (conE (.int 1)) (callE 2 [] m__law_draw (consA (varE 0) (consA (varE 3) nilA)))) [some (.ref 1), some (.int 20), some (.int 20), some (.int top), some (.ref (rest.length + 2)), none, none, none, none] S2 = .ok feet S4 := by
    unfold lcM
    rw [it1]
    exact f1
  have fl : feet.length = (1 + r3).toNat := by rw [f3, ul]; simp
  have fne : feet ≠ [] := fun z => by
    rw [z] at fl
    simp at fl
    omega
  rw [ul] at f4
  have s2 : asgS (bltE tupleD (consA (lcE (rg1I (consA (binE addD (conE (.int 1)) (callE 2 [] m__law_draw (consA (varE 0) (consA (varE 1) nilA)))) nilA)) [6] (nameG 6) noT (binE addD (conE (.int 1)) (callE 2 [] m__law_draw (consA (varE 0) (consA (varE 3) nilA))))) nilA)) (nameG 5) [some (.ref 1), some (.int 20), some (.int 20), some (.int top), some (.ref (rest.length + 2)), none, none, none, none] S2 = .nx [some (.ref 1), some (.int 20), some (.int 20), some (.int top), some (.ref (rest.length + 2)), some (.tup feet), none, none, none] S4 :=
    asgS_ok ((bltE_one (lcE_ok lc)).trans rfl) rfl
  -- pairs
  have mo := add_int (m := varE 2) (n := conE (.int 1)) (δ := [some (.ref 1), some (.int 20), some (.int 20), some (.int top), some (.ref (rest.length + 2)), some (.tup feet), none, none, none]) (S := S4) (i := 20) (j := 1) rfl rfl
  obtain ⟨r5, S5, e5, a5, b5, d5⟩ := draw_at (δ := [some (.ref 1), some (.int 20), some (.int 20), some (.int top), some (.ref (rest.length + 2)), some (.tup feet), none, none, none]) (many := 20 + 1) f4 (by omega) rfl mo (by omega) (by omega)
  have it2 := range1 e5 a5 (by omega)
  have ul2 := upTo_len 0 r5.toNat
  obtain ⟨acc, y6, y7, y8, S6, g1, g2, g3, g4⟩ := pairs_go (I := ⟨DL.upTo 0 r5.toNat, fun _ => True⟩) (fun _ => trivial) (x1 := some (.int 20)) (x2 := some (.int 20)) ⟨t1, t2⟩ fne (by omega) f2 (DL.upTo 0 r5.toNat) _ [] none none none S5 d5 (by rw [ul2]; omega) (fun d h => by cases h) (by rw [ul2]; simp; omega)
  obtain ⟨fs, rfl, hfs⟩ := szs_of f2
  obtain ⟨ps, rfl, hps⟩ := szs_of g3
  rw [ul2] at g2
  obtain ⟨g6, _⟩ := rest_at g2
  refine ⟨fs, ps, _, _, S6, fnB_rt ?_, hfs, ?_, hps, by simpa using g4, g2, by omega⟩
  · unfold b__law_state
    rw [st, seqS_nx s1, seqS_nx s2, seqS_nx ((forS_ok it2).trans g1)]
    refine retS_ok ?_
    have t6 : bltE tupleD (consA (varE 4) nilA) [some (.ref 1), some (.int 20), some (.int 20), some (.int top), some (.ref (rest.length + 2)), some (.tup (fs.map D.int)), y6, y7, y8] S6 = .ok (.tup (ps.map D.int)) S6 := by
      rw [bltE_one (d := .ref (rest.length + 2)) rfl]
      show (match (match S6[rest.length + 2]? with | some (O.lst ds) => some ds | _ => none) with | some es => RE.ok (D.tup es) S6 | none => .bad) = _
      rw [g6]
    unfold tupE
    rw [consA_ok (show varE 5 _ S6 = .ok (.tup (fs.map D.int)) S6 from rfl) (consA_ok t6 rfl)]
    rfl
  · have := fl
    simp at this
    omega
end K56

namespace K56
open PySem PySem.Spec PyProof.Rows L2 DL
/-! ### texts of bounded length, of usual signs -/
def Tx (n : Nat) (x : Str) : Prop := x.length ≤ n ∧ ∀ c ∈ x.cps.toList, c < 16 ^ 8
theorem Tx.mono {m n : Nat} {x : Str} (h : Tx m x) (q : m ≤ n) : Tx n x := ⟨Nat.le_trans h.1 q, h.2⟩
theorem Tx.app {m n : Nat} {x y : Str} (h : Tx m x) (k : Tx n y) : Tx (m + n) (x ++ y) := by
  refine ⟨by rw [Str.length_append]; have := h.1; have := k.1; omega, fun c hc => ?_⟩
  rcases mem_cps_append.mp hc with q | q
  · exact h.2 c q
  · exact k.2 c q
theorem Tx.ofB {n : Nat} {x : Str} (h : (decide (x.length ≤ n) && x.cps.toList.all fun c => decide (c < 16 ^ 8)) = true) : Tx n x := by
  obtain ⟨h1, h2⟩ := He.ba h
  exact ⟨of_decide_eq_true h1, fun c hc => of_decide_eq_true (List.all_eq_true.mp h2 c hc)⟩
/-- how long the texts are together, with one sign behind each -/
def wt (l : List Str) : Nat := (l.map (·.length)).sum + l.length
def Txs (n : Nat) (l : List Str) : Prop := wt l ≤ n ∧ ∀ w ∈ l, ∀ c ∈ w.cps.toList, c < 16 ^ 8
theorem wt_app (a b : List Str) : wt (a ++ b) = wt a + wt b := by
  unfold wt
  rw [List.map_append, List.sum_append, List.length_append]
  omega
theorem wt_cons (x : Str) (l : List Str) : wt (x :: l) = x.length + 1 + wt l := by
  unfold wt
  rw [List.map_cons, List.sum_cons, List.length_cons]
  omega
theorem Txs.app {m n : Nat} {a b : List Str} (h : Txs m a) (k : Txs n b) : Txs (m + n) (a ++ b) := by
  refine ⟨by rw [wt_app]; have := h.1; have := k.1; omega, fun w hw => ?_⟩
  rcases List.mem_append.mp hw with q | q
  · exact h.2 w q
  · exact k.2 w q
theorem Txs.sub {n : Nat} {a b : List Str} (h : Txs n a) (k : b.Sublist a) : Txs n b := by
  refine ⟨?_, fun w hw => h.2 w (k.subset hw)⟩
  have : wt b ≤ wt a := by
    induction k with
    | slnil => exact Nat.le_refl _
    | cons x s ih => rw [wt_cons]; have := ih ⟨by have := h.1; rw [wt_cons] at this; omega, fun w hw => h.2 w (List.mem_cons_of_mem _ hw)⟩; omega
    | cons_cons x s ih => rw [wt_cons, wt_cons]; have := ih ⟨by have := h.1; rw [wt_cons] at this; omega, fun w hw => h.2 w (List.mem_cons_of_mem _ hw)⟩; omega
  exact Nat.le_trans this h.1
theorem cut_sub {α : Type} (xs : List α) (lo hi : Option Int) : (cutL xs lo hi).Sublist xs := (List.take_sublist _ _).trans (List.drop_sublist _ _)
theorem Txs.cut {n : Nat} {a : List Str} (h : Txs n a) (lo hi : Option Int) : Txs n (cutL a lo hi) := h.sub (cut_sub a lo hi)
theorem join_mem (sep : Str) : ∀ (l : List Str) (w : Str) (c : Nat), w ∈ l → c ∈ w.cps.toList → c ∈ (Str.join sep l).cps.toList
  | [], w, c, h, _ => by cases h
  | [x], w, c, h, hc => by
    rw [show w = x by simpa using h] at hc
    exact hc
  | x :: y :: l, w, c, h, hc => by
    show c ∈ (x ++ sep ++ Str.join sep (y :: l)).cps.toList
    rcases List.mem_cons.mp h with rfl | h
    · exact mem_cps_append.mpr (.inl (mem_cps_append.mpr (.inl hc)))
    · exact mem_cps_append.mpr (.inr (join_mem sep (y :: l) w c h hc))
theorem join_tx (sep : Str) (hs : Tx 1 sep) : ∀ (l : List Str) (n : Nat), Txs n l → Tx n (Str.join sep l)
  | [], n, h => ⟨Nat.zero_le _, fun c hc => by simp [Str.join, Str.empty] at hc⟩
  | [x], n, h => by
    have := h.1
    rw [wt_cons] at this
    exact ⟨by show x.length ≤ n; omega, fun c hc => h.2 x (List.mem_cons_self ..) c hc⟩
  | x :: y :: l, n, h => by
    have h1 := h.1
    rw [wt_cons] at h1
    have ih := join_tx sep hs (y :: l) (wt (y :: l)) ⟨Nat.le_refl _, fun w hw => h.2 w (List.mem_cons_of_mem _ hw)⟩
    have hx : Tx x.length x := ⟨Nat.le_refl _, h.2 x (List.mem_cons_self ..)⟩
    exact ((hx.app hs).app ih).mono (by omega)
theorem split_txs {n : Nat} {x y : Str} (h : Tx n x) (hy : 1 ≤ y.length) : Txs (n + 1) (Txt.split x y) := by
  refine ⟨?_, fun w hw c hc => h.2 c ?_⟩
  · have := split_weight x y hy
    have := h.1
    unfold wt
    omega
  · have := join_mem y (Txt.split x y) w c hw hc
    rw [StrLaws.join_split] at this
    exact this
theorem cutS_tx {n : Nat} {x : Str} (h : Tx n x) (lo hi : Option Int) : Tx n (cutS x lo hi) := by
  refine ⟨Nat.le_trans (cutS_length x lo hi) h.1, fun c hc => h.2 c ?_⟩
  unfold cutS at hc
  have : c ∈ ((x.cps.toList.drop (HT.sIx x.length 0 lo)).take (HT.sIx x.length x.length hi - HT.sIx x.length 0 lo)) := by simpa using hc
  exact List.mem_of_mem_drop (List.mem_of_mem_take this)
/-- joined, as the program does it -/
theorem join_ok {sep : Str} (hs : Tx 1 sep) {l : List Str} {n : Nat} (h : Txs n l) (hn : n ≤ 100000) (S : Sto) : ∃ x, joinD (.str sep) [.lst (l.map D.str)] S = .ok (.str x) S ∧ Tx n x := by
  refine ⟨Txt.join sep l, ?_, by rw [TL.join_eq]; exact join_tx sep hs l n h⟩
  show (match (seqOf S (.lst (l.map D.str))).bind strsOf with | some ys => if (ys.map fun y : Str => y.length).sum + ys.length * sep.length ≤ 16777216 then RE.ok (D.str (Txt.join sep ys)) S else .bad | none => .bad) = _
  rw [show (seqOf S (.lst (l.map D.str))).bind strsOf = some l from strsOf_map l]
  have h1 := h.1
  have h2 := hs.1
  unfold wt at h1
  have : l.length * sep.length ≤ l.length * 1 := Nat.mul_le_mul_left _ h2
  exact if_pos (by omega)
theorem str_of_sz {v : Int} (h0 : 1 ≤ v) (h1 : v ≤ 1000000) (S : Sto) : ∃ x, strD [.int v] S = .ok (.str x) S ∧ Tx 7 x := by
  refine ⟨toString v, ?_, ?_⟩
  · show (if v.natAbs.log2 < 1920 then RE.ok (D.str (Str.ofString (toString v))) S else .bad) = _
    refine if_pos ?_
    have : v.natAbs.log2 ≤ v.natAbs := Nat.log2_le_self _
    have h2 : v.natAbs.log2 < 20 := by
      rw [Nat.log2_lt (by omega)]
      omega
    omega
  · obtain ⟨n, rfl⟩ : ∃ n : Nat, v = (n : Int) := ⟨v.toNat, by omega⟩
    have e : (Str.ofString (toString ((n : Nat) : Int))).cps.toList = TL.numL n := TL.tl_num n
    refine ⟨?_, fun c hc => ?_⟩
    · rw [← toList_len]
      rw [show (toString ((n : Nat) : Int) : Str) = Str.ofString (toString ((n : Nat) : Int)) from rfl, e]
      exact TL.numL_len (by decide) (by omega)
    · have hc' : c ∈ TL.numL n := by rw [← e]; exact hc
      have := TL.numL_digits n c hc'
      omega

/-! ### the text of a hall -/
theorem sizes_text {ns : List Int} (hn : ∀ n ∈ ns, 1 ≤ n ∧ n ≤ 1000000) (hl : ns.length ≤ 20) (a b c d : Option D) (S : Sto) :
    ∃ x, methE "str" joinD (conE (.str ",")) (consA (lcE (tpI (varE 3)) [4] (nameG 4) noT (bltE strD (consA (varE 4) nilA))) nilA) [a, b, c, some (.tup (ns.map D.int)), d] S = .ok (.str x) S ∧ Tx 160 x := by
  have z : (ns.map D.int).length ≤ sizeLine := by rw [List.length_map]; exact Nat.le_trans hl (by decide)
  have lc : lcM (tpI (varE 3)) [4] (nameG 4) noT (bltE strD (consA (varE 4) nilA)) [a, b, c, some (.tup (ns.map D.int)), d] S = .ok ((ns.map fun (n : Int) => (toString n : Str)).map D.str) S := by
    show lcGo ⟨ns.map D.int, fun _ => True⟩ _ _ _ _ (ns.map D.int) S [] = _
    refine (lcGo_map (f := fun d => match d with | .int i => .str (Str.ofString (toString i)) | d => d) ?_ _ (fun d hd => ?_) z).trans ?_
    · trivial
    · obtain ⟨n, hm, rfl⟩ := List.mem_map.mp hd
      refine ⟨_, rfl, ?_⟩
      rw [bltE_one (d := .int n) rfl]
      show (if n.natAbs.log2 < 1920 then RE.ok (D.str (Str.ofString (toString n))) S else .bad) = _
      refine if_pos ?_
      have := hn n hm
      have h2 : n.natAbs.log2 < 20 := by
        rw [Nat.log2_lt (by omega)]
        omega
      omega
    · rw [List.map_map, List.map_map]
      rfl
  have tx : Txs (8 * ns.length) (ns.map fun (n : Int) => (toString n : Str)) := by
    clear lc z hl
    induction ns with
    | nil => exact ⟨Nat.zero_le _, fun w hw => by cases hw⟩
    | cons n ns ih =>
      have i := ih fun m hm => hn m (List.mem_cons_of_mem _ hm)
      obtain ⟨x, e, hx⟩ := str_of_sz (hn n (List.mem_cons_self ..)).1 (hn n (List.mem_cons_self ..)).2 S
      have ex : (toString n : Str) = x := by
        have e' : (if n.natAbs.log2 < 1920 then RE.ok (D.str (Str.ofString (toString n))) S else .bad) = RE.ok (D.str x) S := e
        split at e'
        · cases e'
          rfl
        · cases e'
      rw [List.map_cons]
      refine ⟨?_, fun w hw => ?_⟩
      · rw [wt_cons, ex, List.length_cons]
        have := hx.1
        have := i.1
        omega
      · rcases List.mem_cons.mp hw with rfl | hw
        · rw [ex]; exact hx.2
        · exact i.2 w hw
  obtain ⟨x, e, hx⟩ := join_ok (sep := ",") (Tx.ofB (by decide +kernel)) tx (by omega) S
  refine ⟨x, ?_, hx.mono (by omega)⟩
  show (if isTy S "str" (.str ",") = true then ((consA (lcE (tpI (varE 3)) [4] (nameG 4) noT (bltE strD (consA (varE 4) nilA))) nilA) [a, b, c, some (.tup (ns.map D.int)), d] S).bind fun ds S2 => joinD (.str ",") ds S2 else .bad) = _
  rw [if_pos (show isTy S "str" (.str ",") = true from rfl), consA_ok (lcE_ok lc) rfl]
  exact e
theorem add_str {δ : DL.Loc} {S S1 S2 : Sto} {m n : ME} {x y : Str} (h : m δ S = .ok (.str x) S1) (k : n δ S1 = .ok (.str y) S2) (hz : x.length + y.length ≤ 100000) : binE addD m n δ S = .ok (.str (x ++ y)) S2 := by
  rw [binE_ok h k]
  show (if x.length + y.length ≤ sizeLine then RE.ok (D.str (x ++ y)) S2 else .bad) = _
  exact if_pos (by have := sizeLine_eq; omega)
theorem hall_text_ok {f p : List Int} (hf : ∀ n ∈ f, 1 ≤ n ∧ n ≤ 1000000) (hfl : f.length ≤ 20) (hp : ∀ n ∈ p, 1 ≤ n ∧ n ≤ 1000000) (hpl : p.length ≤ 20) (S : Sto) : ∃ x, m__law_hall_text [.tup [.tup (f.map D.int), .tup (p.map D.int)]] S = .ok (.str x) S ∧ Tx 400 x := by
  obtain ⟨x1, e1, t1⟩ := sizes_text hf hfl (some (.tup [.tup (f.map D.int), .tup (p.map D.int)])) none none none S
  obtain ⟨x2, e2, t2⟩ := sizes_text hp hpl (some (.tup [.tup (f.map D.int), .tup (p.map D.int)])) none none none S
  have lc : lcM (tpI (varE 0)) [3] (nameG 3) noT (methE "str" joinD (conE (.str ",")) (consA (lcE (tpI (varE 3)) [4] (nameG 4) noT (bltE strD (consA (varE 4) nilA))) nilA)) [some (.tup [.tup (f.map D.int), .tup (p.map D.int)]), none, none, none, none] S = .ok [.str x1, .str x2] S := by
    refine lcM_ok (I := ⟨[.tup (f.map D.int), .tup (p.map D.int)], fun _ => True⟩) rfl ?_
    refine (lcGo_step (δ1 := [some (.tup [.tup (f.map D.int), .tup (p.map D.int)]), none, none, some (.tup (f.map D.int)), none]) trivial rfl e1 (by decide)).trans ?_
    refine (lcGo_step (δ1 := [some (.tup [.tup (f.map D.int), .tup (p.map D.int)]), none, none, some (.tup (p.map D.int)), none]) trivial rfl e2 (show ([] ++ [D.str x1]).length < sizeLine from (by decide : 1 < sizeLine))).trans ?_
    exact lcGo_nil trivial
  have t3 : Tx 3 " / " := Tx.ofB (by decide +kernel)
  have td : Tx 1 "-" := Tx.ofB (by decide +kernel)
  have s1 : asgS (lcE (tpI (varE 0)) [3] (nameG 3) noT (methE "str" joinD (conE (.str ",")) (consA (lcE (tpI (varE 3)) [4] (nameG 4) noT (bltE strD (consA (varE 4) nilA))) nilA))) (tupG 2 (consG (nameG 1) (consG (nameG 2) nilG))) [some (.tup [.tup (f.map D.int), .tup (p.map D.int)]), none, none, none, none] S = .nx [some (.tup [.tup (f.map D.int), .tup (p.map D.int)]), some (.str x1), some (.str x2), none, none] S := asgS_ok (lcE_ok lc) rfl
  have a1 := add_str (m := varE 1) (n := conE (.str " / ")) (δ := [some (.tup [.tup (f.map D.int), .tup (p.map D.int)]), some (.str x1), some (.str x2), none, none]) (S := S) (x := x1) (y := " / ") rfl rfl (by have := t1.1; have := t3.1; omega)
  have last : ∃ y, ifE (testE (binE neD (varE 2) (conE (.str "")))) (varE 2) (conE (.str "-")) [some (.tup [.tup (f.map D.int), .tup (p.map D.int)]), some (.str x1), some (.str x2), none, none] S = .ok (.str y) S ∧ Tx 160 y := by
    have t : testE (binE neD (varE 2) (conE (.str ""))) [some (.tup [.tup (f.map D.int), .tup (p.map D.int)]), some (.str x1), some (.str x2), none, none] S = .ok (!(x2 == ("" : Str))) S := testE_bl ((binE_ok (x := .str x2) (y := .str "") rfl rfl).trans (ne_str _ _ S))
    cases hq : (x2 == ("" : Str)) with
    | true =>
      rw [hq] at t
      exact ⟨"-", (ifE_f t).trans rfl, td.mono (by decide)⟩
    | false =>
      rw [hq] at t
      exact ⟨x2, (ifE_t t).trans rfl, t2⟩
  obtain ⟨y, ey, ty⟩ := last
  have a2 := add_str a1 ey (by have := (t1.app t3).1; have := ty.1; omega)
  refine ⟨x1 ++ " / " ++ y, fnB_rt (S1 := S) ?_, ((t1.app t3).app ty).mono (by decide)⟩
  rw [show startD 5 [.tup [.tup (f.map D.int), .tup (p.map D.int)]] = [some (.tup [.tup (f.map D.int), .tup (p.map D.int)]), none, none, none, none] from rfl]
  unfold b__law_hall_text
  rw [seqS_nx s1]
  exact retS_ok a2
end K56

namespace K56
open PySem PySem.Spec PyProof.Rows L2 DL
/-! ### a bent text -/
theorem cut_map {α β : Type} (f : α → β) (l : List α) (lo hi : Option Int) : cutL (l.map f) lo hi = (cutL l lo hi).map f := by
  unfold cutL
  rw [List.length_map, List.map_take, List.map_drop]
theorem sl_w {ws : List Str} {δ : DL.Loc} {S S1 S2 S3 : Sto} {m : ME} {ml mh : MO} {lo hi : Option Int} (h : m δ S = .ok (.lst (ws.map D.str)) S1) (hl : ml δ S1 = .ok lo S2) (hh : mh δ S2 = .ok hi S3) : slE m ml mh δ S = .ok (.lst ((cutL ws lo hi).map D.str)) S3 := by
  unfold slE
  rw [h]
  show (ml δ S1).bind _ = _
  rw [hl]
  show (mh δ S2).bind _ = _
  rw [hh]
  show RE.ok (D.lst (cutL (ws.map D.str) lo hi)) S3 = _
  rw [cut_map]
theorem sl_s {x : Str} {δ : DL.Loc} {S S1 S2 S3 : Sto} {m : ME} {ml mh : MO} {lo hi : Option Int} (hz : x.length ≤ sizeLine) (h : m δ S = .ok (.str x) S1) (hl : ml δ S1 = .ok lo S2) (hh : mh δ S2 = .ok hi S3) : slE m ml mh δ S = .ok (.str (cutS x lo hi)) S3 := by
  unfold slE
  rw [h]
  show (ml δ S1).bind _ = _
  rw [hl]
  show (mh δ S2).bind _ = _
  rw [hh]
  show (if x.length ≤ sizeLine then RE.ok (D.str (cutS x lo hi)) S3 else .bad) = _
  exact if_pos hz
theorem some_o {δ : DL.Loc} {S S1 : Sto} {m : ME} {i : Int} (h : m δ S = .ok (.int i) S1) : someO m δ S = .ok (some i) S1 := by
  unfold someO
  rw [h]
  rfl
theorem add_w {δ : DL.Loc} {S S1 S2 : Sto} {m n : ME} {a b : List Str} (h : m δ S = .ok (.lst (a.map D.str)) S1) (k : n δ S1 = .ok (.lst (b.map D.str)) S2) (hz : a.length + b.length ≤ sizeLine) : binE addD m n δ S = .ok (.lst ((a ++ b).map D.str)) S2 := by
  rw [binE_ok h k]
  show (if (a.map D.str).length + (b.map D.str).length ≤ sizeLine then RE.ok (D.lst (a.map D.str ++ b.map D.str)) S2 else .bad) = _
  rw [List.length_map, List.length_map, if_pos hz, List.map_append]
theorem wt_len (l : List Str) : l.length ≤ wt l := by
  unfold wt
  omega
theorem join_at {δ : DL.Loc} {S S1 : Sto} {m : ME} {l : List Str} {n : Nat} (h : m δ S = .ok (.lst (l.map D.str)) S1) (hl : Txs n l) (hn : n ≤ 100000) : ∃ y, retS (methE "str" joinD (conE (.str " ")) (consA m nilA)) δ S = .rt (.str y) S1 ∧ Tx n y := by
  obtain ⟨y, e, ty⟩ := join_ok (sep := " ") (Tx.ofB (by decide +kernel)) hl hn S1
  refine ⟨y, retS_ok ?_, ty⟩
  unfold methE
  show (if isTy S "str" (.str " ") = true then ((consA m nilA) δ S).bind fun ds S2 => joinD (.str " ") ds S2 else .bad) = _
  rw [if_pos (show isTy S "str" (.str " ") = true from rfl), consA_ok h rfl]
  exact e
theorem rep_tx {x : Str} (h : Tx 1 x) (hx : x.length = 1) {k : Int} (h0 : 0 ≤ k) (h2 : k < 2) (S : Sto) : ∃ y, mulD (.str x) (.int k) S = .ok (.str y) S ∧ Tx 1 y := by
  refine ⟨repS k x, ?_, ?_⟩
  · show (if -(2 ^ 31) ≤ k ∧ k < 2 ^ 31 ∧ x.length * k.toNat ≤ 16777216 then RE.ok (D.str (repS k x)) S else .bad) = _
    refine if_pos ⟨by omega, by omega, ?_⟩
    rw [hx]
    omega
  · rcases (show k = 0 ∨ k = 1 by omega) with rfl | rfl
    · exact ⟨Nat.zero_le _, fun c hc => by simp [repS, Str.empty] at hc⟩
    · exact h
theorem six_pos {n d : Nat} {v : Int} (h : 0 ≤ v) : HT.sIx n d (some v) = min v.toNat n := if_neg (by omega)
theorem bent_ok {k n : Nat} {rest S : Sto} {x : Str} (hd : Deck k rest S) (hk : k + 20 < 2 ^ 40) (hx : Tx n x) (hn : n ≤ 10000) : ∃ y k' S', m__law_bent [.ref 1, .str x] S = .ok (.str y) S' ∧ Tx (2 * n + 10) y ∧ Deck k' rest S' ∧ k' ≤ k + 10 := by
  have z := sizeLine_eq
  have xl := hx.1
  have st : startD 7 [.ref 1, .str x] = [some (.ref 1), some (.str x), none, none, none, none, none] := rfl
  have tw : Txs (n + 1) (words x) := split_txs hx (show 1 ≤ (" " : Str).length by decide +kernel)
  have w1 : 1 ≤ (words x).length := split_pos x " "
  have wl : (words x).length ≤ n + 1 := Nat.le_trans (wt_len _) tw.1
  have s1 : asgS (methE "str" splitD (varE 1) (consA (conE (.str " ")) nilA)) (nameG 2) [some (.ref 1), some (.str x), none, none, none, none, none] S = .nx [some (.ref 1), some (.str x), some (.lst ((words x).map D.str)), none, none, none, none] S :=
    asgS_ok (show methE "str" splitD (varE 1) (consA (conE (.str " ")) nilA) [some (.ref 1), some (.str x), none, none, none, none, none] S = .ok (.lst ((words x).map D.str)) S from split_sp (by omega) S) rfl
  have ln : bltE lenD (consA (varE 2) nilA) [some (.ref 1), some (.str x), some (.lst ((words x).map D.str)), none, none, none, none] S = .ok (.int (words x).length) S := by
    rw [bltE_one (d := .lst ((words x).map D.str)) rfl]
    show RE.ok (D.int (((words x).map D.str).length : Nat)) S = _
    rw [List.length_map]
  obtain ⟨at_, S1, e1, a1, b1, d1⟩ := draw_at (δ := [some (.ref 1), some (.str x), some (.lst ((words x).map D.str)), none, none, none, none]) hd (by omega) rfl ln (by omega) (by omega)
  obtain ⟨way, S2, e2, a2, b2, d2⟩ := draw_at (δ := [some (.ref 1), some (.str x), some (.lst ((words x).map D.str)), some (.int at_), none, none, none]) (m := conE (.int 6)) (many := 6) d1 (by omega) rfl rfl (by omega) (by omega)
  have s2 := asgS_ok (g := nameG 3) (δ' := [some (.ref 1), some (.str x), some (.lst ((words x).map D.str)), some (.int at_), none, none, none]) e1 rfl
  have s3 := asgS_ok (g := nameG 4) (δ' := [some (.ref 1), some (.str x), some (.lst ((words x).map D.str)), some (.int at_), some (.int way), none, none]) e2 rfl
  have isw : ∀ j : Int, testE (binE eqD (varE 4) (conE (.int j))) [some (.ref 1), some (.str x), some (.lst ((words x).map D.str)), some (.int at_), some (.int way), none, none] S2 = .ok (decide (way = j)) S2 := fun j => by
    refine testE_bl ?_
    rw [binE_ok (x := .int way) (y := .int j) rfl rfl, eq_int]
    congr 2
  have v2 : varE 2 [some (.ref 1), some (.str x), some (.lst ((words x).map D.str)), some (.int at_), some (.int way), none, none] S2 = .ok (.lst ((words x).map D.str)) S2 := rfl
  have o3 : someO (varE 3) [some (.ref 1), some (.str x), some (.lst ((words x).map D.str)), some (.int at_), some (.int way), none, none] S2 = .ok (some at_) S2 := rfl
  have o4 : someO (binE addD (varE 3) (conE (.int 1))) [some (.ref 1), some (.str x), some (.lst ((words x).map D.str)), some (.int at_), some (.int way), none, none] S2 = .ok (some (at_ + 1)) S2 := some_o (add_int (i := at_) (j := 1) rfl rfl)
  have no : noO [some (.ref 1), some (.str x), some (.lst ((words x).map D.str)), some (.int at_), some (.int way), none, none] S2 = .ok none S2 := rfl
  have c1 := sl_w v2 no o3
  have c2 := sl_w v2 o3 o4
  have c3 := sl_w v2 o3 no
  have c4 := sl_w v2 o4 no
  have t1 := tw.cut none (some at_)
  have t2 := tw.cut (some at_) (some (at_ + 1))
  have t3 := tw.cut (some at_) none
  have t4 := tw.cut (some (at_ + 1)) none
  have l1 := Nat.le_trans (wt_len _) t1.1
  have l3 := Nat.le_trans (wt_len _) t3.1
  have l4 := Nat.le_trans (wt_len _) t4.1
  have one : (cutL (words x) (some at_) (some (at_ + 1))).length ≤ 1 := by
    unfold cutL
    rw [List.length_take]
    have h1 : HT.sIx (words x).length (words x).length (some (at_ + 1)) = min (at_ + 1).toNat (words x).length := six_pos (by omega)
    have h2 : HT.sIx (words x).length 0 (some at_) = min at_.toNat (words x).length := six_pos a1
    rw [h1, h2]
    omega
  -- the three parts of the first way weigh no more than twice the words
  have t123 : Txs (2 * n + 10) (cutL (words x) none (some at_) ++ cutL (words x) (some at_) (some (at_ + 1)) ++ cutL (words x) (some at_) none) := by
    have e : cutL (words x) none (some at_) ++ cutL (words x) (some at_) none = words x := by
      unfold cutL
      have h2 : HT.sIx (words x).length 0 (some at_) = at_.toNat := (six_pos a1).trans (by omega)
      have h3 : HT.sIx (words x).length (words x).length (some at_) = at_.toNat := (six_pos a1).trans (by omega)
      rw [h2, h3]
      show (((words x).drop 0).take (at_.toNat - 0)) ++ (((words x).drop at_.toNat).take ((words x).length - at_.toNat)) = _
      rw [List.drop_zero, Nat.sub_zero, List.take_of_length_le (l := (words x).drop at_.toNat) (by rw [List.length_drop]; exact Nat.le_refl _), List.take_append_drop]
    refine ⟨?_, fun w hw => ?_⟩
    · have h := tw.1
      have h2 := t2.1
      rw [wt_app, wt_app]
      have h3 : wt (cutL (words x) none (some at_)) + wt (cutL (words x) (some at_) none) = wt (words x) := by rw [← wt_app, e]
      omega
    · rcases List.mem_append.mp hw with q | q
      · rcases List.mem_append.mp q with q | q
        · exact t1.2 w q
        · exact t2.2 w q
      · exact t3.2 w q
  unfold m__law_bent b__law_bent
  have go : ∀ {m : MS} {y : Str} {S' : Sto} {k' : Nat}, m [some (.ref 1), some (.str x), some (.lst ((words x).map D.str)), some (.int at_), some (.int way), none, none] S2 = .rt (.str y) S' → Tx (2 * n + 10) y → Deck k' rest S' → k' ≤ k + 10 →
      ∃ y k' S', fnB 7 (seqS (asgS (methE "str" splitD (varE 1) (consA (conE (.str " ")) nilA)) (nameG 2)) (seqS (asgS (callE 2 [] m__law_draw (consA (varE 0) (consA (bltE lenD (consA (varE 2) nilA)) nilA))) (nameG 3)) (seqS (asgS (callE 2 [] m__law_draw (consA (varE 0) (consA (conE (.int 6)) nilA))) (nameG 4)) m))) [.ref 1, .str x] S = .ok (.str y) S' ∧ Tx (2 * n + 10) y ∧ Deck k' rest S' ∧ k' ≤ k + 10 := by
    intro m y S' k' h ty hD hle
    refine ⟨y, k', S', fnB_rt ?_, ty, hD, hle⟩
    rw [st, seqS_nx s1, seqS_nx s2, seqS_nx s3]
    exact h
  by_cases h0 : way = 0
  · have i := isw 0
    rw [decide_eq_true h0] at i
    obtain ⟨y, e, ty⟩ := join_at (add_w (add_w c1 c2 (by omega)) c3 (by rw [List.length_append]; omega)) t123 (by omega)
    exact go (seqS_rt ((ifS_t i).trans e)) ty d2 (by omega)
  have i0 := isw 0
  rw [decide_eq_false h0] at i0
  by_cases h1 : way = 1
  · have i := isw 1
    rw [decide_eq_true h1] at i
    obtain ⟨y, e, ty⟩ := join_at (add_w c3 c1 (by omega)) (t3.app t1) (by omega)
    exact go ((seqS_nx ((ifS_f i0).trans rfl)).trans (seqS_rt ((ifS_t i).trans e))) (ty.mono (by omega)) d2 (by omega)
  have i1 := isw 1
  rw [decide_eq_false h1] at i1
  by_cases h2 : way = 2
  · have i := isw 2
    rw [decide_eq_true h2] at i
    obtain ⟨y, e, ty⟩ := join_at (add_w c1 c4 (by omega)) (t1.app t4) (by omega)
    exact go ((seqS_nx ((ifS_f i0).trans rfl)).trans ((seqS_nx ((ifS_f i1).trans rfl)).trans (seqS_rt ((ifS_t i).trans e)))) (ty.mono (by omega)) d2 (by omega)
  have i2 := isw 2
  rw [decide_eq_false h2] at i2
  by_cases h3 : way = 3
  · have i := isw 3
    rw [decide_eq_true h3] at i
    obtain ⟨y, e, ty⟩ := join_at (add_w v2 c3 (by omega)) (tw.app t3) (by omega)
    exact go ((seqS_nx ((ifS_f i0).trans rfl)).trans ((seqS_nx ((ifS_f i1).trans rfl)).trans ((seqS_nx ((ifS_f i2).trans rfl)).trans (seqS_rt ((ifS_t i).trans e))))) (ty.mono (by omega)) d2 (by omega)
  have i3 := isw 3
  rw [decide_eq_false h3] at i3
  -- a sign put in, left out or replaced
  have lt : bltE lenD (consA (varE 1) nilA) [some (.ref 1), some (.str x), some (.lst ((words x).map D.str)), some (.int at_), some (.int way), none, none] S2 = .ok (.int x.length) S2 := by
    rw [bltE_one (d := .str x) rfl]
    show (if x.length ≤ sizeLine then RE.ok (D.int x.length) S2 else .bad) = _
    exact if_pos (by omega)
  obtain ⟨pl, S3, e3, a3, b3, d3⟩ := draw_at (δ := [some (.ref 1), some (.str x), some (.lst ((words x).map D.str)), some (.int at_), some (.int way), none, none]) d2 (by omega) rfl (add_int (n := conE (.int 1)) lt rfl) (by omega) (by omega)
  obtain ⟨si, S4, e4, a4, b4, d4⟩ := draw_at (δ := [some (.ref 1), some (.str x), some (.lst ((words x).map D.str)), some (.int at_), some (.int way), some (.int pl), none]) (m := conE (.int 12)) (many := 12) d3 (by omega) rfl rfl (by omega) (by omega)
  have sg : ∃ s : Str, atI [D.str "0", .str "1", .str "5", .str "9", .str "-", .str " ", .str "+", .str "_", .str ",", .str ":", .str "/", .str "x"] si = some (.str s) ∧ Tx 1 s ∧ s.length = 1 := by
    obtain ⟨j, rfl⟩ : ∃ j : Nat, si = (j : Int) := ⟨si.toNat, by omega⟩
    have hj : j < 12 := by omega
    rw [DL.atI_nat (by simpa using hj)]
    match j, hj with
    | 0, _ => exact ⟨"0", rfl, Tx.ofB (by decide +kernel), by decide +kernel⟩
    | 1, _ => exact ⟨"1", rfl, Tx.ofB (by decide +kernel), by decide +kernel⟩
    | 2, _ => exact ⟨"5", rfl, Tx.ofB (by decide +kernel), by decide +kernel⟩
    | 3, _ => exact ⟨"9", rfl, Tx.ofB (by decide +kernel), by decide +kernel⟩
    | 4, _ => exact ⟨"-", rfl, Tx.ofB (by decide +kernel), by decide +kernel⟩
    | 5, _ => exact ⟨" ", rfl, Tx.ofB (by decide +kernel), by decide +kernel⟩
    | 6, _ => exact ⟨"+", rfl, Tx.ofB (by decide +kernel), by decide +kernel⟩
    | 7, _ => exact ⟨"_", rfl, Tx.ofB (by decide +kernel), by decide +kernel⟩
    | 8, _ => exact ⟨",", rfl, Tx.ofB (by decide +kernel), by decide +kernel⟩
    | 9, _ => exact ⟨":", rfl, Tx.ofB (by decide +kernel), by decide +kernel⟩
    | 10, _ => exact ⟨"/", rfl, Tx.ofB (by decide +kernel), by decide +kernel⟩
    | 11, _ => exact ⟨"x", rfl, Tx.ofB (by decide +kernel), by decide +kernel⟩
  obtain ⟨sgn, es, ts, ls⟩ := sg
  have s5 := asgS_ok (g := nameG 5) (δ' := [some (.ref 1), some (.str x), some (.lst ((words x).map D.str)), some (.int at_), some (.int way), some (.int pl), none]) e3 rfl
  have s6 := asgS_ok (g := nameG 6) (δ' := [some (.ref 1), some (.str x), some (.lst ((words x).map D.str)), some (.int at_), some (.int way), some (.int pl), some (.str sgn)]) ((binE_ok (g := ixD) (m := lstE (consA (conE (.str "0")) (consA (conE (.str "1")) (consA (conE (.str "5")) (consA (conE (.str "9")) (consA (conE (.str "-")) (consA (conE (.str " ")) (consA (conE (.str "+")) (consA (conE (.str "_")) (consA (conE (.str ",")) (consA (conE (.str ":")) (consA (conE (.str "/")) (consA (conE (.str "x")) nilA))))))))))))) (δ := [some (.ref 1), some (.str x), some (.lst ((words x).map D.str)), some (.int at_), some (.int way), some (.int pl), none]) (S := S3) (x := .lst [D.str "0", .str "1", .str "5", .str "9", .str "-", .str " ", .str "+", .str "_", .str ",", .str ":", .str "/", .str "x"]) rfl e4).trans (ix_lst es)) rfl
  obtain ⟨r6, S5, e5, a5, b5, d5⟩ := draw_at (δ := [some (.ref 1), some (.str x), some (.lst ((words x).map D.str)), some (.int at_), some (.int way), some (.int pl), some (.str sgn)]) (m := conE (.int 2)) (many := 2) d4 (by omega) rfl rfl (by omega) (by omega)
  obtain ⟨mid, em, tm⟩ := rep_tx ts ls a5 b5 S5
  obtain ⟨r7, S6, e6, a6, b6, d6⟩ := draw_at (δ := [some (.ref 1), some (.str x), some (.lst ((words x).map D.str)), some (.int at_), some (.int way), some (.int pl), some (.str sgn)]) (m := conE (.int 2)) (many := 2) d5 (by omega) rfl rfl (by omega) (by omega)
  have p1 : slE (varE 1) noO (someO (varE 5)) [some (.ref 1), some (.str x), some (.lst ((words x).map D.str)), some (.int at_), some (.int way), some (.int pl), some (.str sgn)] S4 = .ok (.str (cutS x none (some pl))) S4 := sl_s (by omega) rfl rfl rfl
  have p2 : binE mulD (varE 6) (callE 2 [] m__law_draw (consA (varE 0) (consA (conE (.int 2)) nilA))) [some (.ref 1), some (.str x), some (.lst ((words x).map D.str)), some (.int at_), some (.int way), some (.int pl), some (.str sgn)] S4 = .ok (.str mid) S5 := (binE_ok (x := .str sgn) rfl e5).trans em
  have p3 : slE (varE 1) (someO (binE addD (varE 5) (callE 2 [] m__law_draw (consA (varE 0) (consA (conE (.int 2)) nilA))))) noO [some (.ref 1), some (.str x), some (.lst ((words x).map D.str)), some (.int at_), some (.int way), some (.int pl), some (.str sgn)] S5 = .ok (.str (cutS x (some (pl + r7)) none)) S6 := sl_s (by omega) rfl (some_o (add_int (i := pl) rfl e6)) rfl
  have q1 := cutS_tx hx none (some pl)
  have q2 := cutS_tx hx (some (pl + r7)) none
  have u1 := add_str p1 p2 (by have := q1.1; have := tm.1; omega)
  have u2 := add_str u1 p3 (by have := (q1.app tm).1; have := q2.1; omega)
  refine go ((seqS_nx ((ifS_f i0).trans rfl)).trans ((seqS_nx ((ifS_f i1).trans rfl)).trans ((seqS_nx ((ifS_f i2).trans rfl)).trans ((seqS_nx ((ifS_f i3).trans rfl)).trans ((seqS_nx s5).trans ((seqS_nx s6).trans (retS_ok u2))))))) (((q1.app tm).app q2).mono (by omega)) d6 (by omega)
end K56

namespace K56
open PySem PySem.Spec PyProof.Rows L2 DL
/-! ### the things -/
def Shows (d : D) : Prop := ∃ r : Str, ∀ S, reprD [d] S = .ok (.str r) S
def Thing (d : D) : Prop := ((∃ x, d = .str x ∧ Tx 5000 x) ∨ NoText d) ∧ Shows d
theorem shows_of {d : D} {p : PyData} (h : ∀ S, pyS S d = some p) (h1 : p.showable = true) (h2 : p.depth ≤ 16) (h3 : p.shown.length ≤ sizeLine) : Shows d := ⟨p.shown, fun S => by
  show (match pyS S d with | some p => if p.showable = true ∧ p.depth ≤ 16 ∧ p.shown.length ≤ sizeLine then RE.ok (D.str p.shown) S else .bad | none => .bad) = _
  rw [h S]
  exact if_pos ⟨h1, h2, h3⟩⟩
theorem lstE_ok {δ : DL.Loc} {S S1 : Sto} {m : MA} {a : List D} (h : m δ S = .ok a S1) (hz : a.length ≤ 1000) : lstE m δ S = .ok (.lst a) S1 := by
  unfold lstE
  rw [h]
  show (if a.length ≤ sizeLine then RE.ok (D.lst a) S1 else .bad) = _
  exact if_pos (by have := sizeLine_eq; omega)
theorem shows_b {d : D} (p : PyData) (h : ∀ S, pyS S d = some p) (b : (p.showable && (decide (p.depth ≤ 16) && decide (p.shown.length ≤ 1000))) = true) : Shows d := by
  obtain ⟨h1, b⟩ := He.ba b
  obtain ⟨h2, h3⟩ := He.ba b
  refine shows_of h h1 (of_decide_eq_true h2) ?_
  have := of_decide_eq_true h3
  have := sizeLine_eq
  omega
theorem thing_str {x : Str} (h : Tx 5000 x) : Thing (.str x) := by
  refine ⟨.inl ⟨x, rfl, h⟩, shows_of (p := .str x) (fun S => rfl) rfl (by simp [PyData.depth]) ?_⟩
  have := StrLaws.reprText_len x h.2
  have := h.1
  have := sizeLine_eq
  show (reprText x).length ≤ sizeLine
  omega
/-- a thing is told as it is due -/
theorem thing_told {d : D} (h : Thing d) (S : Sto) : ∃ v S', m__law_told [d] S = .ok v S' ∧ m__law_due [d] S' = .ok v S' ∧ m__law_same 4 [v, v] S' = .ok (.bl true) S' := by
  rcases h.1 with ⟨x, rfl, tx⟩ | q
  · have hx : x.length + 4 ≤ sizeLine := by have := tx.1; have := sizeLine_eq; omega
    obtain ⟨o, e⟩ := told_str hx S
    exact ⟨_, _, e, due_str hx _, same_due x _⟩
  · exact ⟨_, _, told_odd q S, due_odd q S, same_bad S⟩
/-! ### odd values -/
theorem odd_things (d : D) (h : d ∈ [D.non, .bl true, .bl false, .int 0, .int (-1), .int (10 ^ 29), .tup [], .lst [], .emp, .tup [.int 0, .int 0], .lst [.str "7 / -"], .tup [.tup [.int 7], .tup []]]) : Thing d := by
  simp only [List.mem_cons, List.not_mem_nil, or_false] at h
  rcases h with rfl | rfl | rfl | rfl | rfl | rfl | rfl | rfl | rfl | rfl | rfl | rfl
  · exact ⟨.inr fun S => rfl, shows_b .none (fun S => rfl) (by decide +kernel)⟩
  · exact ⟨.inr fun S => rfl, shows_b (.bool true) (fun S => rfl) (by decide +kernel)⟩
  · exact ⟨.inr fun S => rfl, shows_b (.bool false) (fun S => rfl) (by decide +kernel)⟩
  · exact ⟨.inr fun S => rfl, shows_b (.int 0) (fun S => rfl) (by decide +kernel)⟩
  · exact ⟨.inr fun S => rfl, shows_b (.int (-1)) (fun S => rfl) (by decide +kernel)⟩
  · exact ⟨.inr fun S => rfl, shows_b (.int (10 ^ 29)) (fun S => rfl) (by decide +kernel)⟩
  · exact ⟨.inr fun S => rfl, shows_b (.tuple []) (fun S => rfl) (by decide +kernel)⟩
  · exact ⟨.inr fun S => rfl, shows_b (.list []) (fun S => rfl) (by decide +kernel)⟩
  · exact ⟨.inr fun S => rfl, shows_b (.dict []) (fun S => rfl) (by decide +kernel)⟩
  · exact ⟨.inr fun S => rfl, shows_b (.tuple [.int 0, .int 0]) (fun S => rfl) (by decide +kernel)⟩
  · exact ⟨.inr fun S => rfl, shows_b (.list [.str "7 / -"]) (fun S => rfl) (by decide +kernel)⟩
  · exact ⟨.inr fun S => rfl, shows_b (.tuple [.tuple [.int 7], .tuple []]) (fun S => rfl) (by decide +kernel)⟩
theorem odd_ok {k : Nat} {rest S : Sto} (hd : Deck k rest S) (hk : k + 20 < 2 ^ 40) : ∃ d S', m__law_odd [.ref 1] S = .ok d S' ∧ Thing d ∧ Deck (k + 1) rest S' := by
  have ten : binE powD (conE (.int 10)) (conE (.int 29)) [some (.ref 1), none] S = .ok (.int (10 ^ 29)) S := (binE_ok (x := .int 10) (y := .int 29) rfl rfl).trans rfl
  have c : ∀ (d : D) (δ : DL.Loc), conE d δ S = .ok d S := fun d δ => rfl
  have l : lstE (consA (conE .non) (consA (conE (.bl true)) (consA (conE (.bl false)) (consA (conE (.int 0)) (consA (unE negD (conE (.int 1))) (consA (binE powD (conE (.int 10)) (conE (.int 29))) (consA (tupE nilA) (consA (lstE nilA) (consA (conE .emp) (consA (tupE (consA (conE (.int 0)) (consA (conE (.int 0)) nilA))) (consA (lstE (consA (conE (.str "7 / -")) nilA)) (consA (tupE (consA (tupE (consA (conE (.int 7)) nilA)) (consA (tupE nilA) nilA))) nilA)))))))))))) [some (.ref 1), none] S = .ok (.lst [D.non, .bl true, .bl false, .int 0, .int (-1), .int (10 ^ 29), .tup [], .lst [], .emp, .tup [.int 0, .int 0], .lst [.str "7 / -"], .tup [.tup [.int 7], .tup []]]) S := by
    exact lstE_ok (consA_ok (c _ _) (consA_ok (c _ _) (consA_ok (c _ _) (consA_ok (c _ _) (consA_ok (show unE negD (conE (.int 1)) _ S = .ok (.int (-1)) S from rfl) (consA_ok ten (consA_ok (show tupE nilA _ S = .ok (.tup []) S from rfl) (consA_ok (show lstE nilA _ S = .ok (.lst []) S from rfl) (consA_ok (c _ _) (consA_ok (show tupE _ _ S = .ok (.tup [.int 0, .int 0]) S from rfl) (consA_ok (show lstE _ _ S = .ok (.lst [.str "7 / -"]) S from rfl) (consA_ok (show tupE _ _ S = .ok (.tup [.tup [.int 7], .tup []]) S from rfl) rfl)))))))))))) (by decide)
  have s1 := asgS_ok (g := nameG 1) (δ' := [some (.ref 1), some (.lst [D.non, .bl true, .bl false, .int 0, .int (-1), .int (10 ^ 29), .tup [], .lst [], .emp, .tup [.int 0, .int 0], .lst [.str "7 / -"], .tup [.tup [.int 7], .tup []]])]) l rfl
  obtain ⟨r, S1, e1, a1, b1, d1⟩ := draw_at (δ := [some (.ref 1), some (.lst [D.non, .bl true, .bl false, .int 0, .int (-1), .int (10 ^ 29), .tup [], .lst [], .emp, .tup [.int 0, .int 0], .lst [.str "7 / -"], .tup [.tup [.int 7], .tup []]])]) (m := conE (.int 12)) (many := 12) hd (by omega) rfl rfl (by omega) (by omega)
  obtain ⟨d, ed, hm⟩ := at_mem (ds := [D.non, .bl true, .bl false, .int 0, .int (-1), .int (10 ^ 29), .tup [], .lst [], .emp, .tup [.int 0, .int 0], .lst [.str "7 / -"], .tup [.tup [.int 7], .tup []]]) (i := r) a1 (by simpa using b1)
  refine ⟨d, S1, ?_, odd_things d hm, d1⟩
  unfold m__law_odd b__law_odd
  refine fnB_rt ?_
  rw [show startD 2 [.ref 1] = [some (.ref 1), none] from rfl, seqS_nx s1]
  exact retS_ok ((binE_ok (g := ixD) (m := varE 1) (x := .lst [D.non, .bl true, .bl false, .int 0, .int (-1), .int (10 ^ 29), .tup [], .lst [], .emp, .tup [.int 0, .int 0], .lst [.str "7 / -"], .tup [.tup [.int 7], .tup []]]) rfl e1).trans (ix_lst ed))
/-! ### lists of things -/
def Things (n : Nat) (l : List D) : Prop := l.length ≤ n ∧ ∀ d ∈ l, Thing d
theorem Things.app {m n : Nat} {a b : List D} (h : Things m a) (k : Things n b) : Things (m + n) (a ++ b) := by
  refine ⟨by rw [List.length_append]; have := h.1; have := k.1; omega, fun d hd => ?_⟩
  rcases List.mem_append.mp hd with q | q
  · exact h.2 d q
  · exact k.2 d q
theorem Things.nil : Things 0 [] := ⟨Nat.le_refl _, fun d hd => by cases hd⟩
theorem Things.cons {n : Nat} {d : D} {a : List D} (h : Thing d) (k : Things n a) : Things (n + 1) (d :: a) := by
  refine ⟨by rw [List.length_cons]; have := k.1; omega, fun e he => ?_⟩
  rcases List.mem_cons.mp he with rfl | q
  · exact h
  · exact k.2 e q
theorem strs_things {l : List Str} (h : (l.all fun x => decide (x.length ≤ 100) && x.cps.toList.all fun c => decide (c < 16 ^ 8)) = true) : Things l.length (l.map D.str) := by
  refine ⟨by simp, fun d hd => ?_⟩
  obtain ⟨x, hx, rfl⟩ := List.mem_map.mp hd
  exact thing_str ((Tx.ofB (List.all_eq_true.mp h x hx)).mono (by decide))
theorem add_things {m n : Nat} {a b : List D} {δ : DL.Loc} {S S1 S2 : Sto} {x y : ME} (h : x δ S = .ok (.lst a) S1) (k : y δ S1 = .ok (.lst b) S2) (ha : Things m a) (hb : Things n b) (hz : m + n ≤ 100000) : binE addD x y δ S = .ok (.lst (a ++ b)) S2 := by
  rw [binE_ok h k]
  show (if a.length + b.length ≤ sizeLine then RE.ok (D.lst (a ++ b)) S2 else .bad) = _
  exact if_pos (by have := ha.1; have := hb.1; have := sizeLine_eq; omega)
theorem lst_ok {δ : DL.Loc} {S S1 : Sto} {m : MA} {a : List D} {n : Nat} (h : m δ S = .ok a S1) (ha : Things n a) (hz : n ≤ 100000) : lstE m δ S = .ok (.lst a) S1 := by
  unfold lstE
  rw [h]
  show (if a.length ≤ sizeLine then RE.ok (D.lst a) S1 else .bad) = _
  exact if_pos (by have := ha.1; have := sizeLine_eq; omega)
end K56

namespace K56
open PySem PySem.Spec PyProof.Rows L2 DL
/-! ### the law -/
theorem str_con {δ : DL.Loc} {S : Sto} (x : Str) : conE (.str x) δ S = .ok (.str x) S := rfl
theorem strs_ok {δ : DL.Loc} {S : Sto} {m : ME} {n : MA} {x : Str} {k j : Nat} {ds : List D} (h : m δ S = .ok (.str x) S ∧ Tx j x) (hj : j ≤ 5000) (q : n δ S = .ok ds S ∧ Things k ds) : consA m n δ S = .ok (.str x :: ds) S ∧ Things (k + 1) (.str x :: ds) :=
  ⟨consA_ok h.1 q.1, .cons (thing_str (h.2.mono hj)) q.2⟩
theorem strs_nil {δ : DL.Loc} {S : Sto} : nilA δ S = .ok [] S ∧ Things 0 [] := ⟨rfl, .nil⟩
theorem str_add {δ : DL.Loc} {S : Sto} {m n : ME} {x y : Str} {i j : Nat} (h : m δ S = .ok (.str x) S ∧ Tx i x) (k : n δ S = .ok (.str y) S ∧ Tx j y) (hz : i + j ≤ 5000) : binE addD m n δ S = .ok (.str (x ++ y)) S ∧ Tx (i + j) (x ++ y) :=
  ⟨add_str h.1 k.1 (by have := h.2.1; have := k.2.1; omega), h.2.app k.2⟩
theorem str_c {δ : DL.Loc} {S : Sto} (x : Str) (h : (decide (x.length ≤ 10) && x.cps.toList.all fun c => decide (c < 16 ^ 8)) = true) : conE (.str x) δ S = .ok (.str x) S ∧ Tx 10 x := ⟨rfl, Tx.ofB h⟩
noncomputable abbrev bW : MS := seqS (asgS (binE addD (varE 2) (lstE (consA (varE 3) (consA (binE addD (varE 3) (conE (.str " / -"))) (consA (binE addD (varE 3) (conE (.str " / 5"))) (consA (binE addD (conE (.str "7 / ")) (varE 3)) (consA (binE addD (binE addD (conE (.str "7 / ")) (varE 3)) (conE (.str " 5"))) (consA (binE addD (varE 3) (conE (.str " - 5"))) nilA)))))))) (nameG 2)) (asgS (binE addD (varE 2) (lstE (consA (binE addD (binE addD (conE (.str "7,")) (varE 3)) (conE (.str " / -"))) (consA (binE addD (conE (.str "7 / 7,")) (varE 3)) (consA (binE addD (binE addD (varE 3) (conE (.str " / "))) (varE 3)) (consA (binE addD (binE addD (conE (.str "7 ")) (varE 3)) (conE (.str " 5"))) nilA)))))) (nameG 2))
theorem bW_ok {S : Sto} {a0 a1 a4 a5 a6 a7 a8 a9 : Option D} {l : List D} {n : Nat} {w : Str} (hl : Things n l) (hn : n ≤ 1000) (hw : Tx 20 w) : ∃ l', bW [a0, a1, some (.lst l), some (.str w), a4, a5, a6, a7, a8, a9] S = .nx [a0, a1, some (.lst l'), some (.str w), a4, a5, a6, a7, a8, a9] S ∧ Things (n + 10) l' := by
  have v : ∀ q, varE 3 [a0, a1, some (.lst q), some (.str w), a4, a5, a6, a7, a8, a9] S = .ok (.str w) S ∧ Tx 20 w := fun q => ⟨rfl, hw⟩
  have c1 := strs_ok (v l) (by omega) (strs_ok (str_add (v l) (str_c " / -" (by decide +kernel)) (by omega)) (by omega) (strs_ok (str_add (v l) (str_c " / 5" (by decide +kernel)) (by omega)) (by omega) (strs_ok (str_add (str_c "7 / " (by decide +kernel)) (v l) (by omega)) (by omega)
    (strs_ok (str_add (str_add (str_c "7 / " (by decide +kernel)) (v l) (by omega)) (str_c " 5" (by decide +kernel)) (by omega)) (by omega) (strs_ok (str_add (v l) (str_c " - 5" (by decide +kernel)) (by omega)) (by omega) strs_nil)))))
  have a1' := add_things (x := varE 2) (δ := [a0, a1, some (.lst l), some (.str w), a4, a5, a6, a7, a8, a9]) rfl (lst_ok c1.1 c1.2 (by omega)) hl c1.2 (by omega)
  have t1 := hl.app c1.2
  generalize hq : l ++ _ = l1 at a1' t1
  have c2 := strs_ok (str_add (str_add (str_c "7," (by decide +kernel)) (v l1) (by omega)) (str_c " / -" (by decide +kernel)) (by omega)) (by omega) (strs_ok (str_add (str_c "7 / 7," (by decide +kernel)) (v l1) (by omega)) (by omega) (strs_ok (str_add (str_add (v l1) (str_c " / " (by decide +kernel)) (by omega)) (v l1) (by omega)) (by omega)
    (strs_ok (str_add (str_add (str_c "7 " (by decide +kernel)) (v l1) (by omega)) (str_c " 5" (by decide +kernel)) (by omega)) (by omega) strs_nil)))
  have a2' := add_things (x := varE 2) (δ := [a0, a1, some (.lst l1), some (.str w), a4, a5, a6, a7, a8, a9]) rfl (lst_ok c2.1 c2.2 (by omega)) t1 c2.2 (by omega)
  refine ⟨_, ?_, t1.app c2.2⟩
  unfold bW
  rw [seqS_nx (asgS_ok (g := nameG 2) (δ' := [a0, a1, some (.lst l1), some (.str w), a4, a5, a6, a7, a8, a9]) a1' rfl)]
  exact asgS_ok a2' rfl
theorem words_go {I : ItD} (hI : ∀ S, I.ok S) {S : Sto} {a0 a1 a4 a5 a6 a7 a8 a9 : Option D} : ∀ (ws : List Str) (l : List D) (n : Nat) (a3 : Option D), Things n l → n + 10 * ws.length ≤ 1000 → (∀ w ∈ ws, Tx 20 w) →
    ∃ l' b3, forGo I (nameG 3) bW (ws.map D.str) [a0, a1, some (.lst l), a3, a4, a5, a6, a7, a8, a9] S = .nx [a0, a1, some (.lst l'), b3, a4, a5, a6, a7, a8, a9] S ∧ Things (n + 10 * ws.length) l'
  | [], l, n, a3, hl, hn, hw => ⟨l, a3, forGo_nil (hI S), hl⟩
  | w :: ws, l, n, a3, hl, hn, hw => by
    have hn' : n + 10 * (ws.length + 1) ≤ 1000 := hn
    obtain ⟨l1, e1, t1⟩ := bW_ok (S := S) (a0 := a0) (a1 := a1) (a4 := a4) (a5 := a5) (a6 := a6) (a7 := a7) (a8 := a8) (a9 := a9) hl (by omega) (hw w (List.mem_cons_self ..))
    obtain ⟨l', b3, e2, t2⟩ := words_go hI ws l1 (n + 10) (some (.str w)) t1 (by omega) fun q hq => hw q (List.mem_cons_of_mem _ hq)
    refine ⟨l', b3, ?_, by rw [show n + 10 * (w :: ws).length = n + 10 + 10 * ws.length by simp; omega]; exact t2⟩
    rw [List.map_cons, forGo_cons (hI S) (show nameG 3 (.str w) S [a0, a1, some (.lst l), a3, a4, a5, a6, a7, a8, a9] = some [a0, a1, some (.lst l), some (.str w), a4, a5, a6, a7, a8, a9] from rfl), e1]
    exact e2
/-! many threes -/
theorem threes (n : Nat) : (List.replicate n [D.str "3"]).flatten = ((List.replicate n ("3" : Str)).map D.str) ∧ Txs (2 * n) (List.replicate n ("3" : Str)) := by
  induction n with
  | zero => exact ⟨rfl, Nat.zero_le _, fun w hw => by cases hw⟩
  | succ n ih =>
    have t : Tx 1 "3" := Tx.ofB (by decide +kernel)
    refine ⟨by rw [List.replicate_succ, List.replicate_succ, List.flatten_cons, ih.1]; rfl, ?_, fun w hw => ?_⟩
    · rw [List.replicate_succ, wt_cons]
      have := ih.2.1
      have := t.1
      omega
    · rw [(List.mem_replicate.mp hw).2]
      exact t.2
noncomputable abbrev bM : MS := seqS (asgS (methE "str" joinD (conE (.str ",")) (consA (binE mulD (lstE (consA (conE (.str "3")) nilA)) (varE 4)) nilA)) (nameG 5)) (asgS (binE addD (varE 2) (lstE (consA (varE 5) (consA (binE addD (varE 5) (conE (.str " / -"))) (consA (binE addD (conE (.str "7 / ")) (varE 5)) (consA (binE addD (binE addD (varE 5) (conE (.str " / "))) (varE 5)) nilA)))))) (nameG 2))
theorem bM_ok {S : Sto} {a0 a1 a3 a5 a6 a7 a8 a9 : Option D} {l : List D} {n : Nat} {m : Int} (hl : Things n l) (hn : n ≤ 1000) (hm : 0 ≤ m ∧ m ≤ 30) : ∃ l' b5, bM [a0, a1, some (.lst l), a3, some (.int m), a5, a6, a7, a8, a9] S = .nx [a0, a1, some (.lst l'), a3, some (.int m), b5, a6, a7, a8, a9] S ∧ Things (n + 4) l' := by
  obtain ⟨th, tx⟩ := threes m.toNat
  have mu : binE mulD (lstE (consA (conE (.str "3")) nilA)) (varE 4) [a0, a1, some (.lst l), a3, some (.int m), a5, a6, a7, a8, a9] S = .ok (.lst ((List.replicate m.toNat ("3" : Str)).map D.str)) S := by
    rw [binE_ok (x := .lst [.str "3"]) (y := .int m) rfl rfl]
    show (if -(2 ^ 63) ≤ m ∧ m < 2 ^ 63 ∧ [D.str "3"].length * m.toNat ≤ sizeLine then RE.ok (D.lst (List.replicate m.toNat [D.str "3"]).flatten) S else .bad) = _
    rw [if_pos ⟨by omega, by omega, by have := sizeLine_eq; simp; omega⟩, th]
  obtain ⟨y, e, ty⟩ := join_ok (sep := ",") (Tx.ofB (by decide +kernel)) tx (by omega) S
  have s1 : asgS (methE "str" joinD (conE (.str ",")) (consA (binE mulD (lstE (consA (conE (.str "3")) nilA)) (varE 4)) nilA)) (nameG 5) [a0, a1, some (.lst l), a3, some (.int m), a5, a6, a7, a8, a9] S = .nx [a0, a1, some (.lst l), a3, some (.int m), some (.str y), a6, a7, a8, a9] S := by
    refine asgS_ok (d := .str y) ?_ rfl
    unfold methE
    show (if isTy S "str" (.str ",") = true then ((consA (binE mulD (lstE (consA (conE (.str "3")) nilA)) (varE 4)) nilA) [a0, a1, some (.lst l), a3, some (.int m), a5, a6, a7, a8, a9] S).bind fun ds S2 => joinD (.str ",") ds S2 else .bad) = _
    rw [if_pos (show isTy S "str" (.str ",") = true from rfl), consA_ok mu rfl]
    exact e
  have v : varE 5 [a0, a1, some (.lst l), a3, some (.int m), some (.str y), a6, a7, a8, a9] S = .ok (.str y) S ∧ Tx 60 y := ⟨rfl, ty.mono (by omega)⟩
  have c1 := strs_ok v (by omega) (strs_ok (str_add v (str_c " / -" (by decide +kernel)) (by omega)) (by omega) (strs_ok (str_add (str_c "7 / " (by decide +kernel)) v (by omega)) (by omega) (strs_ok (str_add (str_add v (str_c " / " (by decide +kernel)) (by omega)) v (by omega)) (by omega) strs_nil)))
  have a1' := add_things (x := varE 2) (δ := [a0, a1, some (.lst l), a3, some (.int m), some (.str y), a6, a7, a8, a9]) rfl (lst_ok c1.1 c1.2 (by omega)) hl c1.2 (by omega)
  refine ⟨_, some (.str y), ?_, hl.app c1.2⟩
  unfold bM
  rw [seqS_nx s1]
  exact asgS_ok a1' rfl
theorem many_go {I : ItD} (hI : ∀ S, I.ok S) {S : Sto} {a0 a1 a3 a6 a7 a8 a9 : Option D} : ∀ (ms : List Int) (l : List D) (n : Nat) (a4 a5 : Option D), Things n l → n + 4 * ms.length ≤ 1000 → (∀ m ∈ ms, 0 ≤ m ∧ m ≤ 30) →
    ∃ l' b4 b5, forGo I (nameG 4) bM (ms.map D.int) [a0, a1, some (.lst l), a3, a4, a5, a6, a7, a8, a9] S = .nx [a0, a1, some (.lst l'), a3, b4, b5, a6, a7, a8, a9] S ∧ Things (n + 4 * ms.length) l'
  | [], l, n, a4, a5, hl, hn, hw => ⟨l, a4, a5, forGo_nil (hI S), hl⟩
  | w :: ws, l, n, a4, a5, hl, hn, hw => by
    have hn' : n + 4 * (ws.length + 1) ≤ 1000 := hn
    obtain ⟨l1, c5, e1, t1⟩ := bM_ok (S := S) (a0 := a0) (a1 := a1) (a3 := a3) (a5 := a5) (a6 := a6) (a7 := a7) (a8 := a8) (a9 := a9) hl (by omega) (hw w (List.mem_cons_self ..))
    obtain ⟨l', b4, b5, e2, t2⟩ := many_go hI ws l1 (n + 4) (some (.int w)) c5 t1 (by omega) fun q hq => hw q (List.mem_cons_of_mem _ hq)
    refine ⟨l', b4, b5, ?_, by rw [show n + 4 * (w :: ws).length = n + 4 + 4 * ws.length by simp; omega]; exact t2⟩
    rw [List.map_cons, forGo_cons (hI S) (show nameG 4 (.int w) S [a0, a1, some (.lst l), a3, a4, a5, a6, a7, a8, a9] = some [a0, a1, some (.lst l), a3, some (.int w), a5, a6, a7, a8, a9] from rfl), e1]
    exact e2
/-! the last loop -/
noncomputable abbrev bL : MS := seqS (asgS (bltE reprD (consA (varE 8) nilA)) (nameG 9)) (ifS (orT (notT (truE (callE 2 [] (m__law_same 4) (consA (callE 1 [] m__law_told (consA (varE 8) nilA)) (consA (callE 1 [] m__law_due (consA (varE 8) nilA)) nilA))))) (testE (binE neD (bltE reprD (consA (varE 8) nilA)) (varE 9)))) (retS (conE (.bl false))) passS)
theorem bL_ok {S : Sto} {a0 a1 a2 a3 a4 a5 a6 a7 a9 : Option D} {d : D} (h : Thing d) : ∃ b9 S', bL [a0, a1, a2, a3, a4, a5, a6, a7, some d, a9] S = .nx [a0, a1, a2, a3, a4, a5, a6, a7, some d, b9] S' := by
  obtain ⟨r, hr⟩ := h.2
  obtain ⟨v, S1, e1, e2, e3⟩ := thing_told h S
  refine ⟨some (.str r), S1, ?_⟩
  unfold bL
  rw [seqS_nx (asgS_ok (g := nameG 9) (δ' := [a0, a1, a2, a3, a4, a5, a6, a7, some d, some (.str r)]) ((bltE_one (m := varE 8) (d := d) rfl).trans (hr S)) rfl)]
  have t1 : notT (truE (callE 2 [] (m__law_same 4) (consA (callE 1 [] m__law_told (consA (varE 8) nilA)) (consA (callE 1 [] m__law_due (consA (varE 8) nilA)) nilA)))) [a0, a1, a2, a3, a4, a5, a6, a7, some d, some (.str r)] S = .ok false S1 :=
    notT_ok (b := true) (truE_ok (d := .bl true) ((callE_2 ((callE_1 (m := varE 8) (d := d) rfl).trans e1) ((callE_1 (m := varE 8) (d := d) rfl).trans e2)).trans e3) rfl)
  have t2 : testE (binE neD (bltE reprD (consA (varE 8) nilA)) (varE 9)) [a0, a1, a2, a3, a4, a5, a6, a7, some d, some (.str r)] S1 = .ok false S1 := by
    refine testE_bl ?_
    rw [binE_ok (y := .str r) ((bltE_one (m := varE 8) (d := d) rfl).trans (hr S1)) rfl, ne_str]
    simp
  exact (ifS_f ((orT_f t1).trans t2)).trans rfl
theorem last_go {I : ItD} (hI : ∀ S, I.ok S) {a0 a1 a2 a3 a4 a5 a6 a7 : Option D} : ∀ (l : List D) (a8 a9 : Option D) (S : Sto), (∀ d ∈ l, Thing d) → ∃ b8 b9 S', forGo I (nameG 8) bL l [a0, a1, a2, a3, a4, a5, a6, a7, a8, a9] S = .nx [a0, a1, a2, a3, a4, a5, a6, a7, b8, b9] S'
  | [], a8, a9, S, h => ⟨a8, a9, S, forGo_nil (hI S)⟩
  | d :: l, a8, a9, S, h => by
    obtain ⟨c9, S1, e1⟩ := bL_ok (S := S) (a0 := a0) (a1 := a1) (a2 := a2) (a3 := a3) (a4 := a4) (a5 := a5) (a6 := a6) (a7 := a7) (a9 := a9) (h d (List.mem_cons_self ..))
    obtain ⟨b8, b9, S', e2⟩ := last_go hI l (some d) c9 S1 fun q hq => h q (List.mem_cons_of_mem _ hq)
    refine ⟨b8, b9, S', ?_⟩
    rw [forGo_cons (hI S) (show nameG 8 d S [a0, a1, a2, a3, a4, a5, a6, a7, a8, a9] = some [a0, a1, a2, a3, a4, a5, a6, a7, some d, a9] from rfl), e1]
    exact e2
end K56

namespace K56
open PySem PySem.Spec PyProof.Rows L2 DL
theorem callE_3 {f : List D → Sto → RE D} {m m2 m3 : ME} {δ : DL.Loc} {S S1 S2 S3 : Sto} {d e g : D} (h : m δ S = .ok d S1) (h2 : m2 δ S1 = .ok e S2) (h3 : m3 δ S2 = .ok g S3) : callE 3 [] f (consA m (consA m2 (consA m3 nilA))) δ S = f [d, e, g] S3 := by
  unfold callE
  rw [consA_ok h (consA_ok h2 (consA_ok h3 rfl))]
  rfl
theorem text_list {x : Str} (h : Tx 400 x) : Thing (.lst [.str x]) := by
  refine ⟨.inr fun S => rfl, shows_of (p := .list [.str x]) (fun S => rfl) rfl (by simp [PyData.depth, PyData.depthAll]) ?_⟩
  have := StrLaws.reprText_len x h.2
  have := h.1
  have := sizeLine_eq
  show (listText [reprText x]).length ≤ sizeLine
  unfold listText
  rw [Str.length_append]
  show (("[" : Str) ++ (Str.ofString "") ++ reprText x).length + ("]" : Str).length ≤ sizeLine
  rw [Str.length_append, Str.length_append]
  have e1 : ("[" : Str).length = 1 := by decide +kernel
  have e2 : ("]" : Str).length = 1 := by decide +kernel
  have e3 : (Str.ofString "").length = 0 := by decide +kernel
  omega
noncomputable abbrev bT : MS := asgS (binE addD (varE 2) (lstE (consA (callE 2 [] m__law_bent (consA (varE 1) (consA (varE 5) nilA))) (consA (callE 2 [] m__law_bent (consA (varE 1) (consA (callE 2 [] m__law_bent (consA (varE 1) (consA (varE 5) nilA))) nilA))) nilA)))) (nameG 2)
theorem bT_ok {k : Nat} {rest S : Sto} {a0 a3 a4 a6 a7 a8 a9 : Option D} {l : List D} {n : Nat} {x : Str} (hd : Deck k rest S) (hk : k + 100 < 2 ^ 40) (hl : Things n l) (hn : n ≤ 1000) (hx : Tx 400 x) :
    ∃ l' k' S', bT [a0, some (.ref 1), some (.lst l), a3, a4, some (.str x), a6, a7, a8, a9] S = .nx [a0, some (.ref 1), some (.lst l'), a3, a4, some (.str x), a6, a7, a8, a9] S' ∧ Things (n + 2) l' ∧ Deck k' rest S' ∧ k' ≤ k + 30 := by
  obtain ⟨y1, k1, S1, e1, t1, d1, q1⟩ := bent_ok hd (by omega) hx (by omega)
  obtain ⟨y2, k2, S2, e2, t2, d2, q2⟩ := bent_ok d1 (by omega) hx (by omega)
  obtain ⟨y3, k3, S3, e3, t3, d3, q3⟩ := bent_ok d2 (by omega) t2 (by omega)
  have b1 : callE 2 [] m__law_bent (consA (varE 1) (consA (varE 5) nilA)) [a0, some (.ref 1), some (.lst l), a3, a4, some (.str x), a6, a7, a8, a9] S = .ok (.str y1) S1 := (callE_2 (d := .ref 1) (e := .str x) rfl rfl).trans e1
  have b2 : callE 2 [] m__law_bent (consA (varE 1) (consA (varE 5) nilA)) [a0, some (.ref 1), some (.lst l), a3, a4, some (.str x), a6, a7, a8, a9] S1 = .ok (.str y2) S2 := (callE_2 (d := .ref 1) (e := .str x) rfl rfl).trans e2
  have b3 : callE 2 [] m__law_bent (consA (varE 1) (consA (callE 2 [] m__law_bent (consA (varE 1) (consA (varE 5) nilA))) nilA)) [a0, some (.ref 1), some (.lst l), a3, a4, some (.str x), a6, a7, a8, a9] S1 = .ok (.str y3) S3 := (callE_2 (d := .ref 1) rfl b2).trans e3
  have th : Things 2 [D.str y1, .str y3] := .cons (thing_str (t1.mono (by omega))) (.cons (thing_str (t3.mono (by omega))) .nil)
  have c := consA_ok b1 (consA_ok b3 (show nilA _ S3 = .ok [] S3 from rfl))
  exact ⟨_, _, S3, asgS_ok (add_things (x := varE 2) (δ := [a0, some (.ref 1), some (.lst l), a3, a4, some (.str x), a6, a7, a8, a9]) rfl (lst_ok c th (by omega)) hl th (by omega)) rfl, hl.app th, d3, by omega⟩
theorem turns_go {I : ItD} (hI : ∀ S, I.ok S) {rest : Sto} {a0 a3 a4 a6 a8 a9 : Option D} {x : Str} (hx : Tx 400 x) : ∀ (ts : List D) (k n : Nat) (l : List D) (a7 : Option D) (S : Sto), Deck k rest S → k + 100 * (ts.length + 1) < 2 ^ 40 → Things n l → n + 2 * ts.length ≤ 1000 →
    ∃ l' b7 k' S', forGo I (nameG 7) bT ts [a0, some (.ref 1), some (.lst l), a3, a4, some (.str x), a6, a7, a8, a9] S = .nx [a0, some (.ref 1), some (.lst l'), a3, a4, some (.str x), a6, b7, a8, a9] S' ∧ Things (n + 2 * ts.length) l' ∧ Deck k' rest S' ∧ k' ≤ k + 30 * ts.length
  | [], k, n, l, a7, S, hd, hk, hl, hn => ⟨l, a7, k, S, forGo_nil (hI S), hl, hd, by simp⟩
  | t :: ts, k, n, l, a7, S, hd, hk, hl, hn => by
    have hn' : n + 2 * (ts.length + 1) ≤ 1000 := hn
    have hk' : k + 100 * (ts.length + 1 + 1) < 2 ^ 40 := hk
    obtain ⟨l1, k1, S1, e1, t1, d1, q1⟩ := bT_ok (a0 := a0) (a3 := a3) (a4 := a4) (a6 := a6) (a7 := some t) (a8 := a8) (a9 := a9) hd (by omega) hl (by omega) hx
    obtain ⟨l2, b7, k2, S2, e2, t2, d2, q2⟩ := turns_go hI hx ts k1 (n + 2) l1 (some t) S1 d1 (by omega) t1 (by omega)
    refine ⟨l2, b7, k2, S2, ?_, by rw [show n + 2 * (t :: ts).length = n + 2 + 2 * ts.length by simp; omega]; exact t2, d2, by rw [List.length_cons]; omega⟩
    rw [forGo_cons (hI S) (show nameG 7 t S [a0, some (.ref 1), some (.lst l), a3, a4, some (.str x), a6, a7, a8, a9] = some [a0, some (.ref 1), some (.lst l), a3, a4, some (.str x), a6, some t, a8, a9] from rfl), e1]
    exact e2
noncomputable abbrev bK : MS := seqS (asgS (callE 1 [] m__law_hall_text (consA (callE 3 [] m__law_state (consA (varE 1) (consA (conE (.int 20)) (consA (conE (.int 20)) nilA)))) nilA)) (nameG 5)) (seqS (forS (rg1I (consA (conE (.int 8)) nilA)) (nameG 7) bT) (asgS (binE addD (varE 2) (lstE (consA (varE 5) (consA (lstE (consA (varE 5) nilA)) (consA (callE 1 [] m__law_odd (consA (varE 1) nilA)) nilA))))) (nameG 2)))
theorem bK_ok {k : Nat} {rest S : Sto} {a0 a3 a4 a5 a6 a7 a8 a9 : Option D} {l : List D} {n : Nat} (hd : Deck k rest S) (hk : k + 3000 < 2 ^ 40) (hl : Things n l) (hn : n ≤ 800) :
    ∃ l' b5 b7 k' rest' S', bK [a0, some (.ref 1), some (.lst l), a3, a4, a5, a6, a7, a8, a9] S = .nx [a0, some (.ref 1), some (.lst l'), a3, a4, b5, a6, b7, a8, a9] S' ∧ Things (n + 19) l' ∧ Deck k' rest' S' ∧ k' ≤ k + 500 := by
  obtain ⟨f, p, k1, rest1, S1, e1, f1, f2, p1, p2, d1, q1⟩ := state_ok hd (by omega)
  obtain ⟨x, e2, tx⟩ := hall_text_ok f1 f2 p1 p2 S1
  have s1 : asgS (callE 1 [] m__law_hall_text (consA (callE 3 [] m__law_state (consA (varE 1) (consA (conE (.int 20)) (consA (conE (.int 20)) nilA)))) nilA)) (nameG 5) [a0, some (.ref 1), some (.lst l), a3, a4, a5, a6, a7, a8, a9] S = .nx [a0, some (.ref 1), some (.lst l), a3, a4, some (.str x), a6, a7, a8, a9] S1 :=
    asgS_ok ((callE_1 ((callE_3 (d := .ref 1) (e := .int 20) (g := .int 20) rfl rfl rfl).trans e1)).trans e2) rfl
  have it := range1 (m := conE (.int 8)) (δ := [a0, some (.ref 1), some (.lst l), a3, a4, some (.str x), a6, a7, a8, a9]) (S := S1) (j := 8) rfl (by decide) (by decide)
  have ul := upTo_len 0 (8 : Int).toNat
  have u8 : (8 : Int).toNat = 8 := rfl
  obtain ⟨l2, b7, k2, S2, e3, t2, d2, q2⟩ := turns_go (I := ⟨DL.upTo 0 (8 : Int).toNat, fun _ => True⟩) (fun _ => trivial) (a0 := a0) (a3 := a3) (a4 := a4) (a6 := a6) (a8 := a8) (a9 := a9) tx (DL.upTo 0 (8 : Int).toNat) k1 n l a7 S1 d1 (by rw [ul, u8]; omega) hl (by rw [ul, u8]; omega)
  rw [ul, u8] at t2 q2
  obtain ⟨d, S3, e4, td, d3⟩ := odd_ok d2 (by omega)
  have o1 : callE 1 [] m__law_odd (consA (varE 1) nilA) [a0, some (.ref 1), some (.lst l2), a3, a4, some (.str x), a6, b7, a8, a9] S2 = .ok d S3 := (callE_1 (d := .ref 1) rfl).trans e4
  have th : Things 3 [D.str x, .lst [.str x], d] := .cons (thing_str (tx.mono (by omega))) (.cons (text_list tx) (.cons td .nil))
  have c := consA_ok (show varE 5 [a0, some (.ref 1), some (.lst l2), a3, a4, some (.str x), a6, b7, a8, a9] S2 = .ok (.str x) S2 from rfl) (consA_ok (show lstE (consA (varE 5) nilA) [a0, some (.ref 1), some (.lst l2), a3, a4, some (.str x), a6, b7, a8, a9] S2 = .ok (.lst [.str x]) S2 from rfl) (consA_ok o1 (show nilA _ S3 = .ok [] S3 from rfl)))
  refine ⟨_, some (.str x), b7, _, rest1, S3, ?_, t2.app th, d3, by omega⟩
  unfold bK
  rw [seqS_nx s1, seqS_nx ((forS_ok it).trans e3)]
  exact asgS_ok (add_things (x := varE 2) (δ := [a0, some (.ref 1), some (.lst l2), a3, a4, some (.str x), a6, b7, a8, a9]) rfl (lst_ok c th (by omega)) t2 th (by omega)) rfl
theorem halls_go {I : ItD} (hI : ∀ S, I.ok S) {a0 a3 a4 a8 a9 : Option D} : ∀ (ts : List D) (k n : Nat) (l : List D) (a5 a6 a7 : Option D) (rest S : Sto), Deck k rest S → k + 3000 * (ts.length + 1) < 2 ^ 40 → Things n l → n + 19 * ts.length ≤ 800 →
    ∃ l' b5 b6 b7 S', forGo I (nameG 6) bK ts [a0, some (.ref 1), some (.lst l), a3, a4, a5, a6, a7, a8, a9] S = .nx [a0, some (.ref 1), some (.lst l'), a3, a4, b5, b6, b7, a8, a9] S' ∧ Things (n + 19 * ts.length) l'
  | [], k, n, l, a5, a6, a7, rest, S, hd, hk, hl, hn => ⟨l, a5, a6, a7, S, forGo_nil (hI S), hl⟩
  | t :: ts, k, n, l, a5, a6, a7, rest, S, hd, hk, hl, hn => by
    have hn' : n + 19 * (ts.length + 1) ≤ 800 := hn
    have hk' : k + 3000 * (ts.length + 1 + 1) < 2 ^ 40 := hk
    obtain ⟨l1, c5, c7, k1, rest1, S1, e1, t1, d1, q1⟩ := bK_ok (a0 := a0) (a3 := a3) (a4 := a4) (a5 := a5) (a6 := some t) (a7 := a7) (a8 := a8) (a9 := a9) hd (by omega) hl (by omega)
    obtain ⟨l2, b5, b6, b7, S2, e2, t2⟩ := halls_go hI ts k1 (n + 19) l1 c5 (some t) c7 rest1 S1 d1 (by omega) t1 (by omega)
    refine ⟨l2, b5, b6, b7, S2, ?_, by rw [show n + 19 * (t :: ts).length = n + 19 + 19 * ts.length by simp; omega]; exact t2⟩
    rw [forGo_cons (hI S) (show nameG 6 t S [a0, some (.ref 1), some (.lst l), a3, a4, a5, a6, a7, a8, a9] = some [a0, some (.ref 1), some (.lst l), a3, a4, a5, some t, a7, a8, a9] from rfl), e1]
    exact e2
theorem plain (ns : List Int) (hl : ns.length ≤ 63) : ∃ S, m_law [.scr ns] [] = .ok (.bl true) S := by
  obtain ⟨S0, e0, d0⟩ := deck_ok ns hl
  have st : startD 10 [.scr ns] = [some (.scr ns), none, none, none, none, none, none, none, none, none] := rfl
  have s0 : asgS (callE 1 [] m__law_deck (consA (varE 0) nilA)) (nameG 1) [some (.scr ns), none, none, none, none, none, none, none, none, none] [] = .nx [some (.scr ns), some (.ref 1), none, none, none, none, none, none, none, none] S0 := asgS_ok ((callE_1 (d := .scr ns) rfl).trans e0) rfl
  -- the first texts
  have t1 := strs_things (l := ["", " ", "/", "-", "7", "7 /", "7 / -", "7 / - ", "7 / - x", " 7 / -", "7  / -", "7 /  -", "7 / / -"]) (by decide +kernel)
  have t2 := strs_things (l := ["7 -", "- / 7", "- / -", "7 / 7,-", "7/-", "7 : -", "7 // -", "7 / --", "7 / -,", "/ 7 -"]) (by decide +kernel)
  have l1 : lstE (consA (conE (.str "")) (consA (conE (.str " ")) (consA (conE (.str "/")) (consA (conE (.str "-")) (consA (conE (.str "7")) (consA (conE (.str "7 /")) (consA (conE (.str "7 / -")) (consA (conE (.str "7 / - ")) (consA (conE (.str "7 / - x")) (consA (conE (.str " 7 / -")) (consA (conE (.str "7  / -")) (consA (conE (.str "7 /  -")) (consA (conE (.str "7 / / -")) nilA))))))))))))) [some (.scr ns), some (.ref 1), none, none, none, none, none, none, none, none] S0 = .ok (.lst ((["", " ", "/", "-", "7", "7 /", "7 / -", "7 / - ", "7 / - x", " 7 / -", "7  / -", "7 /  -", "7 / / -"] : List Str).map D.str)) S0 := lst_ok rfl t1 (by decide)
  have s1 := asgS_ok (g := nameG 2) (δ' := [some (.scr ns), some (.ref 1), some (.lst ((["", " ", "/", "-", "7", "7 /", "7 / -", "7 / - ", "7 / - x", " 7 / -", "7  / -", "7 /  -", "7 / / -"] : List Str).map D.str)), none, none, none, none, none, none, none]) l1 rfl
  have t1' : Things 13 ((["", " ", "/", "-", "7", "7 /", "7 / -", "7 / - ", "7 / - x", " 7 / -", "7  / -", "7 /  -", "7 / / -"] : List Str).map D.str) := t1
  have t2' : Things 10 ((["7 -", "- / 7", "- / -", "7 / 7,-", "7/-", "7 : -", "7 // -", "7 / --", "7 / -,", "/ 7 -"] : List Str).map D.str) := t2
  generalize ((["", " ", "/", "-", "7", "7 /", "7 / -", "7 / - ", "7 / - x", " 7 / -", "7  / -", "7 /  -", "7 / / -"] : List Str).map D.str) = L1 at s1 t1'
  have l2 : binE addD (varE 2) (lstE (consA (conE (.str "7 -")) (consA (conE (.str "- / 7")) (consA (conE (.str "- / -")) (consA (conE (.str "7 / 7,-")) (consA (conE (.str "7/-")) (consA (conE (.str "7 : -")) (consA (conE (.str "7 // -")) (consA (conE (.str "7 / --")) (consA (conE (.str "7 / -,")) (consA (conE (.str "/ 7 -")) nilA))))))))))) [some (.scr ns), some (.ref 1), some (.lst L1), none, none, none, none, none, none, none] S0 = .ok (.lst (L1 ++ (["7 -", "- / 7", "- / -", "7 / 7,-", "7/-", "7 : -", "7 // -", "7 / --", "7 / -,", "/ 7 -"] : List Str).map D.str)) S0 :=
    add_things (x := varE 2) rfl (lst_ok rfl t2' (by decide)) t1' t2' (by decide)
  have t12 := t1'.app t2'
  have s2 := asgS_ok (g := nameG 2) (δ' := [some (.scr ns), some (.ref 1), some (.lst (L1 ++ (["7 -", "- / 7", "- / -", "7 / 7,-", "7/-", "7 : -", "7 // -", "7 / --", "7 / -,", "/ 7 -"] : List Str).map D.str)), none, none, none, none, none, none, none]) l2 rfl
  generalize L1 ++ (["7 -", "- / 7", "- / -", "7 / 7,-", "7/-", "7 : -", "7 // -", "7 / --", "7 / -,", "/ 7 -"] : List Str).map D.str = L2 at s2 t12
  -- words
  obtain ⟨L3, c3, e3, t3⟩ := words_go (I := ⟨(["1", "0", "1000000", "1000001", "10000000", "01", "00", "+1", "-1", "1_0", "1,", ",1", ",", "1,,1"] : List Str).map D.str, fun _ => True⟩) (fun _ => trivial) (S := S0) (a0 := some (.scr ns)) (a1 := some (.ref 1)) (a4 := none) (a5 := none) (a6 := none) (a7 := none) (a8 := none) (a9 := none) ["1", "0", "1000000", "1000001", "10000000", "01", "00", "+1", "-1", "1_0", "1,", ",1", ",", "1,,1"] L2 (13 + 10) none t12 (by decide)
    (fun w hw => Tx.ofB (List.all_eq_true.mp (show ((["1", "0", "1000000", "1000001", "10000000", "01", "00", "+1", "-1", "1_0", "1,", ",1", ",", "1,,1"] : List Str).all fun x => decide (x.length ≤ 20) && x.cps.toList.all fun c => decide (c < 16 ^ 8)) = true by decide +kernel) w hw))
  have i3 : lsI (lstE (consA (conE (.str "1")) (consA (conE (.str "0")) (consA (conE (.str "1000000")) (consA (conE (.str "1000001")) (consA (conE (.str "10000000")) (consA (conE (.str "01")) (consA (conE (.str "00")) (consA (conE (.str "+1")) (consA (conE (.str "-1")) (consA (conE (.str "1_0")) (consA (conE (.str "1,")) (consA (conE (.str ",1")) (consA (conE (.str ",")) (consA (conE (.str "1,,1")) nilA))))))))))))))) [some (.scr ns), some (.ref 1), some (.lst L2), none, none, none, none, none, none, none] S0 = .ok ⟨(["1", "0", "1000000", "1000001", "10000000", "01", "00", "+1", "-1", "1_0", "1,", ",1", ",", "1,,1"] : List Str).map D.str, fun _ => True⟩ S0 := rfl
  have s3 := (forS_ok (g := nameG 3) (b := bW) i3).trans e3
  -- many threes
  obtain ⟨L4, c4, c5, e4, t4⟩ := many_go (I := ⟨([19, 20, 21, 22] : List Int).map D.int, fun _ => True⟩) (fun _ => trivial) (S := S0) (a0 := some (.scr ns)) (a1 := some (.ref 1)) (a3 := c3) (a6 := none) (a7 := none) (a8 := none) (a9 := none) [19, 20, 21, 22] L3 _ none none t3 (by decide) (by decide)
  have i4 : lsI (lstE (consA (conE (.int 19)) (consA (conE (.int 20)) (consA (conE (.int 21)) (consA (conE (.int 22)) nilA))))) [some (.scr ns), some (.ref 1), some (.lst L3), c3, none, none, none, none, none, none] S0 = .ok ⟨([19, 20, 21, 22] : List Int).map D.int, fun _ => True⟩ S0 := rfl
  have s4 := (forS_ok (g := nameG 4) (b := bM) i4).trans e4
  -- drawn halls
  have it := range1 (m := conE (.int 4)) (δ := [some (.scr ns), some (.ref 1), some (.lst L4), c3, c4, c5, none, none, none, none]) (S := S0) (j := 4) rfl (by decide) (by decide)
  have ul : (DL.upTo 0 (4 : Int).toNat).length = 4 := upTo_len 0 _
  obtain ⟨L5, d5, d6, d7, S1, e5, t5⟩ := halls_go (I := ⟨DL.upTo 0 (4 : Int).toNat, fun _ => True⟩) (fun _ => trivial) (a0 := some (.scr ns)) (a3 := c3) (a4 := c4) (a8 := none) (a9 := none) (DL.upTo 0 (4 : Int).toNat) 0 _ L4 c5 none none [] S0 d0 (by rw [ul]; decide) t4 (by rw [ul]; decide)
  have s5 := (forS_ok (g := nameG 6) (b := bK) it).trans e5
  -- the last things, each asked
  have tl : Things 7 [D.non, .int 3, .bl true, .tup [.tup [.int 7], .tup []], .str "7 / -\n", .str "7\n/ -", .str "7 /\n-"] := by
    refine .cons (odd_things _ (by simp)) (.cons ⟨.inr fun S => rfl, shows_b (.int 3) (fun S => rfl) (by decide +kernel)⟩ (.cons (odd_things _ (by simp)) (.cons (odd_things _ (by simp)) (.cons (thing_str (Tx.ofB (by decide +kernel))) (.cons (thing_str (Tx.ofB (by decide +kernel))) (.cons (thing_str (Tx.ofB (by decide +kernel))) .nil))))))
  rw [ul] at t5
  have l6 : binE addD (varE 2) (lstE (consA (conE .non) (consA (conE (.int 3)) (consA (conE (.bl true)) (consA (tupE (consA (tupE (consA (conE (.int 7)) nilA)) (consA (tupE nilA) nilA))) (consA (conE (.str "7 / -\n")) (consA (conE (.str "7\n/ -")) (consA (conE (.str "7 /\n-")) nilA)))))))) [some (.scr ns), some (.ref 1), some (.lst L5), c3, c4, d5, d6, d7, none, none] S1 = .ok (.lst (L5 ++ [D.non, .int 3, .bl true, .tup [.tup [.int 7], .tup []], .str "7 / -\n", .str "7\n/ -", .str "7 /\n-"])) S1 :=
    add_things (x := varE 2) rfl (lst_ok rfl tl (by decide)) t5 tl (by decide)
  have t6 := t5.app tl
  obtain ⟨b8, b9, S2, e6⟩ := last_go (I := ⟨L5 ++ [D.non, .int 3, .bl true, .tup [.tup [.int 7], .tup []], .str "7 / -\n", .str "7\n/ -", .str "7 /\n-"], fun _ => True⟩) (fun _ => trivial) (a0 := some (.scr ns)) (a1 := some (.ref 1)) (a2 := some (.lst L5)) (a3 := c3) (a4 := c4) (a5 := d5) (a6 := d6) (a7 := d7) (L5 ++ [D.non, .int 3, .bl true, .tup [.tup [.int 7], .tup []], .str "7 / -\n", .str "7\n/ -", .str "7 /\n-"]) none none S1 t6.2
  have i6 : lsI (binE addD (varE 2) (lstE (consA (conE .non) (consA (conE (.int 3)) (consA (conE (.bl true)) (consA (tupE (consA (tupE (consA (conE (.int 7)) nilA)) (consA (tupE nilA) nilA))) (consA (conE (.str "7 / -\n")) (consA (conE (.str "7\n/ -")) (consA (conE (.str "7 /\n-")) nilA))))))))) [some (.scr ns), some (.ref 1), some (.lst L5), c3, c4, d5, d6, d7, none, none] S1 = .ok ⟨L5 ++ [D.non, .int 3, .bl true, .tup [.tup [.int 7], .tup []], .str "7 / -\n", .str "7\n/ -", .str "7 /\n-"], fun _ => True⟩ S1 := by
    unfold lsI
    rw [l6]
    rfl
  have s6 := (forS_ok (g := nameG 8) (b := bL) i6).trans e6
  refine ⟨S2, ?_⟩
  unfold m_law b_law
  refine fnB_rt ?_
  rw [st, seqS_nx s0, seqS_nx s1, seqS_nx s2, seqS_nx s3, seqS_nx s4, seqS_nx s5, seqS_nx s6]
  rfl
end K56

/-! ### the head's run, the end -/
namespace K56
open PySem PySem.Spec PyProof.Rows L2 DL
set_option maxHeartbeats 0
abbrev RR : PySem.W.OpenRow := PySem.W.OpenLaw.row PySem.Challenge.rw_shoeparty_k56_halls_parsed
abbrev hk : PySem.W.Hook := hookL 4 fas fns exs
def ob (s : PySem.W.SharedT) : He.AlD := obsL 4 fas fns exs (HandSHeadRun.getT s)
theorem ob_eq (s : PySem.W.SharedT) : ob s = hk.obs s.abs := obsL_eq (HandSHeadRun.getT_eq s)
def names : List Str := ([("__name__" : Str), ("PartyError" : Str), ("BadHall" : Str), ("BadSize" : Str), ("BadText" : Str), ("MAX_SIZE" : Str), ("MAX_GUESTS" : Str), ("MAX_PAIRS" : Str), ("is_number" : Str), ("is_size" : Str), ("first_wrong" : Str), ("hall_error" : Str), ("is_hall" : Str), ("FIGURES" : Str), ("LONGEST" : Str), ("COMMA" : Str), ("MIDDLE" : Str), ("NO_PAIRS" : Str), ("MANY_WORDS" : Str), ("parse_number" : Str), ("parse_numbers" : Str), ("parse_feet" : Str), ("parse_pairs" : Str), ("parse_part" : Str), ("parse_hall" : Str), ("_law_deck" : Str), ("_law_draw" : Str), ("_law_same" : Str), ("_law_state" : Str), ("_law_hall_text" : Str), ("_law_odd" : Str), ("_law_bent" : Str), ("_law_sizes" : Str), ("_law_part" : Str), ("_law_due" : Str), ("_law_told" : Str)] : List Str)
theorem run (w : World) : HandSHeadRun.RunEq RR (PySem.W.view RR.prog [39]) hk ob 20000 names w := by
  intro os
  kernel_rfl
end K56
open PySem PySem.W PySem.Calls PyProof.Rows
theorem PySem.Challenge.cw_shoeparty_k56_halls_parsed_holds : PySem.Challenge.rw_shoeparty_k56_halls_parsed.Holds := by
  w_on; o_law
  refine HandSHeadRun.head_any (r := OpenLaw.row PySem.Challenge.rw_shoeparty_k56_halls_parsed) (q := view (OpenLaw.row PySem.Challenge.rw_shoeparty_k56_halls_parsed).prog [39]) (H := K56.hk) (ob := K56.ob) (M := 20000) (loose := K56.names) (d := HandSHeadRun.topDef (OpenLaw.row PySem.Challenge.rw_shoeparty_k56_halls_parsed).prog 39) (kwd := []) K56.ob_eq
    (by kernel_rfl) (fun s => by kernel_rfl) K56.run (by kernel_rfl) (by kernel_rfl) (by kernel_rfl) (by rfl) (by first | assumption | decide +kernel) (by decide +kernel) ⟨rfl, rfl, rfl, rfl, rfl, by decide +kernel⟩ ?hw ?hc
  case hw => w_witness2
  case hc =>
    refine DL.walk_law (l := PySem.Challenge.rw_shoeparty_k56_halls_parsed) (n := 63) (k := 11) rfl (by decide) (by kernel_rfl) ⟨rfl, by decide, by decide⟩ ?_
    intro w mg fa h Y G hmg0
    obtain ⟨K, KX, c⟩ := Y
    have hmg : mg ("law" : PySem.Str) = some (.ref fa) := by
      have e : (HandSHeadRun.topDef (OpenLaw.row PySem.Challenge.rw_shoeparty_k56_halls_parsed).prog 39).name = ("law" : PySem.Str) := by kernel_rfl
      rw [← e]
      exact hmg0
    have t : DL.Top K56.fas K56.fns K56.exs K mg := ⟨c, h, KX, G⟩
    have e := hmg.symm.trans (t.glo "law" 50)
    cases e
    exact ⟨K, K56.m_law, KX, fun base _ _ => K56.ok_law t, fun ns hl => K56.plain ns hl⟩

