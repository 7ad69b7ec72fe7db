import PyProof.Rows.All
import Wide.All
import OpenK.AllK
import Wide.FinOn
import HandS.ForMost
import HandS.TupAny
import HandS.IsInst
import HandS.RaiseMore
import HandS.Exc
import KE.GoesEnum
import KE.GoesZip
import HandS.Strs
import HandS.TupLe
import HandS.Deep
import PyProof.ListStr
import PyProof.TupleOfStr
import PyProof.ReprRoads
import HandS.Defaults
import HandS.MakeKw
import HandS.HeadEnd
import HandS.HeadHook4
import KE.KIntText
import KE.KDictZip
import HandS.SetKeys
import HandS.WordsDict
import HandS.Conv
import HandS.More
import HandS.DictComp
import HandS.Steps
import HandS.Style
import PyProof.StrBlock2
import HandS.SortInts
import HandS.OwnEq
import HandS.Small
import HandS.Text
import HandS.CallLocal
import HandS.ClsMeth
import HandS.HeadNt
import HandS.MakeKwOnly
import HandS.FStr
import KE.KStateDown
import Lean
import HandS.WordsExc
import HandS.Head0
import HandS.Head1
import HandS.Head2
import HandS.HeadHook1
import HandS.HeadHook2
import HandS.HeadHook3
import PyProof.ReprBulk
import PySem.Challenge.RW_kempemoves_k03_texts_of_webs
set_option Elab.async false
set_option linter.all false
set_option maxRecDepth 100000
set_option maxHeartbeats 4000000
/-! KD: the data level. Values are data, local lists are owned slots, shared objects stand in a store. -/
namespace KD
open PySem L2

inductive D where
  | non | bl (b : Bool) | int (i : Int) | str (s : Str)
  | tup (l : List D) | pair (l : List D) | lst (l : List D) | scr (l : List Int)
  | ins (c : Nat) (ns : List Str) (l : List D)
  | dct (ks : List L2.Key) (l : List D)
  | dcl (ks : List L2.Key) (l : List D)
  | ptr (n : Nat)
  | cls (c : Nat) | rng (lo hi : Int) | exc (c : Nat) (ns : List Str) (l : List D)
inductive MO where
  | lst (l : List D) | ins (c : Nat) (ns : List Str) (l : List D) | dct (ks : List L2.Key) (l : List D)
def MO.toD : MO → D
  | .lst l => .lst l
  | .ins c ns l => .ins c ns l
  | .dct ks l => .dct ks l
inductive Sl where | no | d (x : D) | own (m : MO)
structure SE where
  sl : List Sl
  M : List MO
inductive Ow | slot (i : Nat) | obj (n : Nat) | tmp | ext deriving DecidableEq
inductive Val | d (x : D) | new (m : MO) | old (i : Nat)
abbrev OwF := Addr → Option Ow
/-- the constants: the written part, the classes' addresses, the shared objects' addresses -/
structure Gam where
  K : PySem.W.Frag
  ct : Nat → Addr
  mu : Nat → Option Addr
def cut (H : Hp) (ow : OwF) : Hp := fun a => match ow a with | none => H a | some _ => none
def setO (ow : OwF) (p : Addr) (w : Option Ow) : OwF := fun a => if a = p then w else ow a
def Sub (F F' : Hp) : Prop := ∀ a o, F a = some o → F' a = some o
theorem Sub.refl (F : Hp) : Sub F F := fun _ _ h => h
theorem Sub.trans {F G H : Hp} (a : Sub F G) (b : Sub G H) : Sub F H := fun x o h => b x o (a x o h)
theorem setO_same {ow : OwF} {p : Addr} {w : Option Ow} : setO ow p w p = w := if_pos rfl
theorem setO_ne {ow : OwF} {p a : Addr} {w : Option Ow} (h : a ≠ p) : setO ow p w a = ow a := if_neg h
theorem cut_of {H : Hp} {ow : OwF} {a : Addr} {o : HO} (h : cut H ow a = some o) : ow a = none ∧ H a = some o := by
  unfold cut at h
  cases e : ow a with
  | none => rw [e] at h; exact ⟨rfl, h⟩
  | some w => rw [e] at h; cases h
theorem cut_mk {H : Hp} {ow : OwF} {a : Addr} {o : HO} (h1 : ow a = none) (h2 : H a = some o) : cut H ow a = some o := by
  unfold cut; rw [h1]; exact h2
theorem cut_sub {H : Hp} {ow : OwF} : Sub (cut H ow) H := fun _ _ h => (cut_of h).2
theorem Sub.rd {F F' : Hp} (s : Sub F F') {a : Addr} {u : HO} (h : Rd F a u) : Rd F' a u := by
  rcases h with h | ⟨o, h⟩
  · exact .inl (s _ _ h)
  · exact .inr ⟨o, s _ _ h⟩
theorem Sub.sqt {F F' : Hp} (s : Sub F F') {K : PySem.W.Frag} {a : Addr} {xs : List V} (h : SqT K F a xs) : SqT K F' a xs := by
  rcases h with h | h
  · exact .inl (s.rd h)
  · exact .inr h
theorem Sub.sql {F F' : Hp} (s : Sub F F') {K : PySem.W.Frag} {a : Addr} {xs : List V} (h : SqL K F a xs) : SqL K F' a xs := by
  rcases h with h | h
  · exact .inl (s.rd h)
  · exact .inr h

/-- a tuple that is known to be a plain one -/
def TupR (K : PySem.W.Frag) (F : Hp) (a : Addr) (vs : List V) : Prop := (∃ o, F a = some (.frz o (.tup vs)) ∧ o.dict = none) ∨
  ∃ (o : Obj) (its : Array Value) (n : Nat), K.lookup a = some o ∧ o.cls = .type "tuple" ∧ o.dict = none ∧ o.data = .seq its n ∧ its.size ≤ sizeLine ∧ Vals vs its.toList
theorem TupR.sqt {K : PySem.W.Frag} {F : Hp} {a : Addr} {vs : List V} (h : TupR K F a vs) : SqT K F a vs := by
  rcases h with ⟨o, h, _⟩ | ⟨o, its, n, h1, h2, _, h3, h4, h5⟩
  · exact .inl (.inr ⟨o, h⟩)
  · exact .inr ⟨o, its, n, h1, h2, h3, h4, h5⟩
theorem Sub.tupR {F F' : Hp} (s : Sub F F') {K : PySem.W.Frag} {a : Addr} {vs : List V} (h : TupR K F a vs) : TupR K F' a vs := by
  rcases h with ⟨o, h, d⟩ | h
  · exact .inl ⟨o, s _ _ h, d⟩
  · exact .inr h
/-- a text as texts are: real signs, not too many -/
def sOk (s : Str) : Bool := s.cps.all (fun c => decide (c < 1114112)) && decide (s.cps.size ≤ 16777216)
/-- a caught exception's record: its class at C, its dict d -/
def xob (a C : Addr) (d : Option Addr) : HO := .ext fun h => ∃ oe, h.get? a = some oe ∧ Zc (.ref C) d oe ∧ ∃ vs, oe.data = .fields vs
/-- .. and its attributes -/
def XFs (F : Hp) (ns : List Str) (vs : List V) : Option Addr → Prop
  | some dx => F dx = some (.xd (ns.zip vs))
  | none => ns = []
theorem XFs.mono {F F' : Hp} (s : Sub F F') {ns : List Str} {vs : List V} : ∀ {d : Option Addr}, XFs F ns vs d → XFs F' ns vs d
  | some _, h => s _ _ h
  | none, h => h
mutual
inductive Rp (Γ : Gam) (F : Hp) : V → D → Prop
  | non : Rp Γ F .non .non
  | bl (b : Bool) : Rp Γ F (.bl b) (.bl b)
  | int (i : Int) : Rp Γ F (.int i) (.int i)
  | str (s : Str) (h : sOk s = true) : Rp Γ F (.str s) (.str s)
  | tup {a : Addr} {vs : List V} {ds : List D} : TupR Γ.K F a vs → RpAll Γ F vs ds → ds.length ≤ 16777216 → Rp Γ F (.ref a) (.tup ds)
  | pair {a : Addr} {vs : List V} {ds : List D} : SqT Γ.K F a vs → RpAll Γ F vs ds → Rp Γ F (.ref a) (.pair ds)
  | lst {a : Addr} {vs : List V} {ds : List D} : F a = some (.lst vs) → RpAll Γ F vs ds → ds.length ≤ 16777216 → Rp Γ F (.ref a) (.lst ds)
  | scr {a : Addr} {ns : List Int} : SqL Γ.K F a (ns.map V.int) → ns.length ≤ 16777216 → Rp Γ F (.ref a) (.scr ns)
  | ins {a dx : Addr} {c : Nat} {ns : List Str} {vs : List V} {ds : List D} : F a = some (.ins (Γ.ct c) dx (ns.zip vs)) → vs.length = ns.length → RpAll Γ F vs ds → Rp Γ F (.ref a) (.ins c ns ds)
  | dct {a : Addr} {ks : List L2.Key} {vs : List V} {ds : List D} : F a = some (.dK (ks.zip vs)) → vs.length = ks.length → RpAll Γ F vs ds → Rp Γ F (.ref a) (.dct ks ds)
  | dcl {a : Addr} {o : Obj} {ks : List L2.Key} {vs : List V} {ds : List D} : F a = some (.frz o (.dK (ks.zip vs))) → vs.length = ks.length → RpAll Γ F vs ds → Rp Γ F (.ref a) (.dcl ks ds)
  | ptr {a : Addr} {n : Nat} : Γ.mu n = some a → Rp Γ F (.ref a) (.ptr n)
  | cls (c : Nat) : Rp Γ F (.ref (Γ.ct c)) (.cls c)
  | rng {a : Addr} {lo hi : Int} : F a = some (.rng lo hi) → Rp Γ F (.ref a) (.rng lo hi)
  | exc {a : Addr} {d : Option Addr} {c : Nat} {ns : List Str} {vs : List V} {ds : List D} : F a = some (xob a (Γ.ct c) d) → XFs F ns vs d → vs.length = ns.length → RpAll Γ F vs ds → Rp Γ F (.ref a) (.exc c ns ds)
inductive RpAll (Γ : Gam) (F : Hp) : List V → List D → Prop
  | nil : RpAll Γ F [] []
  | cons {v : V} {vs : List V} {d : D} {ds : List D} : Rp Γ F v d → RpAll Γ F vs ds → RpAll Γ F (v :: vs) (d :: ds)
end
section
variable {Γ : Gam} {F F' : Hp}
mutual
theorem Rp.mono (s : Sub F F') : ∀ {v : V} {d : D}, Rp Γ F v d → Rp Γ F' v d
  | _, _, .non => .non
  | _, _, .bl b => .bl b
  | _, _, .int b => .int b
  | _, _, .str b h => .str b h
  | _, _, .tup h r l => .tup (s.tupR h) (RpAll.mono s r) l
  | _, _, .pair h r => .pair (s.sqt h) (RpAll.mono s r)
  | _, _, .lst h r l => .lst (s _ _ h) (RpAll.mono s r) l
  | _, _, .scr h l => .scr (s.sql h) l
  | _, _, .ins h l r => .ins (s _ _ h) l (RpAll.mono s r)
  | _, _, .dct h l r => .dct (s _ _ h) l (RpAll.mono s r)
  | _, _, .dcl h l r => .dcl (s _ _ h) l (RpAll.mono s r)
  | _, _, .ptr h => .ptr h
  | _, _, .cls c => .cls c
  | _, _, .rng h => .rng (s _ _ h)
  | _, _, .exc h x l r => .exc (s _ _ h) (x.mono s) l (RpAll.mono s r)
theorem RpAll.mono (s : Sub F F') : ∀ {vs : List V} {ds : List D}, RpAll Γ F vs ds → RpAll Γ F' vs ds
  | _, _, .nil => .nil
  | _, _, .cons h r => .cons (Rp.mono s h) (RpAll.mono s r)
end
theorem RpAll.length : ∀ {vs : List V} {ds : List D}, RpAll Γ F vs ds → vs.length = ds.length
  | _, _, .nil => rfl
  | _, _, .cons _ r => by simp [RpAll.length r]
theorem RpAll.append : ∀ {vs : List V} {ds : List D} {us : List V} {es : List D}, RpAll Γ F vs ds → RpAll Γ F us es → RpAll Γ F (vs ++ us) (ds ++ es)
  | _, _, _, _, .nil, r => r
  | _, _, _, _, .cons h r, q => .cons h (RpAll.append r q)
theorem RpAll.one {v : V} {d : D} (h : Rp Γ F v d) : RpAll Γ F [v] [d] := .cons h .nil
theorem RpAll.take : ∀ {vs : List V} {ds : List D} (n : Nat), RpAll Γ F vs ds → RpAll Γ F (vs.take n) (ds.take n)
  | _, _, 0, _ => by simp only [List.take_zero]; exact .nil
  | _, _, _ + 1, .nil => .nil
  | _, _, n + 1, .cons h r => .cons h (RpAll.take n r)
theorem RpAll.drop : ∀ {vs : List V} {ds : List D} (n : Nat), RpAll Γ F vs ds → RpAll Γ F (vs.drop n) (ds.drop n)
  | _, _, 0, h => h
  | _, _, _ + 1, .nil => .nil
  | _, _, n + 1, .cons _ r => RpAll.drop n r
theorem RpAll.get : ∀ {vs : List V} {ds : List D} {i : Nat} {d : D}, RpAll Γ F vs ds → ds[i]? = some d → ∃ v, vs[i]? = some v ∧ Rp Γ F v d
  | _, _, _, _, .nil, h => by simp at h
  | _, _, 0, _, .cons h _, e => by simp at e; subst e; exact ⟨_, rfl, h⟩
  | _, _, i + 1, _, .cons _ r, e => by
    obtain ⟨v, h1, h2⟩ := RpAll.get (i := i) r (by simpa using e)
    exact ⟨v, by simpa using h1, h2⟩
theorem RpAll.getV : ∀ {vs : List V} {ds : List D} {i : Nat} {v : V}, RpAll Γ F vs ds → vs[i]? = some v → ∃ d, ds[i]? = some d ∧ Rp Γ F v d
  | _, _, _, _, .nil, h => by simp at h
  | _, _, 0, _, .cons h _, e => by simp at e; subst e; exact ⟨_, rfl, h⟩
  | _, _, i + 1, _, .cons _ r, e => by
    obtain ⟨v, h1, h2⟩ := RpAll.getV (i := i) r (by simpa using e)
    exact ⟨v, by simpa using h1, h2⟩
theorem RpAll.set {v : V} {d : D} (q : Rp Γ F v d) : ∀ {vs : List V} {ds : List D} (i : Nat), RpAll Γ F vs ds → RpAll Γ F (vs.set i v) (ds.set i d)
  | _, _, _, .nil => .nil
  | _, _, 0, .cons _ r => .cons q r
  | _, _, i + 1, .cons h r => .cons h (RpAll.set q i r)
theorem RpAll.erase : ∀ {vs : List V} {ds : List D} (i : Nat), RpAll Γ F vs ds → RpAll Γ F (vs.eraseIdx i) (ds.eraseIdx i)
  | _, _, _, .nil => .nil
  | _, _, 0, .cons _ r => r
  | _, _, i + 1, .cons h r => .cons h (RpAll.erase i r)

/-- a shared or owned object at p -/
def ObjR (Γ : Gam) (F H : Hp) (p : Addr) : MO → Prop
  | .lst xs => ∃ vs, H p = some (.lst vs) ∧ RpAll Γ F vs xs ∧ xs.length ≤ 16777216
  | .ins c ns xs => ∃ dx vs, H p = some (.ins (Γ.ct c) dx (ns.zip vs)) ∧ vs.length = ns.length ∧ RpAll Γ F vs xs
  | .dct ks xs => ∃ vs, H p = some (.dK (ks.zip vs)) ∧ vs.length = ks.length ∧ RpAll Γ F vs xs
theorem ObjR.has {H : Hp} {p : Addr} {m : MO} (h : ObjR Γ F H p m) : ∃ o, H p = some o := by
  cases m with
  | lst xs => obtain ⟨vs, h, _⟩ := h; exact ⟨_, h⟩
  | ins c ns xs => obtain ⟨dx, vs, h, _⟩ := h; exact ⟨_, h⟩
  | dct ks xs => obtain ⟨vs, h, _⟩ := h; exact ⟨_, h⟩
theorem ObjR.mono {H H' : Hp} {p : Addr} {m : MO} (h : ObjR Γ F H p m) (s : Sub F F') (e : ∀ o, H p = some o → H' p = some o) : ObjR Γ F' H' p m := by
  cases m with
  | lst xs => obtain ⟨vs, h, r, l⟩ := h; exact ⟨vs, e _ h, r.mono s, l⟩
  | ins c ns xs => obtain ⟨dx, vs, h, l, r⟩ := h; exact ⟨dx, vs, e _ h, l, r.mono s⟩
  | dct ks xs => obtain ⟨vs, h, l, r⟩ := h; exact ⟨vs, e _ h, l, r.mono s⟩
/-- frozen from now on -/
theorem ObjR.rp {H : Hp} {p : Addr} {m : MO} (h : ObjR Γ F H p m) (s : Sub F F') (e : ∀ o, H p = some o → F' p = some o) : Rp Γ F' (.ref p) m.toD := by
  cases m with
  | lst xs => obtain ⟨vs, h, r, l⟩ := h; exact .lst (e _ h) (r.mono s) l
  | ins c ns xs => obtain ⟨dx, vs, h, l, r⟩ := h; exact .ins (e _ h) l (r.mono s)
  | dct ks xs => obtain ⟨vs, h, l, r⟩ := h; exact .dct (e _ h) l (r.mono s)

def MSim (Γ : Gam) (ow : OwF) (M : List MO) (H : Hp) : Prop :=
  ∀ (n : Nat) (m : MO), M[n]? = some m → ∃ p, Γ.mu n = some p ∧ ow p = some (.obj n) ∧ ObjR Γ (cut H ow) H p m
structure Sim (Γ : Gam) (ow : OwF) (ε : SE) (σ : L2.St) (H : Hp) : Prop where
  len : σ.length = ε.sl.length
  sd : ∀ (i : Nat) (d : D), ε.sl[i]? = some (.d d) → ∃ v, σ[i]? = some (some v) ∧ Rp Γ (cut H ow) v d
  so : ∀ (i : Nat) (m : MO), ε.sl[i]? = some (.own m) → ∃ p, σ[i]? = some (some (.ref p)) ∧ ow p = some (.slot i) ∧ ObjR Γ (cut H ow) H p m
  mo : MSim Γ ow ε.M H
/-- what a step may do: frozen things stay, foreign and temporary ones too -/
structure Fr (ow : OwF) (H : Hp) (ow' : OwF) (H' : Hp) : Prop where
  fz : ∀ a o, H a = some o → ow a = none → ow' a = none ∧ H' a = some o
  ke : ∀ a o w, H a = some o → ow a = some w → (w = .tmp ∨ w = .ext) → ow' a = some w ∧ H' a = some o
  tr : ∀ a o, H a = some o → ∃ o', H' a = some o'
  ob : ∀ a o n, H a = some o → ow a = some (.obj n) → ow' a = some (.obj n)
theorem Fr.refl {ow : OwF} {H : Hp} : Fr ow H ow H := ⟨fun _ _ h e => ⟨e, h⟩, fun _ _ _ h e _ => ⟨e, h⟩, fun _ _ h => ⟨_, h⟩, fun _ _ _ _ e => e⟩
theorem Fr.trans {ow ow1 ow2 : OwF} {H H1 H2 : Hp} (a : Fr ow H ow1 H1) (b : Fr ow1 H1 ow2 H2) : Fr ow H ow2 H2 :=
  ⟨fun x o h e => let ⟨e1, h1⟩ := a.fz x o h e; b.fz x o h1 e1, fun x o w h e q => let ⟨e1, h1⟩ := a.ke x o w h e q; b.ke x o w h1 e1 q,
   fun x o h => let ⟨_, h1⟩ := a.tr x o h; b.tr x _ h1, fun x o n h e => let ⟨_, h1⟩ := a.tr x o h; b.ob x _ n h1 (a.ob x o n h e)⟩
theorem Fr.sub {ow ow' : OwF} {H H' : Hp} (a : Fr ow H ow' H') : Sub (cut H ow) (cut H' ow') := fun x o h =>
  let ⟨h1, h2⟩ := cut_of h; let ⟨q1, q2⟩ := a.fz x o h2 h1; cut_mk q1 q2
theorem Fr.none {ow ow' : OwF} {H H' : Hp} (a : Fr ow H ow' H') {p : Addr} (h : H' p = none) : H p = none := by
  cases e : H p with
  | none => rfl
  | some o => obtain ⟨o', h'⟩ := a.tr p o e; rw [h] at h'; cases h'

/-- the value of an expression -/
def VR (Γ : Gam) (ow : OwF) (H0 : Hp) (σ : L2.St) (H : Hp) (v : V) : Val → Prop
  | .d d => Rp Γ (cut H ow) v d
  | .new m => ∃ p, v = .ref p ∧ ow p = some .tmp ∧ H0 p = none ∧ ObjR Γ (cut H ow) H p m
  | .old i => σ[i]? = some (some v)
theorem VR.back {ow : OwF} {H0 H1 H : Hp} {σ : L2.St} {v : V} {val : Val} (h : VR Γ ow H1 σ H v val) (f : ∀ p, H1 p = none → H0 p = none) : VR Γ ow H0 σ H v val := by
  cases val with
  | d d => exact h
  | new m => obtain ⟨p, e1, e2, e3, e4⟩ := h; exact ⟨p, e1, e2, f p e3, e4⟩
  | old i => exact h
end

abbrev EM := SE → Option (Val × SE)
abbrev AM := SE → Option (List Val × SE)
/-- an expression's reading by data -/
def tE (K : PySem.W.Frag) (ct : Nat → Addr) (f : EM) : TE := fun σ H Q => ∃ mu ow ε val ε', Sim ⟨K, ct, mu⟩ ow ε σ H ∧ f ε = some (val, ε') ∧
  ∀ v H' ow', Sim ⟨K, ct, mu⟩ ow' ε' σ H' → Fr ow H ow' H' → VR ⟨K, ct, mu⟩ ow' H σ H' v val → Q v H'
theorem _root_.L2.PE.imp {X : Cx} {e : Expr} {t t' : TE} (h : PE X e t) (i : ∀ σ H Q, t' σ H Q → t σ H Q) : PE X e t' :=
  ⟨fun pins s σ H Q I q => h.run pins s σ H Q I (i σ H Q q)⟩
theorem _root_.L2.PT.imp {X : Cx} {e : Expr} {t t' : TT} (h : PT X e t) (i : ∀ σ H Q, t' σ H Q → t σ H Q) : PT X e t' :=
  ⟨fun pins s σ H Q I q => h.run pins s σ H Q I (i σ H Q q)⟩
theorem _root_.L2.PA.imp {X : Cx} {e : List Expr} {t t' : TA} (h : PA X e t) (i : ∀ σ H Q, t' σ H Q → t σ H Q) : PA X e t' :=
  ⟨fun pos pins s σ H Q I q => h.run pos pins s σ H Q I (i σ H Q q)⟩
theorem _root_.L2.PS.imp {X : Cx} {e : Stmt} {t t' : TS} (h : PS X e t) (i : ∀ D σ H, t' D σ H → t D σ H) : PS X e t' :=
  ⟨fun pins s σ H D I q => h.run pins s σ H D I (i D σ H q)⟩
theorem _root_.L2.PSs.imp {X : Cx} {e : List Stmt} {t t' : TS} (h : PSs X e t) (i : ∀ D σ H, t' D σ H → t D σ H) : PSs X e t' :=
  ⟨fun pins s σ H D I q => h.run pins s σ H D I (i D σ H q)⟩
section
variable {Γ : Gam} {ow : OwF} {ε ε' : SE} {σ : L2.St} {H H' : Hp}
/-- the state at another ghost and heap: frozen things stand, owned ones too -/
theorem Sim.move {ow' : OwF} (S : Sim Γ ow ε σ H) (s : Sub (cut H ow) (cut H' ow')) (k : ∀ a o w, H a = some o → ow a = some w → (∃ i, w = .slot i) ∨ (∃ n, w = .obj n) → ow' a = some w ∧ H' a = some o) : Sim Γ ow' ε σ H' := by
  refine ⟨S.len, fun i d e => ?_, fun i m e => ?_, fun n m e => ?_⟩
  · obtain ⟨v, h1, h2⟩ := S.sd i d e
    exact ⟨v, h1, h2.mono s⟩
  · obtain ⟨p, h1, h2, h3⟩ := S.so i m e
    obtain ⟨o, ho⟩ := ObjR.has h3
    obtain ⟨q1, q2⟩ := k p o _ ho h2 (.inl ⟨i, rfl⟩)
    exact ⟨p, h1, q1, ObjR.mono h3 s fun o' e' => by rw [ho] at e'; cases e'; exact q2⟩
  · obtain ⟨p, h1, h2, h3⟩ := S.mo n m e
    obtain ⟨o, ho⟩ := ObjR.has h3
    obtain ⟨q1, q2⟩ := k p o _ ho h2 (.inr ⟨n, rfl⟩)
    exact ⟨p, h1, q1, ObjR.mono h3 s fun o' e' => by rw [ho] at e'; cases e'; exact q2⟩
/-- a new object at p, whoever owns it -/
theorem Sim.alloc {p : Addr} {o : HO} (S : Sim Γ ow ε σ H) (hp : H p = none) (w : Option Ow) : Sim Γ (setO ow p w) ε σ (upd H p o) ∧ Fr ow H (setO ow p w) (upd H p o) := by
  have ne : ∀ a o, H a = some o → a ≠ p := fun a o h => ne_of_none h hp
  have fr : Fr ow H (setO ow p w) (upd H p o) := ⟨fun a o' h e => by rw [setO_ne (ne a o' h), upd_ne (ne a o' h)]; exact ⟨e, h⟩,
    fun a o' w' h e _ => by rw [setO_ne (ne a o' h), upd_ne (ne a o' h)]; exact ⟨e, h⟩, fun a o' h => by rw [upd_ne (ne a o' h)]; exact ⟨_, h⟩, fun a o' n h e => by rw [setO_ne (ne a o' h)]; exact e⟩
  exact ⟨S.move fr.sub fun a o' w' h e _ => by rw [setO_ne (ne a o' h), upd_ne (ne a o' h)]; exact ⟨e, h⟩, fr⟩
/-- a temporary object is frozen -/
theorem Sim.freeze {p : Addr} (S : Sim Γ ow ε σ H) (ht : ow p = some .tmp) : Sim Γ (setO ow p none) ε σ H ∧ Sub (cut H ow) (cut H (setO ow p none)) := by
  have s : Sub (cut H ow) (cut H (setO ow p none)) := fun a o h => by
    obtain ⟨h1, h2⟩ := cut_of h
    have n : a ≠ p := by rintro rfl; rw [ht] at h1; cases h1
    exact cut_mk (by rw [setO_ne n]; exact h1) h2
  refine ⟨S.move s fun a o w h e q => ?_, s⟩
  have n : a ≠ p := by
    rintro rfl
    rw [ht] at e; cases e
    rcases q with ⟨_, q⟩ | ⟨_, q⟩ <;> cases q
  rw [setO_ne n]; exact ⟨e, h⟩

def fzv : Val → Val
  | .new m => .d m.toD
  | v => v
def fzE (f : EM) : EM := fun ε => (f ε).map fun r => (fzv r.1, r.2)
theorem VR.fz {H0 : Hp} {ow0 : OwF} {v : V} {val : Val} (S : Sim Γ ow ε σ H) (fr : Fr ow0 H0 ow H) (h : VR Γ ow H0 σ H v val) : ∃ ow', Sim Γ ow' ε σ H ∧ Fr ow0 H0 ow' H ∧ VR Γ ow' H0 σ H v (KD.fzv val) := by
  cases val with
  | d d => exact ⟨ow, S, fr, h⟩
  | old i => exact ⟨ow, S, fr, h⟩
  | new m =>
    obtain ⟨p, rfl, ht, h0, ho⟩ := h
    obtain ⟨S2, s2⟩ := S.freeze ht
    refine ⟨_, S2, ⟨fun a o h e => ?_, fun a o w h e q => ?_, fr.tr, fun a o n h e => ?_⟩, ObjR.rp ho s2 fun o e => cut_mk setO_same e⟩
    · have n : a ≠ p := ne_of_none h h0
      rw [setO_ne n]; exact fr.fz a o h e
    · have n : a ≠ p := ne_of_none h h0
      rw [setO_ne n]; exact fr.ke a o w h e q
    · have n' : a ≠ p := ne_of_none h h0
      rw [setO_ne n']; exact fr.ob a o n h e
end
theorem fzE_some {f : EM} {ε ε' : SE} {val : Val} (h : fzE f ε = some (val, ε')) : ∃ val0, f ε = some (val0, ε') ∧ val = fzv val0 := by
  unfold fzE at h
  cases e : f ε with
  | none => rw [e] at h; cases h
  | some r => rw [e] at h; cases h; exact ⟨r.1, rfl, rfl⟩
/-- the value frozen, if it was new -/
theorem de_fz {X : Cx} {ct : Nat → Addr} {e : Expr} {f : EM} (h : PE X e (tE X.K ct f)) : PE X e (tE X.K ct (fzE f)) := h.imp fun σ H Q ⟨mu, ow, ε, val, ε', S, hf, k⟩ => by
  obtain ⟨val0, h0, rfl⟩ := fzE_some hf
  refine ⟨mu, ow, ε, val0, ε', S, h0, fun v H' ow' S' fr r => ?_⟩
  obtain ⟨ow2, S2, fr2, r2⟩ := r.fz S' fr
  exact k v H' ow2 S2 fr2 r2

/-- the datum that a value shows -/
def ownD (ε : SE) (i : Nat) : Option D := match ε.sl[i]? with | some (.own m) => some m.toD | _ => none
theorem ownD_some {ε : SE} {i : Nat} {d : D} (h : ownD ε i = some d) : ∃ m, ε.sl[i]? = some (.own m) ∧ d = m.toD := by
  unfold ownD at h
  split at h
  · rename_i m hm; cases h; exact ⟨m, hm, rfl⟩
  · cases h
def Val.res (ε : SE) : Val → Option D
  | .d (.ptr n) => (ε.M[n]?).map MO.toD
  | .d x => some x
  | .new m => some m.toD
  | .old i => ownD ε i
/-- a datum whose outermost object may be an owned one -/
def RpO (Γ : Gam) (F H : Hp) (v : V) (d : D) : Prop := Rp Γ F v d ∨ ∃ p m, v = .ref p ∧ ObjR Γ F H p m ∧ d = m.toD
theorem VR.res {Γ : Gam} {ow : OwF} {ε : SE} {σ : L2.St} {H H0 : Hp} {v : V} {val : Val} {d : D} (S : Sim Γ ow ε σ H) (h : VR Γ ow H0 σ H v val) (e : val.res ε = some d) : RpO Γ (cut H ow) H v d := by
  cases val with
  | d x =>
    by_cases hx : ∃ n, x = .ptr n
    · obtain ⟨n, rfl⟩ := hx
      have e' : (ε.M[n]?).map MO.toD = some d := e
      obtain ⟨m, hm, rfl⟩ := Option.map_eq_some_iff.mp e'
      obtain ⟨p, q1, q2, q3⟩ := S.mo n m hm
      have h' : Rp Γ (cut H ow) v (.ptr n) := h
      cases h' with
      | ptr z => rw [q1] at z; cases z; exact .inr ⟨p, m, rfl, q3, rfl⟩
    · have e' : some x = some d := by
        rw [← e]
        cases x <;> first | rfl | exact absurd ⟨_, rfl⟩ hx
      cases e'
      exact .inl h
  | new m => cases e; obtain ⟨p, rfl, _, _, ho⟩ := h; exact .inr ⟨p, m, rfl, ho, rfl⟩
  | old i =>
    obtain ⟨m, hm, rfl⟩ := ownD_some e
    obtain ⟨p, h1, h2, h3⟩ := S.so i m hm
    have h' : σ[i]? = some (some v) := h
    rw [h1] at h'
    cases h'
    exact .inr ⟨p, m, rfl, h3, rfl⟩
/-- values that are carried over further steps -/
theorem VR.carry {Γ : Gam} {ow ow' : OwF} {σ : L2.St} {H H' H0 H0' : Hp} {v : V} {val : Val} (h : VR Γ ow H0 σ H v (fzv val)) (fr : Fr ow H ow' H') : VR Γ ow' H0' σ H' v (fzv val) := by
  cases val with
  | d x => exact Rp.mono fr.sub h
  | new m => exact Rp.mono (d := m.toD) fr.sub h
  | old i => exact h
theorem RpO.up {Γ : Gam} {F H : Hp} {v : V} {d : D} (h : RpO Γ F H v d) (s : Sub F H) : Rp Γ H v d := by
  rcases h with h | ⟨p, m, rfl, h, rfl⟩
  · exact h.mono s
  · exact ObjR.rp h s fun _ e => e
/-- what an operation hands back: an old thing, or a new tuple, list -/
inductive Fresh (Γ : Gam) (F H : Hp) : V → Hp → Val → Prop
  | same {v : V} {d : D} : Rp Γ F v d → Fresh Γ F H v H (.d d)
  | tup {p : Addr} {o : Obj} {vs : List V} {ds : List D} : H p = none → o.dict = none → RpAll Γ F vs ds → ds.length ≤ 16777216 → Fresh Γ F H (.ref p) (upd H p (.frz o (.tup vs))) (.d (.tup ds))
  | pair {p : Addr} {vs : List V} {ds : List D} : H p = none → RpAll Γ F vs ds → Fresh Γ F H (.ref p) (upd H p (.tup vs)) (.d (.pair ds))
  | lst {p : Addr} {vs : List V} {ds : List D} : H p = none → RpAll Γ F vs ds → ds.length ≤ 16777216 → Fresh Γ F H (.ref p) (upd H p (.lst vs)) (.new (.lst ds))
  | dct {p : Addr} {ks : List L2.Key} {vs : List V} {ds : List D} : H p = none → vs.length = ks.length → RpAll Γ F vs ds → Fresh Γ F H (.ref p) (upd H p (.dK (ks.zip vs))) (.new (.dct ks ds))
theorem Fresh.sim {Γ : Gam} {ow : OwF} {ε : SE} {σ : L2.St} {H H' : Hp} {v : V} {val : Val} (S : Sim Γ ow ε σ H) (h : Fresh Γ (cut H ow) H v H' val) : ∃ ow', Sim Γ ow' ε σ H' ∧ Fr ow H ow' H' ∧ VR Γ ow' H σ H' v val := by
  cases h with
  | same h => exact ⟨ow, S, Fr.refl, h⟩
  | @tup p o vs ds hp hd r hl =>
    obtain ⟨S2, fr⟩ := S.alloc (o := .frz o (.tup vs)) hp none
    exact ⟨_, S2, fr, .tup (.inl ⟨o, cut_mk setO_same upd_same, hd⟩) (r.mono fr.sub) hl⟩
  | @pair p vs ds hp r =>
    obtain ⟨S2, fr⟩ := S.alloc (o := .tup vs) hp none
    exact ⟨_, S2, fr, .pair (SqT.of (cut_mk setO_same upd_same)) (r.mono fr.sub)⟩
  | @lst p vs ds hp r hl =>
    obtain ⟨S2, fr⟩ := S.alloc (o := .lst vs) hp (some .tmp)
    exact ⟨_, S2, fr, p, rfl, setO_same, hp, vs, upd_same, r.mono fr.sub, hl⟩
  | @dct p ks vs ds hp l r =>
    obtain ⟨S2, fr⟩ := S.alloc (o := .dK (ks.zip vs)) hp (some .tmp)
    exact ⟨_, S2, fr, p, rfl, setO_same, hp, vs, upd_same, l, r.mono fr.sub⟩

/-! ### names and constants -/
def eVar (i : Nat) : EM := fun ε => match ε.sl[i]? with | some (.d d) => some (.d d, ε) | some (.own _) => some (.old i, ε) | _ => none
def eC (d : D) : EM := fun ε => some (.d d, ε)
section
variable {X : Cx} {ct : Nat → Addr}
theorem de_var {i : Nat} {e : Expr} (h : PE X e (tVar i)) : PE X e (tE X.K ct (eVar i)) := h.imp fun σ H Q ⟨mu, ow, ε, val, ε', S, hf, k⟩ => by
  unfold eVar at hf
  split at hf
  · rename_i d hd
    cases hf
    obtain ⟨v, h1, h2⟩ := S.sd i d hd
    exact ⟨v, h1, k v H ow S Fr.refl h2⟩
  · rename_i m hm
    cases hf
    obtain ⟨p, h1, h2, h3⟩ := S.so i m hm
    exact ⟨_, h1, k _ H ow S Fr.refl h1⟩
  · cases hf
theorem de_c {v : V} {d : D} {e : Expr} (h : PE X e (tC v)) (r : ∀ Γ F, Rp Γ F v d) : PE X e (tE X.K ct (eC d)) := h.imp fun σ H Q ⟨mu, ow, ε, val, ε', S, hf, k⟩ => by
  cases hf
  exact k v H ow S Fr.refl (r _ _)
end

/-! ### two-place operations -/
def OpS (K : PySem.W.Frag) (ct : Nat → Addr) (r : R2) (g : D → D → Option Val) : Prop :=
  ∀ (mu : Nat → Option Addr) (F H : Hp) (x y : V) (d e : D) (val : Val) (Q : VK), Sub F H → RpO ⟨K, ct, mu⟩ F H x d → RpO ⟨K, ct, mu⟩ F H y e → g d e = some val → (∀ v H', Fresh ⟨K, ct, mu⟩ F H v H' val → Q v H') → r x y H Q
def eOp (g : D → D → Option Val) (fa fb : EM) : EM := fun ε =>
  (fzE fa ε).bind fun ra => (fzE fb ra.2).bind fun rb => (ra.1.res rb.2).bind fun d => (rb.1.res rb.2).bind fun e => (g d e).map fun r => (r, rb.2)

section
variable {X : Cx} {ct : Nat → Addr}
/-- two operands in a row -/
theorem two {K : PySem.W.Frag} {mu : Nat → Option Addr} {fa fb : EM} {ow : OwF} {ε : SE} {σ : L2.St} {H : Hp} {ra rb : Val × SE} {d e : D} {R : V → V → Hp → Prop}
    (ea : fzE fa ε = some ra) (eb : fzE fb ra.2 = some rb) (ed : ra.1.res rb.2 = some d) (ee : rb.1.res rb.2 = some e) (S : Sim ⟨K, ct, mu⟩ ow ε σ H)
    (k : ∀ x y H2 ow2, Sim ⟨K, ct, mu⟩ ow2 rb.2 σ H2 → Fr ow H ow2 H2 → RpO ⟨K, ct, mu⟩ (cut H2 ow2) H2 x d → RpO ⟨K, ct, mu⟩ (cut H2 ow2) H2 y e → R x y H2) :
    tE K ct (fzE fa) σ H fun x H1 => tE K ct (fzE fb) σ H1 fun y H2 => R x y H2 := by
  refine ⟨mu, ow, ε, ra.1, ra.2, S, ea, fun x H1 ow1 S1 fr1 r1 => ⟨mu, ow1, ra.2, rb.1, rb.2, S1, eb, fun y H2 ow2 S2 fr2 r2 => ?_⟩⟩
  obtain ⟨va, ha, hv⟩ := fzE_some ea
  have r1' : VR ⟨K, ct, mu⟩ ow2 H1 σ H2 x ra.1 := by
    rw [hv] at r1 ⊢
    exact r1.carry fr2
  exact k x y H2 ow2 S2 (fr1.trans fr2) (VR.res S2 r1' ed) (VR.res S2 r2 ee)
end
end KD

set_option maxHeartbeats 4000000
namespace KD
open PySem L2
section
variable {X : Cx} {ct : Nat → Addr} {Γ : Gam}

/-! ### operations -/
theorem eOp_some {g : D → D → Option Val} {fa fb : EM} {ε : SE} {r : Val × SE} (h : eOp g fa fb ε = some r) :
    ∃ ra rb d e, fzE fa ε = some ra ∧ fzE fb ra.2 = some rb ∧ ra.1.res rb.2 = some d ∧ rb.1.res rb.2 = some e ∧ g d e = some r.1 ∧ r.2 = rb.2 := by
  unfold eOp at h
  cases h1 : fzE fa ε with
  | none => simp [h1] at h
  | some ra =>
    simp only [h1, Option.bind_some] at h
    cases h2 : fzE fb ra.2 with
    | none => simp [h2] at h
    | some rb =>
      simp only [h2, Option.bind_some] at h
      cases h3 : ra.1.res rb.2 with
      | none => simp [h3] at h
      | some d =>
        simp only [h3, Option.bind_some] at h
        cases h4 : rb.1.res rb.2 with
        | none => simp [h4] at h
        | some e =>
          simp only [h4, Option.bind_some] at h
          cases h5 : g d e with
          | none => simp [h5] at h
          | some v =>
            simp only [h5, Option.map_some, Option.some.injEq] at h
            exact ⟨ra, rb, d, e, rfl, h2, h3, h4, by rw [← h]; exact h5, by rw [← h]⟩
theorem op_imp {K : PySem.W.Frag} {r : R2} {g : D → D → Option Val} (hs : OpS K ct r g) {fa fb : EM} (σ : L2.St) (H : Hp) (Q : VK) (h : tE K ct (eOp g fa fb) σ H Q) :
    tOp r (tE K ct (fzE fa)) (tE K ct (fzE fb)) σ H Q := by
  obtain ⟨mu, ow, ε, val, ε', S, hf, k⟩ := h
  obtain ⟨ra, rb, d, e, e1, e2, e3, e4, e5, e6⟩ := eOp_some hf
  dsimp only at e5 e6
  subst e6
  refine two e1 e2 e3 e4 S fun x y H2 ow2 S2 fr rx ry => hs mu (cut H2 ow2) H2 x y d e val Q cut_sub rx ry e5 fun v H' hv => ?_
  obtain ⟨ow3, S3, fr3, v3⟩ := Fresh.sim S2 hv
  exact k v H' ow3 S3 (fr.trans fr3) (v3.back fun p hp => fr.none hp)
theorem de_op {op : Operator} {r : R2} {g : D → D → Option Val} {a b : Expr} {pos : Pos} {fa fb : EM} (ho : OpR X (binaryOp op) r) (hs : OpS X.K ct r g) (ha : PE X a (tE X.K ct fa)) (hb : PE X b (tE X.K ct fb)) :
    PE X (.BinOp a op b pos) (tE X.K ct (eOp g fa fb)) := (pe_op ho (de_fz ha) (de_fz hb)).imp (op_imp hs)
theorem de_cmp {op : CmpOp} {r : R2} {g : D → D → Option Val} {a b : Expr} {pos : Pos} {fa fb : EM} (ho : OpR X (compareOp op) r) (hs : OpS X.K ct r g) (ha : PE X a (tE X.K ct fa)) (hb : PE X b (tE X.K ct fb))
    (hm : behindInMarks op b = false) : PE X (.Compare a [op] [b] pos) (tE X.K ct (eOp g fa fb)) := (pe_cmpR ho (de_fz ha) (de_fz hb) hm).imp (op_imp hs)
theorem de_ix {r : R2} {g : D → D → Option Val} {a b : Expr} {pos : Pos} {fa fb : EM} (ho : IxR X r) (hs : OpS X.K ct r g) (ha : PE X a (tE X.K ct fa)) (hb : PE X b (tE X.K ct fb)) (hp : PlainIx b) :
    PE X (.Subscript a b pos) (tE X.K ct (eOp g fa fb)) := (pe_ix ho (de_fz ha) (de_fz hb) hp).imp (op_imp hs)

/-! ### tests -/
abbrev BM := SE → Option (Bool × SE)
def tT (K : PySem.W.Frag) (ct : Nat → Addr) (f : BM) : TT := fun σ H Q => ∃ mu ow ε b ε', Sim ⟨K, ct, mu⟩ ow ε σ H ∧ f ε = some (b, ε') ∧
  ∀ H' ow', Sim ⟨K, ct, mu⟩ ow' ε' σ H' → Fr ow H ow' H' → Q b H'
def toB : Val → Option Bool
  | .d (.bl b) => some b
  | _ => none
theorem toB_some {v : Val} {b : Bool} (h : toB v = some b) : v = .d (.bl b) := by
  unfold toB at h
  split at h
  · cases h; rfl
  · cases h
def eB (f : EM) : BM := fun ε => (f ε).bind fun r => (toB r.1).map fun b => (b, r.2)
theorem eB_some {f : EM} {ε : SE} {r : Bool × SE} (h : eB f ε = some r) : f ε = some (.d (.bl r.1), r.2) := by
  unfold eB at h
  cases e : f ε with
  | none => simp [e] at h
  | some x =>
    simp only [e, Option.bind_some] at h
    cases e2 : toB x.1 with
    | none => simp [e2] at h
    | some b =>
      simp only [e2, Option.map_some, Option.some.injEq] at h
      subst h
      have := toB_some e2
      rw [← this]
theorem rp_bl {F : Hp} {v : V} {b : Bool} (h : Rp Γ F v (.bl b)) : v = .bl b := by cases h; rfl
theorem test_imp {K : PySem.W.Frag} {f : EM} {t : TE} (i : ∀ σ H Q, tE K ct f σ H Q → t σ H Q) (σ : L2.St) (H : Hp) (Q : Bool → Hp → Prop) (h : tT K ct (eB f) σ H Q) : tTest t σ H Q := by
  obtain ⟨mu, ow, ε, b, ε', S, hf, k⟩ := h
  have e := eB_some hf
  exact i σ H _ ⟨mu, ow, ε, _, ε', S, e, fun v H' ow' S' fr r => ⟨b, rp_bl r, k H' ow' S' fr⟩⟩
theorem dt_cmp {op : CmpOp} {r : R2} {g : D → D → Option Val} {a b : Expr} {pos : Pos} {fa fb : EM} (ho : OpR X (compareOp op) r) (hs : OpS X.K ct r g) (ha : PE X a (tE X.K ct fa)) (hb : PE X b (tE X.K ct fb))
    (hm : behindInMarks op b = false) : PT X (.Compare a [op] [b] pos) (tT X.K ct (eB (eOp g fa fb))) := (pt_cmpR ho (de_fz ha) (de_fz hb) hm).imp (test_imp (op_imp hs))
theorem dt_val {a : Expr} {f : EM} (h : PE X a (tE X.K ct f)) (he : ∀ whole, isTrue a X.env whole = (do let v ← whole; standAt a.pos; holding [v] (truthy v)) := by intro _; rfl) : PT X a (tT X.K ct (eB f)) :=
  (pt_val h he).imp (test_imp fun _ _ _ x => x)
def notB (f : BM) : BM := fun ε => (f ε).map fun r => (!r.1, r.2)
def andB (f g : BM) : BM := fun ε => (f ε).bind fun r => if r.1 = true then g r.2 else some (false, r.2)
def orB (f g : BM) : BM := fun ε => (f ε).bind fun r => if r.1 = true then some (true, r.2) else g r.2
theorem dt_not {a : Expr} {pos : Pos} {f : BM} (h : PT X a (tT X.K ct f)) : PT X (.UnaryOp .Not a pos) (tT X.K ct (notB f)) := (pt_not h).imp fun σ H Q ⟨mu, ow, ε, b, ε', S, hf, k⟩ => by
  unfold notB at hf
  cases e : f ε with
  | none => simp [e] at hf
  | some r =>
    simp only [e, Option.map_some, Option.some.injEq, Prod.mk.injEq] at hf
    obtain ⟨e1, e2⟩ := hf
    subst e1 e2
    exact ⟨mu, ow, ε, r.1, r.2, S, e, fun H' ow' S' fr => k H' ow' S' fr⟩
theorem tT_then {K : PySem.W.Frag} {f : BM} {mu : Nat → Option Addr} {ow : OwF} {ε : SE} {σ : L2.St} {H : Hp} {r : Bool × SE} {P : Bool → Hp → Prop} (e : f ε = some r) (S : Sim ⟨K, ct, mu⟩ ow ε σ H)
    (k : ∀ H1 ow1, Sim ⟨K, ct, mu⟩ ow1 r.2 σ H1 → Fr ow H ow1 H1 → P r.1 H1) : tT K ct f σ H P := ⟨mu, ow, ε, r.1, r.2, S, e, k⟩
theorem dw_and {a b : Expr} {rest : List Expr} {pos : Pos} {f g : BM} (h : PT X a (tT X.K ct f)) (h2 : PW X (.BoolOp .And (b :: rest) pos) (tT X.K ct g)) : PW X (.BoolOp .And (a :: b :: rest) pos) (tT X.K ct (andB f g)) := by
  have q := pw_and h h2
  refine ⟨fun whole pins s σ H Q I hw => q.run whole pins s σ H Q I ?_⟩
  obtain ⟨mu, ow, ε, b', ε', S, hf, k⟩ := hw
  unfold andB at hf
  cases e : f ε with
  | none => simp [e] at hf
  | some r =>
    simp only [e, Option.bind_some] at hf
    refine tT_then e S fun H1 ow1 S1 fr1 => ?_
    by_cases c : r.1 = true
    · rw [if_pos c] at hf
      show if r.1 = true then _ else _
      rw [if_pos c]
      exact ⟨mu, ow1, r.2, b', ε', S1, hf, fun H2 ow2 S2 fr2 => k H2 ow2 S2 (fr1.trans fr2)⟩
    · rw [if_neg c] at hf
      cases hf
      show if r.1 = true then _ else _
      rw [if_neg c]
      exact k H1 ow1 S1 fr1
theorem dw_or {a b : Expr} {rest : List Expr} {pos : Pos} {f g : BM} (h : PT X a (tT X.K ct f)) (h2 : PW X (.BoolOp .Or (b :: rest) pos) (tT X.K ct g)) : PW X (.BoolOp .Or (a :: b :: rest) pos) (tT X.K ct (orB f g)) := by
  have q := pw_or h h2
  refine ⟨fun whole pins s σ H Q I hw => q.run whole pins s σ H Q I ?_⟩
  obtain ⟨mu, ow, ε, b', ε', S, hf, k⟩ := hw
  unfold orB at hf
  cases e : f ε with
  | none => simp [e] at hf
  | some r =>
    simp only [e, Option.bind_some] at hf
    refine tT_then e S fun H1 ow1 S1 fr1 => ?_
    by_cases c : r.1 = true
    · rw [if_pos c] at hf
      cases hf
      show if r.1 = true then _ else _
      rw [if_pos c]
      exact k H1 ow1 S1 fr1
    · rw [if_neg c] at hf
      show if r.1 = true then _ else _
      rw [if_neg c]
      exact ⟨mu, ow1, r.2, b', ε', S1, hf, fun H2 ow2 S2 fr2 => k H2 ow2 S2 (fr1.trans fr2)⟩
theorem dw_and1 {a : Expr} {pos : Pos} {f : BM} (h : PT X a (tT X.K ct f)) : PW X (.BoolOp .And [a] pos) (tT X.K ct f) := pw_and1 h
theorem dw_or1 {a : Expr} {pos : Pos} {f : BM} (h : PT X a (tT X.K ct f)) : PW X (.BoolOp .Or [a] pos) (tT X.K ct f) := pw_or1 h

/-- and, or, not as values (all but the last True or False) -/
def ofB (f : BM) : EM := fun ε => (f ε).map fun r => (.d (.bl r.1), r.2)
def andE (f : EM) (g : EM) : EM := fun ε => (eB f ε).bind fun r => if r.1 = true then g r.2 else some (.d (.bl false), r.2)
def orE (f : EM) (g : EM) : EM := fun ε => (eB f ε).bind fun r => if r.1 = true then some (.d (.bl true), r.2) else g r.2
theorem de_one {op : BoolOp} {a : Expr} {pos : Pos} {f : EM} (h : PE X a (tE X.K ct f)) : PE X (.BoolOp op [a] pos) (tE X.K ct f) := pe_one h
theorem de_and {a b : Expr} {rest : List Expr} {pos : Pos} {f g : EM} (h : PE X a (tE X.K ct f)) (h2 : PE X (.BoolOp .And (b :: rest) pos) (tE X.K ct g)) : PE X (.BoolOp .And (a :: b :: rest) pos) (tE X.K ct (andE f g)) :=
  (pe_and h h2).imp fun σ H Q ⟨mu, ow, ε, val, ε', S, hf, k⟩ => by
    unfold andE at hf
    cases e : eB f ε with
    | none => simp [e] at hf
    | some r =>
      simp only [e, Option.bind_some] at hf
      refine ⟨mu, ow, ε, _, _, S, eB_some e, fun x H1 ow1 S1 fr1 r1 => ⟨r.1, rp_bl r1, ?_⟩⟩
      by_cases c : r.1 = true
      · rw [if_pos c] at hf ⊢
        exact ⟨mu, ow1, r.2, val, ε', S1, hf, fun v H2 ow2 S2 fr2 r2 => k v H2 ow2 S2 (fr1.trans fr2) (r2.back fun p hp => fr1.none hp)⟩
      · rw [if_neg c] at hf ⊢
        cases hf
        exact k _ H1 ow1 S1 fr1 (.bl false)
theorem de_or {a b : Expr} {rest : List Expr} {pos : Pos} {f g : EM} (h : PE X a (tE X.K ct f)) (h2 : PE X (.BoolOp .Or (b :: rest) pos) (tE X.K ct g)) : PE X (.BoolOp .Or (a :: b :: rest) pos) (tE X.K ct (orE f g)) :=
  (pe_or h h2).imp fun σ H Q ⟨mu, ow, ε, val, ε', S, hf, k⟩ => by
    unfold orE at hf
    cases e : eB f ε with
    | none => simp [e] at hf
    | some r =>
      simp only [e, Option.bind_some] at hf
      refine ⟨mu, ow, ε, _, _, S, eB_some e, fun x H1 ow1 S1 fr1 r1 => ⟨r.1, rp_bl r1, ?_⟩⟩
      by_cases c : r.1 = true
      · rw [if_pos c] at hf ⊢
        cases hf
        exact k _ H1 ow1 S1 fr1 (.bl true)
      · rw [if_neg c] at hf ⊢
        exact ⟨mu, ow1, r.2, val, ε', S1, hf, fun v H2 ow2 S2 fr2 r2 => k v H2 ow2 S2 (fr1.trans fr2) (r2.back fun p hp => fr1.none hp)⟩
def notE (f : EM) : EM := fun ε => (eB f ε).map fun r => (.d (.bl (!r.1)), r.2)
theorem de_not {a : Expr} {pos : Pos} {f : EM} (h : PE X a (tE X.K ct f)) : PE X (.UnaryOp .Not a pos) (tE X.K ct (notE f)) := (pe_not h).imp fun σ H Q ⟨mu, ow, ε, val, ε', S, hf, k⟩ => by
  unfold notE at hf
  cases e : eB f ε with
  | none => simp [e] at hf
  | some r =>
    simp only [e, Option.map_some, Option.some.injEq, Prod.mk.injEq] at hf
    obtain ⟨e1, e2⟩ := hf
    subst e1 e2
    exact ⟨mu, ow, ε, _, _, S, eB_some e, fun x H1 ow1 S1 fr1 r1 => ⟨r.1, rp_bl r1, k _ H1 ow1 S1 fr1 (.bl _)⟩⟩
def ifE (c : BM) (f g : EM) : EM := fun ε => (c ε).bind fun r => if r.1 = true then f r.2 else g r.2
theorem de_if {c a b : Expr} {pos : Pos} {tc : BM} {f g : EM} (hc : PT X c (tT X.K ct tc)) (ha : PE X a (tE X.K ct f)) (hb : PE X b (tE X.K ct g)) : PE X (.IfExp c a b pos) (tE X.K ct (ifE tc f g)) :=
  (pe_ifExp hc ha hb).imp fun σ H Q ⟨mu, ow, ε, val, ε', S, hf, k⟩ => by
    unfold ifE at hf
    cases e : tc ε with
    | none => simp [e] at hf
    | some r =>
      simp only [e, Option.bind_some] at hf
      refine tT_then e S fun H1 ow1 S1 fr1 => ?_
      by_cases c : r.1 = true
      · rw [if_pos c] at hf ⊢
        exact ⟨mu, ow1, r.2, val, ε', S1, hf, fun v H2 ow2 S2 fr2 r2 => k v H2 ow2 S2 (fr1.trans fr2) (r2.back fun p hp => fr1.none hp)⟩
      · rw [if_neg c] at hf ⊢
        exact ⟨mu, ow1, r.2, val, ε', S1, hf, fun v H2 ow2 S2 fr2 r2 => k v H2 ow2 S2 (fr1.trans fr2) (r2.back fun p hp => fr1.none hp)⟩
/-- the truth of a datum -/
def truD : D → Option Bool
  | .non => some false
  | .bl b => some b
  | .int i => some (i != 0)
  | .str s => some ((s.length : Int) != 0)
  | .tup l => some (!l.isEmpty)
  | .lst l => some (!l.isEmpty)
  | .dct ks _ => some (!ks.isEmpty)
  | _ => none
def truB (f : EM) : BM := fun ε => (fzE f ε).bind fun r => (r.1.res r.2).bind fun d => (truD d).map fun b => (b, r.2)
theorem isEmpty_len {α β : Type} {l : List α} {m : List β} (h : l.length = m.length) : l.isEmpty = m.isEmpty := by
  cases l <;> cases m <;> simp_all
theorem isEmpty_zip {α β : Type} {l : List α} {m : List β} (h : m.length = l.length) : (l.zip m).isEmpty = l.isEmpty := by
  cases l <;> cases m <;> simp_all
theorem tru_of {F H : Hp} {x : V} {d : D} {k : Bool} (sb : Sub F H) (r : RpO Γ F H x d) (h : truD d = some k) : TruV Γ.K x H k := by
  have r' := r.up sb
  cases d with
  | non => cases r'; cases h; rfl
  | bl b => cases r'; cases h; rfl
  | int i => cases r'; cases h; rfl
  | str s =>
    cases r' with
    | str _ hs =>
      cases h
      exact ⟨by rw [sizeLine_eq]; exact of_decide_eq_true (Bool.and_eq_true_iff.mp hs).2, rfl⟩
  | tup l => cases r' with | tup hs ha _ => cases h; exact .inr (.inl ⟨_, hs.sqt, by rw [isEmpty_len ha.length]⟩)
  | pair l => cases h
  | lst l => cases r' with | lst hs ha _ => cases h; exact .inl ⟨_, .of hs, by rw [isEmpty_len ha.length]⟩
  | scr l => cases h
  | ins _ _ _ => cases h
  | ptr _ => cases h
  | cls _ => cases h
  | rng _ _ => cases h
  | exc _ _ _ => cases h
  | dct ks l => cases r' with | dct hs hl ha => cases h; exact .inr (.inr ⟨_, hs, by rw [isEmpty_zip hl]⟩)
  | dcl ks l => cases h
theorem dt_tru {a : Expr} {f : EM} (h : PE X a (tE X.K ct f)) (he : ∀ whole, isTrue a X.env whole = (do let v ← whole; standAt a.pos; holding [v] (truthy v)) := by intro _; rfl) : PT X a (tT X.K ct (truB f)) :=
  (pt_truth (de_fz h) he).imp fun σ H Q ⟨mu, ow, ε, b, ε', S, hf, k⟩ => by
    unfold truB at hf
    cases e : fzE f ε with
    | none => simp [e] at hf
    | some r =>
      simp only [e, Option.bind_some] at hf
      cases e2 : r.1.res r.2 with
      | none => simp [e2] at hf
      | some d =>
        simp only [e2, Option.bind_some] at hf
        cases e3 : truD d with
        | none => simp [e3] at hf
        | some b' =>
          simp only [e3, Option.map_some, Option.some.injEq, Prod.mk.injEq] at hf
          obtain ⟨rfl, rfl⟩ := hf
          exact ⟨mu, ow, ε, r.1, r.2, S, e, fun v H1 ow1 S1 fr1 r1 => ⟨b', tru_of (Γ := ⟨X.K, ct, mu⟩) cut_sub (VR.res S1 r1 e2) e3, k H1 ow1 S1 fr1⟩⟩
end
end KD

set_option maxHeartbeats 4000000
namespace KD
open PySem L2
section
variable {X : Cx} {ct : Nat → Addr} {Γ : Gam}

/-! ### argument lists -/
def VRs (Γ : Gam) (ow : OwF) (H0 : Hp) (σ : L2.St) (H : Hp) : List V → List Val → Prop
  | [], [] => True
  | v :: vs, a :: as => VR Γ ow H0 σ H v (fzv a) ∧ VRs Γ ow H0 σ H vs as
  | _, _ => False
def fzs (l : List Val) : List Val := l.map fzv
theorem fzv_fzv (v : Val) : fzv (fzv v) = fzv v := by cases v <;> rfl
theorem VRs.carry {ow ow' : OwF} {σ : L2.St} {H H' H0 H0' : Hp} (fr : Fr ow H ow' H') : ∀ {vs : List V} {as : List Val}, VRs Γ ow H0 σ H vs as → VRs Γ ow' H0' σ H' vs as
  | [], [], _ => trivial
  | v :: vs, a :: as, h => ⟨h.1.carry fr, VRs.carry fr h.2⟩
  | [], _ :: _, h => h
  | _ :: _, [], h => h
/-- an argument list's reading: all values frozen (or aliases of owned slots) -/
def tA (K : PySem.W.Frag) (ct : Nat → Addr) (f : AM) : TA := fun σ H Q => ∃ mu ow ε vals ε', Sim ⟨K, ct, mu⟩ ow ε σ H ∧ f ε = some (vals, ε') ∧
  ∀ vs H' ow', Sim ⟨K, ct, mu⟩ ow' ε' σ H' → Fr ow H ow' H' → VRs ⟨K, ct, mu⟩ ow' H' σ H' vs vals → Q vs H'
def aNil : AM := fun ε => some ([], ε)
def aCons (f : EM) (g : AM) : AM := fun ε => (fzE f ε).bind fun r => (g r.2).map fun q => (r.1 :: q.1, q.2)
theorem aCons_some {f : EM} {g : AM} {ε : SE} {r : List Val × SE} (h : aCons f g ε = some r) : ∃ ra rb, fzE f ε = some ra ∧ g ra.2 = some rb ∧ r = (ra.1 :: rb.1, rb.2) := by
  unfold aCons at h
  cases e : fzE f ε with
  | none => simp [e] at h
  | some ra =>
    simp only [e, Option.bind_some] at h
    cases e2 : g ra.2 with
    | none => simp [e2] at h
    | some rb => simp only [e2, Option.map_some, Option.some.injEq] at h; exact ⟨ra, rb, rfl, e2, h.symm⟩
theorem da_nil : PA X [] (tA X.K ct aNil) := pa_nil.imp fun σ H Q ⟨mu, ow, ε, vals, ε', S, hf, k⟩ => by
  cases hf
  exact k [] H ow S Fr.refl trivial
theorem da_cons {e : Expr} {es : List Expr} {f : EM} {g : AM} (h : PE X e (tE X.K ct f)) (h2 : PA X es (tA X.K ct g)) (hs : starEach (e :: es) X.env = (false, eval e X.env) :: starEach es X.env := by rfl) : PA X (e :: es) (tA X.K ct (aCons f g)) :=
  (pa_cons (de_fz h) h2 hs).imp fun σ H Q ⟨mu, ow, ε, vals, ε', S, hf, k⟩ => by
    obtain ⟨ra, rb, e1, e2, e3⟩ := aCons_some hf
    cases e3
    refine ⟨mu, ow, ε, ra.1, ra.2, S, e1, fun x H1 ow1 S1 fr1 r1 => ⟨mu, ow1, ra.2, rb.1, rb.2, S1, e2, fun xs H2 ow2 S2 fr2 r2 => k (x :: xs) H2 ow2 S2 (fr1.trans fr2) ⟨?_, r2⟩⟩⟩
    obtain ⟨va, ha, hv⟩ := fzE_some e1
    rw [hv] at r1 ⊢
    rw [fzv_fzv]
    exact r1.carry fr2
def resL (ε : SE) : List Val → Option (List D)
  | [] => some []
  | v :: vs => (v.res ε).bind fun d => (resL ε vs).map fun ds => d :: ds
theorem resL_cons {ε : SE} {v : Val} {vs : List Val} {ds : List D} (h : resL ε (v :: vs) = some ds) : ∃ d es, v.res ε = some d ∧ resL ε vs = some es ∧ ds = d :: es := by
  unfold resL at h
  cases e : v.res ε with
  | none => simp [e] at h
  | some d =>
    simp only [e, Option.bind_some] at h
    cases e2 : resL ε vs with
    | none => simp [e2] at h
    | some es => simp only [e2, Option.map_some, Option.some.injEq] at h; exact ⟨d, es, rfl, rfl, h.symm⟩
theorem fzv_res {ε : SE} (v : Val) : (fzv v).res ε = v.res ε := by
  cases v with
  | new m => cases m <;> rfl
  | d _ => rfl
  | old _ => rfl
theorem VRs.res {ow : OwF} {ε : SE} {σ : L2.St} {H H0 : Hp} (S : Sim Γ ow ε σ H) : ∀ {vs : List V} {as : List Val} {ds : List D}, VRs Γ ow H0 σ H vs as → resL ε as = some ds → Paired (RpO Γ (cut H ow) H) vs ds
  | [], [], ds, _, e => by cases e; exact .nil
  | v :: vs, a :: as, ds, h, e => by
    obtain ⟨d, es, h1, h2, rfl⟩ := resL_cons e
    exact .cons (VR.res S h.1 (by rw [fzv_res]; exact h1)) (VRs.res S h.2 h2)
  | [], _ :: _, _, h, _ => h.elim
  | _ :: _, [], _, h, _ => h.elim

/-! ### built-in functions, methods that change nothing -/
def CallS (K : PySem.W.Frag) (ct : Nat → Addr) (r : List V → Hp → VK → Prop) (g : List D → Option Val) : Prop :=
  ∀ (mu : Nat → Option Addr) (F H : Hp) (xs : List V) (ds : List D) (val : Val) (Q : VK), Sub F H → Paired (RpO ⟨K, ct, mu⟩ F H) xs ds → g ds = some val → (∀ v H', Fresh ⟨K, ct, mu⟩ F H v H' val → Q v H') → r xs H Q
def eCB (g : List D → Option Val) (f : AM) : EM := fun ε => (f ε).bind fun r => (resL r.2 r.1).bind fun ds => (g ds).map fun v => (v, r.2)
theorem eCB_some {g : List D → Option Val} {f : AM} {ε : SE} {r : Val × SE} (h : eCB g f ε = some r) : ∃ ra ds, f ε = some ra ∧ resL ra.2 ra.1 = some ds ∧ g ds = some r.1 ∧ r.2 = ra.2 := by
  unfold eCB at h
  cases e : f ε with
  | none => simp [e] at h
  | some ra =>
    simp only [e, Option.bind_some] at h
    cases e2 : resL ra.2 ra.1 with
    | none => simp [e2] at h
    | some ds =>
      simp only [e2, Option.bind_some] at h
      cases e3 : g ds with
      | none => simp [e3] at h
      | some v => simp only [e3, Option.map_some, Option.some.injEq] at h; exact ⟨ra, ds, rfl, e2, by rw [← h]; exact e3, by rw [← h]⟩
theorem cb_imp {r : List V → Hp → VK → Prop} {g : List D → Option Val} {K : PySem.W.Frag} (hs : CallS K ct r g) {f : AM} (σ : L2.St) (H : Hp) (Q : VK) (h : tE K ct (eCB g f) σ H Q) : tCB r (tA K ct f) σ H Q := by
  obtain ⟨mu, ow, ε, val, ε', S, hf, k⟩ := h
  obtain ⟨ra, ds, e1, e2, e3, e4⟩ := eCB_some hf
  dsimp only at e3 e4
  subst e4
  refine ⟨mu, ow, ε, ra.1, ra.2, S, e1, fun vs H1 ow1 S1 fr1 r1 => hs mu (cut H1 ow1) H1 vs ds val Q cut_sub (VRs.res S1 r1 e2) e3 fun v H' hv => ?_⟩
  obtain ⟨ow3, S3, fr3, v3⟩ := Fresh.sim S1 hv
  exact k v H' ow3 S3 (fr1.trans fr3) (v3.back fun p hp => fr1.none hp)
theorem de_callB {id : String} {x : Str} {p pos : Pos} {e : Expr} {es : List Expr} {f : AM} {r : List V → Hp → VK → Prop} {g : List D → Option Val} (hs : CallS X.K ct r g) (hc : CallR X (.builtin id) r) (ha : PA X (e :: es) (tA X.K ct f)) (hm : X.mg x = none) (hg : Gl X x := by rfl)
    (hv : bootBuiltins x = some (.builtin id) := by decide +kernel) (hn : x ≠ "__name__" := by decide) (hdb : (x == ("__debug__" : Str)) = false := by decide)
    (he : starEach (e :: es) X.env = (false, eval e X.env) :: starEach es X.env := by rfl) (hpl : (backTo pos (starEach es X.env)).any (·.1) = false := by rfl) : PE X (.Call (.Name x p) (e :: es) [] pos) (tE X.K ct (eCB g f)) :=
  (pe_callB hc hg hm hv ha hn hdb he hpl).imp (cb_imp hs)
theorem de_callTy {T : String} {x : Str} {p pos : Pos} {e : Expr} {es : List Expr} {f : AM} {r : List V → Hp → VK → Prop} {g : List D → Option Val} (hs : CallS X.K ct r g) (hc : CallR X (.type T) r) (ha : PA X (e :: es) (tA X.K ct f)) (hm : X.mg x = none) (hg : Gl X x := by rfl)
    (hv : bootBuiltins x = some (.type T) := by decide +kernel) (hn : x ≠ "__name__" := by decide) (hdb : (x == ("__debug__" : Str)) = false := by decide)
    (he : starEach (e :: es) X.env = (false, eval e X.env) :: starEach es X.env := by rfl) (hpl : (backTo pos (starEach es X.env)).any (·.1) = false := by rfl) : PE X (.Call (.Name x p) (e :: es) [] pos) (tE X.K ct (eCB g f)) :=
  (pe_callTy hc hg hm hv ha hn hdb he hpl).imp (cb_imp hs)
/-- a method that changes nothing: the object, then the arguments -/
def MtS (K : PySem.W.Frag) (ct : Nat → Addr) (T : String) (r : V → List V → Hp → VK → Prop) (g : D → List D → Option Val) : Prop :=
  ∀ (mu : Nat → Option Addr) (F H : Hp) (x : V) (xs : List V) (d : D) (ds : List D) (val : Val) (Q : VK), Sub F H → RpO ⟨K, ct, mu⟩ F H x d → Paired (RpO ⟨K, ct, mu⟩ F H) xs ds → g d ds = some val → (∀ v H', Fresh ⟨K, ct, mu⟩ F H v H' val → Q v H') → r x xs H Q
def TyS (K : PySem.W.Frag) (ct : Nat → Addr) (T : String) (p : D → Bool) : Prop := ∀ (mu : Nat → Option Addr) (F H : Hp) (x : V) (d : D), Sub F H → RpO ⟨K, ct, mu⟩ F H x d → p d = true → tyV K T x H
def eBM (p : D → Bool) (g : D → List D → Option Val) (fo : EM) (f : AM) : EM := fun ε => (fzE fo ε).bind fun ro => (ro.1.res ro.2).bind fun d0 => if p d0 = true then
  (f ro.2).bind fun r => (ro.1.res r.2).bind fun d => (resL r.2 r.1).bind fun ds => (g d ds).map fun v => (v, r.2) else none
theorem eBM_some {p : D → Bool} {g : D → List D → Option Val} {fo : EM} {f : AM} {ε : SE} {r : Val × SE} (h : eBM p g fo f ε = some r) :
    ∃ ro d0 ra d ds, fzE fo ε = some ro ∧ ro.1.res ro.2 = some d0 ∧ p d0 = true ∧ f ro.2 = some ra ∧ ro.1.res ra.2 = some d ∧ resL ra.2 ra.1 = some ds ∧ g d ds = some r.1 ∧ r.2 = ra.2 := by
  unfold eBM at h
  cases e : fzE fo ε with
  | none => simp [e] at h
  | some ro =>
    simp only [e, Option.bind_some] at h
    cases e0 : ro.1.res ro.2 with
    | none => simp [e0] at h
    | some d0 =>
      simp only [e0, Option.bind_some] at h
      by_cases hp : p d0 = true
      · rw [if_pos hp] at h
        cases e1 : f ro.2 with
        | none => simp [e1] at h
        | some ra =>
          simp only [e1, Option.bind_some] at h
          cases e2 : ro.1.res ra.2 with
          | none => simp [e2] at h
          | some d =>
            simp only [e2, Option.bind_some] at h
            cases e3 : resL ra.2 ra.1 with
            | none => simp [e3] at h
            | some ds =>
              simp only [e3, Option.bind_some] at h
              cases e4 : g d ds with
              | none => simp [e4] at h
              | some v =>
                simp only [e4, Option.map_some, Option.some.injEq] at h
                exact ⟨ro, d0, ra, d, ds, rfl, e0, hp, e1, e2, e3, by rw [← h]; exact e4, by rw [← h]⟩
      · rw [if_neg hp] at h; cases h
theorem de_bm {T id : String} {name : Str} {o e : Expr} {es : List Expr} {apos cpos : Pos} {fo : EM} {f : AM} {r : V → List V → Hp → VK → Prop} {p : D → Bool} {g : D → List D → Option Val}
    (ty : TyS X.K ct T p) (hs : MtS X.K ct T r g) (pa : PlainAttrs T) (slot : Slot T name id) (hty : typeOf (.builtin id) = pure (.type "method_descriptor")) (hm : MtR X id r) (ho : PE X o (tE X.K ct fo)) (ha : PA X (e :: es) (tA X.K ct f))
    (hbase : attributeBase o name X.env (eval o X.env) = eval o X.env := by rfl)
    (hfew : ((backTo cpos (starEach (e :: es) X.env)).all (fun x => !x.1) && (backToKw cpos (keywordEach [] X.env)).all (fun x => x.1.isSome)
      && decide ((e :: es).length + ([] : List Keyword).length + (if ([] : List Keyword).isEmpty then 0 else 1) < 30)) = true := by rfl)
    (hline : (apos.endLine == cpos.line) = true := by rfl) (hss : starEach (e :: es) X.env = (false, eval e X.env) :: starEach es X.env := by rfl) (hplain : (backTo cpos (starEach es X.env)).any (·.1) = false := by rfl) :
    PE X (.Call (.Attribute o name apos) (e :: es) [] cpos) (tE X.K ct (eBM p g fo f)) :=
  (pe_bm pa slot hty hm (de_fz ho) ha hbase hfew hline hss hplain).imp fun σ H Q ⟨mu, ow, ε, val, ε', S, hf, k⟩ => by
    obtain ⟨ro, d0, ra, d, ds, e1, e2, e3, e4, e5, e6, e7, e8⟩ := eBM_some hf
    dsimp only at e7 e8
    subst e8
    refine ⟨mu, ow, ε, ro.1, ro.2, S, e1, fun x H1 ow1 S1 fr1 r1 => ⟨ty mu (cut H1 ow1) H1 x d0 cut_sub (VR.res S1 r1 e2) e3, mu, ow1, ro.2, ra.1, ra.2, S1, e4, fun xs H2 ow2 S2 fr2 r2 => ?_⟩⟩
    obtain ⟨va, ha, hv⟩ := fzE_some e1
    have r1' : VR ⟨X.K, ct, mu⟩ ow2 H2 σ H2 x ro.1 := by
      rw [hv] at r1 ⊢
      exact r1.carry fr2
    refine hs mu (cut H2 ow2) H2 x xs d ds val Q cut_sub (VR.res S2 r1' e5) (VRs.res S2 r2 e6) e7 fun v H' hv => ?_
    obtain ⟨ow3, S3, fr3, v3⟩ := Fresh.sim S2 hv
    exact k v H' ow3 S3 ((fr1.trans fr2).trans fr3) (v3.back fun p hp => (fr1.trans fr2).none hp)
def eBM0 (p : D → Bool) (g : D → List D → Option Val) (fo : EM) : EM := eBM p g fo aNil
theorem de_bm0 {T id : String} {name : Str} {o : Expr} {apos cpos : Pos} {fo : EM} {r : V → List V → Hp → VK → Prop} {p : D → Bool} {g : D → List D → Option Val}
    (ty : TyS X.K ct T p) (hs : MtS X.K ct T r g) (pa : PlainAttrs T) (slot : Slot T name id) (hty : typeOf (.builtin id) = pure (.type "method_descriptor")) (hm : MtR X id r) (ho : PE X o (tE X.K ct fo))
    (hbase : attributeBase o name X.env (eval o X.env) = eval o X.env := by rfl) (hline : (apos.endLine == cpos.line) = true := by rfl) :
    PE X (.Call (.Attribute o name apos) [] [] cpos) (tE X.K ct (eBM0 p g fo)) :=
  (pe_bm0 pa slot hty hm (de_fz ho) hbase hline).imp fun σ H Q ⟨mu, ow, ε, val, ε', S, hf, k⟩ => by
    obtain ⟨ro, d0, ra, d, ds, e1, e2, e3, e4, e5, e6, e7, e8⟩ := eBM_some hf
    cases e4
    cases e6
    dsimp only at e7 e8
    subst e8
    refine ⟨mu, ow, ε, ro.1, ro.2, S, e1, fun x H1 ow1 S1 fr1 r1 => ⟨ty mu (cut H1 ow1) H1 x d0 cut_sub (VR.res S1 r1 e2) e3, ?_⟩⟩
    refine hs mu (cut H1 ow1) H1 x [] d [] val Q cut_sub (VR.res S1 r1 e5) .nil e7 fun v H' hv => ?_
    obtain ⟨ow3, S3, fr3, v3⟩ := Fresh.sim S1 hv
    exact k v H' ow3 S3 (fr1.trans fr3) (v3.back fun p hp => fr1.none hp)

/-! ### values that leave a slot: an owned list is frozen then -/
def setS (ε : SE) (i : Nat) (s : Sl) : SE := { ε with sl := ε.sl.set i s }
/-- the datum of a frozen value, its slot frozen if it was an alias -/
def escV (ε : SE) : Val → Option (D × SE)
  | .d x => some (x, ε)
  | .new m => some (m.toD, ε)
  | .old i => match ε.sl[i]? with
    | some (.own m) => some (m.toD, setS ε i (.d m.toD))
    | some (.d x) => some (x, ε)
    | _ => none
theorem Sim.freezeSlot {ow : OwF} {ε : SE} {σ : L2.St} {H : Hp} {i : Nat} {m : MO} {p : Addr} (S : Sim Γ ow ε σ H) (hs : ε.sl[i]? = some (.own m)) (hp : σ[i]? = some (some (.ref p))) :
    Sim Γ (setO ow p none) (setS ε i (.d m.toD)) σ H ∧ Rp Γ (cut H (setO ow p none)) (.ref p) m.toD ∧ ow p = some (.slot i) := by
  obtain ⟨p', h1, h2, h3⟩ := S.so i m hs
  rw [hp] at h1
  cases h1
  have s : Sub (cut H ow) (cut H (setO ow p none)) := fun a o h => by
    obtain ⟨h1, h2'⟩ := cut_of h
    have n : a ≠ p := by rintro rfl; rw [h2] at h1; cases h1
    exact cut_mk (by rw [setO_ne n]; exact h1) h2'
  have rp : Rp Γ (cut H (setO ow p none)) (.ref p) m.toD := ObjR.rp h3 s fun o e => cut_mk setO_same e
  have hil : i < ε.sl.length := (List.getElem?_eq_some_iff.mp hs).1
  refine ⟨⟨by rw [S.len]; show _ = (ε.sl.set i _).length; rw [List.length_set], fun j d e => ?_, fun j m' e => ?_, fun n m' e => ?_⟩, rp, h2⟩
  · have e' : (ε.sl.set i (.d m.toD))[j]? = some (.d d) := e
    by_cases hj : i = j
    · subst hj
      rw [List.getElem?_set_self hil] at e'
      cases e'
      exact ⟨_, hp, rp⟩
    · rw [List.getElem?_set_ne hj] at e'
      obtain ⟨v, q1, q2⟩ := S.sd j d e'
      exact ⟨v, q1, q2.mono s⟩
  · have e' : (ε.sl.set i (.d m.toD))[j]? = some (.own m') := e
    by_cases hj : i = j
    · subst hj
      rw [List.getElem?_set_self hil] at e'
      cases e'
    · rw [List.getElem?_set_ne hj] at e'
      obtain ⟨q, q1, q2, q3⟩ := S.so j m' e'
      have n : q ≠ p := by rintro rfl; rw [h2] at q2; cases q2; exact hj rfl
      exact ⟨q, q1, by rw [setO_ne n]; exact q2, ObjR.mono q3 s fun _ e => e⟩
  · obtain ⟨q, q1, q2, q3⟩ := S.mo n m' e
    have n : q ≠ p := by rintro rfl; rw [h2] at q2; cases q2
    exact ⟨q, q1, by rw [setO_ne n]; exact q2, ObjR.mono q3 s fun _ e => e⟩
theorem Fr.unslot {ow : OwF} {H : Hp} {p : Addr} {i : Nat} {w : Option Ow} (h : ow p = some (.slot i)) : Fr ow H (setO ow p w) H := by
  have ne : ∀ a w', ow a = w' → w' ≠ some (.slot i) → a ≠ p := fun a w' e n z => by subst z; exact n (e.symm.trans h)
  refine ⟨fun a o h' e => ⟨by rw [setO_ne (ne a _ e (by simp))]; exact e, h'⟩, fun a o w' h' e q => ⟨?_, h'⟩, fun a o h' => ⟨o, h'⟩, fun a o n h' e => ?_⟩
  · rw [setO_ne (ne a _ e (by rcases q with rfl | rfl <;> simp))]; exact e
  · rw [setO_ne (ne a _ e (by simp))]; exact e
theorem VR.esc {ow : OwF} {ε ε' : SE} {σ : L2.St} {H H0 : Hp} {v : V} {val : Val} {d : D} (S : Sim Γ ow ε σ H) (h : VR Γ ow H0 σ H v (fzv val)) (e : escV ε (fzv val) = some (d, ε')) :
    ∃ ow', Sim Γ ow' ε' σ H ∧ Fr ow H ow' H ∧ Rp Γ (cut H ow') v d := by
  cases val with
  | d x => cases e; exact ⟨ow, S, Fr.refl, h⟩
  | new m => cases e; exact ⟨ow, S, Fr.refl, h⟩
  | old i =>
    have h' : σ[i]? = some (some v) := h
    have e' : (match ε.sl[i]? with | some (.own m) => some (m.toD, setS ε i (.d m.toD)) | some (.d x) => some (x, ε) | _ => none) = some (d, ε') := e
    split at e'
    · rename_i m hm
      cases e'
      obtain ⟨p, h1, _, _⟩ := S.so i m hm
      rw [h'] at h1
      cases h1
      obtain ⟨S2, rp, ho⟩ := S.freezeSlot hm h'
      exact ⟨_, S2, Fr.unslot ho, rp⟩
    · rename_i x hx
      cases e'
      obtain ⟨v', h1, h2⟩ := S.sd i d hx
      rw [h'] at h1
      cases h1
      exact ⟨ow, S, Fr.refl, h2⟩
    · cases e'
def escL : SE → List Val → Option (List D × SE)
  | ε, [] => some ([], ε)
  | ε, v :: vs => (escV ε (fzv v)).bind fun r => (escL r.2 vs).map fun q => (r.1 :: q.1, q.2)
theorem escL_cons {ε : SE} {v : Val} {vs : List Val} {r : List D × SE} (h : escL ε (v :: vs) = some r) : ∃ ra rb, escV ε (fzv v) = some ra ∧ escL ra.2 vs = some rb ∧ r = (ra.1 :: rb.1, rb.2) := by
  unfold escL at h
  cases e : escV ε (fzv v) with
  | none => simp [e] at h
  | some ra =>
    simp only [e, Option.bind_some] at h
    cases e2 : escL ra.2 vs with
    | none => simp [e2] at h
    | some rb => simp only [e2, Option.map_some, Option.some.injEq] at h; exact ⟨ra, rb, rfl, e2, h.symm⟩
theorem VRs.esc {H0 : Hp} {σ : L2.St} {H : Hp} : ∀ {ow : OwF} {ε : SE} {vs : List V} {as : List Val} {ds : List D} {ε' : SE}, Sim Γ ow ε σ H → VRs Γ ow H0 σ H vs as → escL ε as = some (ds, ε') →
    ∃ ow', Sim Γ ow' ε' σ H ∧ Fr ow H ow' H ∧ RpAll Γ (cut H ow') vs ds
  | ow, ε, [], [], ds, ε', S, _, e => by cases e; exact ⟨ow, S, Fr.refl, .nil⟩
  | ow, ε, v :: vs, a :: as, ds, ε', S, h, e => by
    obtain ⟨ra, rb, e1, e2, e3⟩ := escL_cons e
    cases e3
    obtain ⟨ow1, S1, fr1, r1⟩ := VR.esc S h.1 e1
    obtain ⟨ow2, S2, fr2, r2⟩ := VRs.esc (ow := ow1) (ε := ra.2) (vs := vs) (as := as) (ds := rb.1) (ε' := rb.2) S1 (h.2.carry (H0' := H0) fr1) e2
    exact ⟨ow2, S2, fr1.trans fr2, .cons (r1.mono fr2.sub) r2⟩
  | _, _, [], _ :: _, _, _, _, h, _ => h.elim
  | _, _, _ :: _, [], _, _, _, h, _ => h.elim

/-! ### displays -/
def eTup (f : AM) : EM := fun ε => (f ε).bind fun r => (escL r.2 r.1).bind fun q => if q.1.length ≤ 16777216 then some (.d (.tup q.1), q.2) else none
def eLst (f : AM) : EM := fun ε => (f ε).bind fun r => (escL r.2 r.1).bind fun q => if q.1.length ≤ 16777216 then some (.new (.lst q.1), q.2) else none
theorem sz_line {n : Nat} (h : n ≤ 16777216) : n ≤ sizeLine := by rw [sizeLine_eq]; exact h
theorem disp_some {f : AM} {w : List D → Val} {ε : SE} {r : Val × SE} (h : ((f ε).bind fun r => (escL r.2 r.1).bind fun q => if q.1.length ≤ 16777216 then some (w q.1, q.2) else none) = some r) :
    ∃ ra rb, f ε = some ra ∧ escL ra.2 ra.1 = some rb ∧ rb.1.length ≤ 16777216 ∧ r = (w rb.1, rb.2) := by
  cases e : f ε with
  | none => simp [e] at h
  | some ra =>
    simp only [e, Option.bind_some] at h
    cases e2 : escL ra.2 ra.1 with
    | none => simp [e2] at h
    | some rb =>
      simp only [e2, Option.bind_some] at h
      by_cases hl : rb.1.length ≤ 16777216
      · rw [if_pos hl] at h; cases h; exact ⟨ra, rb, rfl, e2, hl, rfl⟩
      · rw [if_neg hl] at h; cases h
/-- (a, b): the new tuple's record is told -/
def tTupF (t : TA) : TE := fun σ H Q => t σ H fun xs H1 => xs.length ≤ sizeLine ∧ ∀ p o, H1 p = none → o.dict = none → Q (.ref p) (upd H1 p (.frz o (.tup xs)))
theorem pe_tupF {es : List Expr} {t : TA} {pos : Pos} {x1} (h : PA X es t) : PE X (.Tuple es x1 pos) (tTupF t) := by
  refine ⟨fun pins s σ H Q I hq => ?_⟩
  refine wpAny_Tuple_spliced (thn (h.run pos pins s σ H _ I hq) fun us s1 ⟨xs, H1, I1, r, z, q⟩ => ⟨by rw [← r.length]; exact z, ?_⟩)
  have hf : H1 s1.heap.objs.size = none := I1.hok.fresh (Nat.le_refl _)
  refine ⟨.ref s1.heap.objs.size, _, I1.laid (t' := s1.toks) (o := .frz { cls := .type "tuple", data := .seq us.toArray } (.tup xs)) (fun b u e => Heap.get?_push_of_some _ e) (Nat.le_refl _) ?_, rfl, q _ _ hf rfl⟩
  exact ⟨Heap.get?_push_size _ rfl, z, us, r, ⟨_, Heap.get?_push_size _ rfl, rfl, _, rfl⟩⟩
theorem de_tup {es : List Expr} {x1} {pos : Pos} {f : AM} (h : PA X es (tA X.K ct f)) : PE X (.Tuple es x1 pos) (tE X.K ct (eTup f)) := (pe_tupF h).imp fun σ H Q ⟨mu, ow, ε, val, ε', S, hf, k⟩ => by
  obtain ⟨ra, rb, e1, e2, e3, e4⟩ := disp_some (w := fun l => .d (.tup l)) hf
  cases e4
  refine ⟨mu, ow, ε, ra.1, ra.2, S, e1, fun vs H1 ow1 S1 fr1 r1 => ?_⟩
  obtain ⟨ow2, S2, fr2, r2⟩ := VRs.esc S1 r1 e2
  refine ⟨sz_line (by rw [r2.length]; exact e3), fun p o hp ho => ?_⟩
  obtain ⟨ow3, S3, fr3, v3⟩ := Fresh.sim S2 (.tup hp ho r2 e3)
  exact k _ _ ow3 S3 ((fr1.trans fr2).trans fr3) (v3.back fun p hp => (fr1.trans fr2).none hp)
theorem de_lst {es : List Expr} {pos : Pos} {f : AM} (h : PA X es (tA X.K ct f)) : PE X (.List es pos) (tE X.K ct (eLst f)) := (pe_lst h).imp fun σ H Q ⟨mu, ow, ε, val, ε', S, hf, k⟩ => by
  obtain ⟨ra, rb, e1, e2, e3, e4⟩ := disp_some (w := fun l => .new (.lst l)) hf
  cases e4
  refine ⟨mu, ow, ε, ra.1, ra.2, S, e1, fun vs H1 ow1 S1 fr1 r1 => ?_⟩
  obtain ⟨ow2, S2, fr2, r2⟩ := VRs.esc S1 r1 e2
  refine ⟨sz_line (by rw [r2.length]; exact e3), fun p hp => ?_⟩
  obtain ⟨ow3, S3, fr3, v3⟩ := Fresh.sim S2 (.lst hp r2 e3)
  exact k _ _ ow3 S3 ((fr1.trans fr2).trans fr3) (v3.back fun p hp => (fr1.trans fr2).none hp)
end
end KD

set_option maxHeartbeats 4000000
namespace KD
open PySem L2
section
variable {X : Cx} {ct : Nat → Addr} {Γ : Gam}

/-! ### attributes -/
theorem zip_lookup {F : Hp} {f : Str} {d : D} : ∀ {ns : List Str} {vs : List V} {ds : List D}, RpAll Γ F vs ds → (ns.zip ds).lookup f = some d → ∃ v, (ns.zip vs).lookup f = some v ∧ Rp Γ F v d
  | [], _, _, _, h => by simp at h
  | n :: ns, _, _, .nil, h => by simp at h
  | n :: ns, _, _, .cons (v := v) (vs := vs) (d := e) (ds := es) hv r, h => by
    simp only [List.zip_cons_cons, List.lookup_cons] at h ⊢
    by_cases c : (f == n) = true
    · rw [c] at h ⊢; cases h; exact ⟨v, rfl, hv⟩
    · have c' : (f == n) = false := by simpa using c
      rw [c'] at h ⊢; exact zip_lookup r h
/-- the instance that a datum is: its class, its fields -/
def insD (ε : SE) : D → Option (Nat × List Str × List D)
  | .ins c ns ds => some (c, ns, ds)
  | .ptr n => match ε.M[n]? with | some (.ins c ns ds) => some (c, ns, ds) | _ => none
  | _ => none
theorem ins_of {ow : OwF} {ε : SE} {H : Hp} {σ : L2.St} {v : V} {d : D} {c : Nat} {ns : List Str} {ds : List D} (S : Sim Γ ow ε σ H) (r : RpO Γ (cut H ow) H v d) (e : insD ε d = some (c, ns, ds)) :
    ∃ a dx vs, v = .ref a ∧ H a = some (.ins (Γ.ct c) dx (ns.zip vs)) ∧ vs.length = ns.length ∧ RpAll Γ (cut H ow) vs ds := by
  cases d with
  | ins c' ns' ds' =>
    cases e
    rcases r with r | ⟨p, m, rfl, ho, hm⟩
    · cases r with | ins h l ra => exact ⟨_, _, _, rfl, cut_sub _ _ h, l, ra⟩
    · cases m with
      | ins _ _ _ => cases hm; obtain ⟨dx, vs, h1, h2, h3⟩ := ho; exact ⟨_, _, _, rfl, h1, h2, h3⟩
      | lst _ => cases hm
      | dct _ _ => cases hm
  | ptr n =>
    have e' : (match ε.M[n]? with | some (.ins c ns ds) => some (c, ns, ds) | _ => none) = some (c, ns, ds) := e
    split at e'
    · rename_i hm
      cases e'
      obtain ⟨p, h1, h2, dx, vs, h3, h4, h5⟩ := S.mo n _ hm
      have r' := r.up cut_sub
      cases r' with
      | ptr hp =>
        rw [h1] at hp
        cases hp
        exact ⟨_, _, _, rfl, h3, h4, h5⟩
    · cases e'
  | _ => cases e
def eFld (c : Nat) (f : Str) (fo : EM) : EM := fun ε => (fzE fo ε).bind fun r => (r.1.res r.2).bind fun d => match insD r.2 d with
  | some (c', ns, ds) => if c' = c then ((ns.zip ds).lookup f).map fun x => (.d x, r.2) else none
  | none => none
theorem de_fld {c : Nat} {f : Str} {fo : EM} {e : Expr} {pos : Pos} (hc : Cls X.K (ct c)) (hn : NoAttr X.K (ct c) f) (he : PE X e (tE X.K ct fo)) (hb : attributeBase e f X.env (eval e X.env) = eval e X.env := by rfl) :
    PE X (.Attribute e f pos) (tE X.K ct (eFld c f fo)) := (pe_fld (de_fz he) hb).imp fun σ H Q ⟨mu, ow, ε, val, ε', S, hf, k⟩ => by
  unfold eFld at hf
  cases e1 : fzE fo ε with
  | none => simp [e1] at hf
  | some r =>
    simp only [e1, Option.bind_some] at hf
    cases e2 : r.1.res r.2 with
    | none => simp [e2] at hf
    | some d =>
      simp only [e2, Option.bind_some] at hf
      cases e3 : insD r.2 d with
      | none => simp [e3] at hf
      | some t =>
        obtain ⟨c', ns, ds⟩ := t
        simp only [e3] at hf
        by_cases hcc : c' = c
        · subst hcc
          rw [if_pos rfl] at hf
          cases e4 : (ns.zip ds).lookup f with
          | none => simp [e4] at hf
          | some x =>
            simp only [e4, Option.map_some, Option.some.injEq, Prod.mk.injEq] at hf
            obtain ⟨rfl, rfl⟩ := hf
            refine ⟨mu, ow, ε, r.1, r.2, S, e1, fun v H1 ow1 S1 fr1 r1 => ?_⟩
            obtain ⟨a, dx, vs, rfl, ha, hl, ra⟩ := ins_of S1 (VR.res S1 r1 e2) e3
            obtain ⟨w, hw, rw'⟩ := zip_lookup ra e4
            exact ⟨a, ct c', dx, _, w, rfl, ha, hc, hn, hw, k w H1 ow1 S1 fr1 rw'⟩
        · rw [if_neg hcc] at hf; cases hf

/-! ### a call of a def -/
abbrev FM := List D → List MO → Option (Val × List MO)
def NoLoc (ow : OwF) : Prop := ∀ a w, ow a = some w → w = .ext ∨ ∃ n, w = .obj n
def extO (ow : OwF) : OwF := fun a => match ow a with
  | none => none
  | some (.obj n) => some (.obj n)
  | some _ => some .ext
theorem extO_none {ow : OwF} {a : Addr} : extO ow a = none ↔ ow a = none := by
  unfold extO
  cases e : ow a with
  | none => simp
  | some w => cases w <;> simp
theorem extO_obj {ow : OwF} {a : Addr} {n : Nat} : extO ow a = some (.obj n) ↔ ow a = some (.obj n) := by
  unfold extO
  cases e : ow a with
  | none => simp
  | some w => cases w <;> simp
theorem extO_ext {ow : OwF} {a : Addr} {w : Ow} (h : ow a = some w) (n : ∀ k, w ≠ .obj k) : extO ow a = some .ext := by
  unfold extO
  rw [h]
  cases w <;> first | rfl | exact absurd rfl (n _)
theorem extO_noLoc (ow : OwF) : NoLoc (extO ow) := fun a w h => by
  unfold extO at h
  cases e : ow a with
  | none => simp [e] at h
  | some w' => cases w' <;> simp [e] at h <;> subst h <;> simp
theorem cut_ext {H : Hp} {ow : OwF} : cut H (extO ow) = cut H ow := by
  funext a
  unfold cut extO
  cases ow a with
  | none => rfl
  | some w => cases w <;> rfl
/-- a call's value: nothing of the callee's slots -/
def VRf (Γ : Gam) (ow : OwF) (H0 H : Hp) (v : V) : Val → Prop
  | .d d => Rp Γ (cut H ow) v d
  | .new m => ∃ p, v = .ref p ∧ ow p = some .tmp ∧ H0 p = none ∧ ObjR Γ (cut H ow) H p m
  | .old _ => False
/-- what a def promises: it computes f -/
def FnS (K : PySem.W.Frag) (ct : Nat → Addr) (n : Nat) (f : FM) : Sp := fun vs H Q _ => vs.length = n ∧ ∃ mu ow ds M r, NoLoc ow ∧ RpAll ⟨K, ct, mu⟩ (cut H ow) vs ds ∧ MSim ⟨K, ct, mu⟩ ow M H ∧ f ds M = some r ∧
  ∀ v H' ow', MSim ⟨K, ct, mu⟩ ow' r.2 H' → Fr ow H ow' H' → VRf ⟨K, ct, mu⟩ ow' H H' v r.1 → Q v H'
/-- the caller's ghost behind a call -/
def backO (ow : OwF) (H : Hp) (ow' : OwF) : OwF := fun a => match H a with
  | some _ => ow a
  | none => match ow' a with
    | some .tmp => some .tmp
    | _ => none
theorem backO_old {ow ow' : OwF} {H : Hp} {a : Addr} {o : HO} (h : H a = some o) : backO ow H ow' a = ow a := by unfold backO; rw [h]
theorem backO_new {ow ow' : OwF} {H : Hp} {a : Addr} (h : H a = none) (e : ow' a = none) : backO ow H ow' a = none := by unfold backO; rw [h, e]
theorem backO_tmp {ow ow' : OwF} {H : Hp} {a : Addr} (h : H a = none) (e : ow' a = some .tmp) : backO ow H ow' a = some .tmp := by unfold backO; rw [h, e]
theorem call_back {ow ow' : OwF} {ε : SE} {σ : L2.St} {H H' : Hp} {M' : List MO} (S : Sim Γ ow ε σ H) (hl : M'.length = ε.M.length) (m : MSim Γ ow' M' H') (fr : Fr (extO ow) H ow' H') :
    Sim Γ (backO ow H ow') { ε with M := M' } σ H' ∧ Fr ow H (backO ow H ow') H' ∧ Sub (cut H' ow') (cut H' (backO ow H ow')) := by
  have keep : ∀ a o, H a = some o → ow' a = none → ow a = none := fun a o h e => by
    cases q : ow a with
    | none => rfl
    | some w =>
      by_cases z : ∃ n, w = .obj n
      · obtain ⟨n, rfl⟩ := z
        have := fr.ob a o n h (extO_obj.mpr q)
        rw [e] at this; cases this
      · have := (fr.ke a o .ext h (extO_ext q fun n z' => z ⟨n, z'⟩) (.inr rfl)).1
        rw [e] at this; cases this
  have s2 : Sub (cut H' ow') (cut H' (backO ow H ow')) := fun a o h => by
    obtain ⟨h1, h2⟩ := cut_of h
    cases q : H a with
    | none => exact cut_mk (backO_new q h1) h2
    | some o' => exact cut_mk (by rw [backO_old q]; exact keep a o' q h1) h2
  have frb : Fr ow H (backO ow H ow') H' := ⟨fun a o h e => by
      rw [backO_old h]; exact ⟨e, (fr.fz a o h (extO_none.mpr e)).2⟩,
    fun a o w h e q => by
      rw [backO_old h]
      exact ⟨e, (fr.ke a o .ext h (extO_ext e (by rcases q with rfl | rfl <;> simp)) (.inr rfl)).2⟩,
    fr.tr, fun a o n h e => by rw [backO_old h]; exact e⟩
  refine ⟨⟨S.len, fun i d e => ?_, fun i mm e => ?_, fun n mo e => ?_⟩, frb, s2⟩
  · obtain ⟨v, h1, h2⟩ := S.sd i d e
    exact ⟨v, h1, h2.mono frb.sub⟩
  · obtain ⟨p, h1, h2, h3⟩ := S.so i mm e
    obtain ⟨o, ho⟩ := ObjR.has h3
    refine ⟨p, h1, by rw [backO_old ho]; exact h2, ObjR.mono h3 frb.sub fun o' e' => ?_⟩
    exact (fr.ke p o' .ext e' (extO_ext h2 (by simp)) (.inr rfl)).2
  obtain ⟨p, h1, h2, h3⟩ := m n mo e
  have hn : n < ε.M.length := by rw [← hl]; exact (List.getElem?_eq_some_iff.mp e).1
  obtain ⟨p', q1, q2, q3⟩ := S.mo n _ (List.getElem?_eq_getElem hn)
  rw [h1] at q1
  cases q1
  obtain ⟨o, ho⟩ := ObjR.has q3
  exact ⟨p, h1, by rw [backO_old ho]; exact q2, ObjR.mono h3 s2 fun _ e => e⟩
/-! calls -/
def eCall (f : FM) (dd : List D) (fa : AM) : EM := fun ε => (fa ε).bind fun r => (escL r.2 r.1).bind fun q => (f (q.1 ++ dd) q.2.M).bind fun o => if o.2.length = q.2.M.length then some (o.1, { q.2 with M := o.2 }) else none
theorem eCall_some {f : FM} {dd : List D} {fa : AM} {ε : SE} {r : Val × SE} (h : eCall f dd fa ε = some r) :
    ∃ ra q o, fa ε = some ra ∧ escL ra.2 ra.1 = some q ∧ f (q.1 ++ dd) q.2.M = some o ∧ o.2.length = q.2.M.length ∧ r = (o.1, { q.2 with M := o.2 }) := by
  unfold eCall at h
  cases e : fa ε with
  | none => simp [e] at h
  | some ra =>
    simp only [e, Option.bind_some] at h
    cases e2 : escL ra.2 ra.1 with
    | none => simp [e2] at h
    | some q =>
      simp only [e2, Option.bind_some] at h
      cases e3 : f (q.1 ++ dd) q.2.M with
      | none => simp [e3] at h
      | some o =>
        simp only [e3, Option.bind_some] at h
        by_cases hl : o.2.length = q.2.M.length
        · rw [if_pos hl] at h; cases h; exact ⟨ra, q, o, rfl, e2, e3, hl, rfl⟩
        · rw [if_neg hl] at h; cases h
/-- the callee's promise from the caller's state -/
theorem fn_use {K : PySem.W.Frag} {mu : Nat → Option Addr} {n : Nat} {f : FM} {ow0 ow : OwF} {ε : SE} {σ : L2.St} {H0 H : Hp} {vs : List V} {ds : List D} {o : Val × List MO} {Q : VK} {E : XK}
    (S : Sim ⟨K, ct, mu⟩ ow ε σ H) (fr0 : Fr ow0 H0 ow H) (r : RpAll ⟨K, ct, mu⟩ (cut H ow) vs ds) (hn : vs.length = n) (e : f ds ε.M = some o) (hl : o.2.length = ε.M.length)
    (k : ∀ v H' ow', Sim ⟨K, ct, mu⟩ ow' { ε with M := o.2 } σ H' → Fr ow0 H0 ow' H' → VR ⟨K, ct, mu⟩ ow' H0 σ H' v o.1 → Q v H') : FnS K ct n f vs H Q E := by
  refine ⟨hn, mu, extO ow, ds, ε.M, o, extO_noLoc ow, by rw [cut_ext]; exact r, fun j m hj => ?_, e, fun v H' ow' M' fr rv => ?_⟩
  · obtain ⟨p, h1, h2, h3⟩ := S.mo j m hj
    exact ⟨p, h1, extO_obj.mpr h2, by rw [cut_ext]; exact h3⟩
  · obtain ⟨S2, fr2, s2⟩ := call_back S hl M' fr
    refine k v H' _ S2 (fr0.trans fr2) ?_
    cases ho : o.1 with
    | d x =>
      rw [ho] at rv
      exact Rp.mono s2 rv
    | new m =>
      rw [ho] at rv
      obtain ⟨p, h1, h2, h3, h4⟩ := rv
      exact ⟨p, h1, backO_tmp h3 h2, fr0.none h3, ObjR.mono h4 s2 fun _ e => e⟩
    | old i =>
      rw [ho] at rv
      exact rv.elim
theorem RpAll.sub0 {K : PySem.W.Frag} {dvs : List V} {dd : List D} (h : ∀ mu F, RpAll ⟨K, ct, mu⟩ F dvs dd) {mu : Nat → Option Addr} {F : Hp} {vs : List V} {ds : List D} (r : RpAll ⟨K, ct, mu⟩ F vs ds) : RpAll ⟨K, ct, mu⟩ F (vs ++ dvs) (ds ++ dd) := r.append (h mu F)
theorem call_imp {K : PySem.W.Frag} {n : Nat} {f : FM} {fa : AM} {dvs : List V} {dd : List D} {E : XK} (hd : ∀ mu F, RpAll ⟨K, ct, mu⟩ F dvs dd) (hn : ∀ ds M o, f ds M = some o → ds.length = n) (σ : L2.St) (H : Hp) (Q : VK)
    (h : tE K ct (eCall f dd fa) σ H Q) : tCall (FnS K ct n f) dvs E (tA K ct fa) σ H Q := by
  obtain ⟨mu, ow, ε, val, ε', S, hf, k⟩ := h
  obtain ⟨ra, q, o, e1, e2, e3, e4, e5⟩ := eCall_some hf
  cases e5
  refine ⟨mu, ow, ε, ra.1, ra.2, S, e1, fun vs H1 ow1 S1 fr1 r1 => ?_⟩
  obtain ⟨ow2, S2, fr2, r2⟩ := VRs.esc S1 r1 e2
  have r3 := RpAll.sub0 hd r2
  exact fn_use S2 (fr1.trans fr2) r3 (by rw [r3.length]; exact hn _ _ _ e3) e3 e4 k
theorem de_call {CX : CXT} {k n : Nat} {f : Addr} {fd : FuncData} {ps : List Str} {fm : FM} {dvs : List V} {dd : List D} {ds : List Value} {E : XK} {x : Str} {p pos : Pos} {e : Expr} {es : List Expr} {fa : AM}
    (F : FnOk X.prog X.w X.K X.mg X.base CX k f fd ps (FnS X.K ct n fm)) (hr : Room k X.A) (hm : X.mg x = some (.ref f)) (hk : PySem.W.keepIn X.K (.ref f) = true) (hb : Binds X.K fd ps ds) (hd : Vals dvs ds) (hx : Passes CX X E)
    (hdd : ∀ mu F, RpAll ⟨X.K, ct, mu⟩ F dvs dd) (hn : ∀ ds M o, fm ds M = some o → ds.length = n) (ha : PA X (e :: es) (tA X.K ct fa)) (hg : Gl X x := by rfl)
    (hdb : (x == ("__debug__" : Str)) = false := by decide) (he : starEach (e :: es) X.env = (false, eval e X.env) :: starEach es X.env := by rfl) (hpl : (backTo pos (starEach es X.env)).any (·.1) = false := by rfl) :
    PE X (.Call (.Name x p) (e :: es) [] pos) (tE X.K ct (eCall fm dd fa)) := (pe_call F hr hg hm hk hb hd hx ha hdb he hpl).imp (call_imp hdd hn)
theorem tA_nil_imp {K : PySem.W.Frag} (σ : L2.St) (H : Hp) (Q : List V → Hp → Prop) (h : tA K ct aNil σ H Q) : tNil σ H Q := by
  obtain ⟨mu, ow, ε, vals, ε', S, hf, k⟩ := h
  cases hf
  exact k [] H ow S Fr.refl trivial
theorem de_call0 {CX : CXT} {k n : Nat} {f : Addr} {fd : FuncData} {ps : List Str} {fm : FM} {dvs : List V} {dd : List D} {ds : List Value} {E : XK} {x : Str} {p pos : Pos}
    (F : FnOk X.prog X.w X.K X.mg X.base CX k f fd ps (FnS X.K ct n fm)) (hr : Room k X.A) (hm : X.mg x = some (.ref f)) (hk : PySem.W.keepIn X.K (.ref f) = true) (hb : Binds X.K fd ps ds) (hd : Vals dvs ds) (hx : Passes CX X E)
    (hdd : ∀ mu F, RpAll ⟨X.K, ct, mu⟩ F dvs dd) (hn : ∀ ds M o, fm ds M = some o → ds.length = n) (hg : Gl X x := by rfl)
    (hdb : (x == ("__debug__" : Str)) = false := by decide) :
    PE X (.Call (.Name x p) [] [] pos) (tE X.K ct (eCall fm dd aNil)) := (pe_call0 F hr hg hm hk hb hd hx hdb).imp fun σ H Q h => by
  have q := call_imp (E := E) hdd hn σ H Q h
  exact tA_nil_imp σ H _ q
end
end KD

set_option maxHeartbeats 4000000
namespace KD
open PySem L2
section
variable {X : Cx} {ct : Nat → Addr} {Γ : Gam}

/-! ### methods of instances -/
theorem zip_nolookup {f : Str} : ∀ {ns : List Str} {vs : List V}, ns.contains f = false → (ns.zip vs).lookup f = none
  | [], _, _ => by simp
  | _ :: _, [], _ => by simp
  | n :: ns, v :: vs, h => by
    simp only [List.contains_cons, Bool.or_eq_false_iff] at h
    rw [List.zip_cons_cons, List.lookup_cons, h.1]
    exact zip_nolookup h.2
def eMeth (c : Nat) (m : Str) (f : FM) (dd : List D) (fo : EM) (fa : AM) : EM := fun ε => (fzE fo ε).bind fun ro => (ro.1.res ro.2).bind fun d => match insD ro.2 d with
  | some (c', ns, _) => if c' = c ∧ ns.contains m = false then eCall f dd (fun ε1 => (fa ε1).map fun r => (ro.1 :: r.1, r.2)) ro.2 else none
  | none => none
theorem eMeth_some {c : Nat} {m : Str} {f : FM} {dd : List D} {fo : EM} {fa : AM} {ε : SE} {r : Val × SE} (h : eMeth c m f dd fo fa ε = some r) :
    ∃ ro d ns ds ra q o, fzE fo ε = some ro ∧ ro.1.res ro.2 = some d ∧ insD ro.2 d = some (c, ns, ds) ∧ ns.contains m = false ∧ fa ro.2 = some ra ∧ escL ra.2 (ro.1 :: ra.1) = some q ∧ f (q.1 ++ dd) q.2.M = some o ∧ o.2.length = q.2.M.length ∧ r = (o.1, { q.2 with M := o.2 }) := by
  unfold eMeth at h
  cases e1 : fzE fo ε with
  | none => simp [e1] at h
  | some ro =>
    simp only [e1, Option.bind_some] at h
    cases e2 : ro.1.res ro.2 with
    | none => simp [e2] at h
    | some d =>
      simp only [e2, Option.bind_some] at h
      cases e3 : insD ro.2 d with
      | none => simp [e3] at h
      | some t =>
        obtain ⟨c', ns, ds⟩ := t
        simp only [e3] at h
        by_cases hc : c' = c ∧ ns.contains m = false
        · rw [if_pos hc] at h
          obtain ⟨ra, q, o, q1, q2, q3, q4, q5⟩ := eCall_some h
          cases e4 : fa ro.2 with
          | none => simp [e4] at q1
          | some ra' =>
            simp only [e4, Option.map_some, Option.some.injEq] at q1
            subst q1
            obtain ⟨rfl, hm⟩ := hc
            exact ⟨ro, d, ns, ds, ra', q, o, rfl, e2, e3, hm, e4, q2, q3, q4, q5⟩
        · rw [if_neg hc] at h; cases h
theorem meth_imp {K : PySem.W.Frag} {n c : Nat} {m : Str} {f : FM} {fo : EM} {fa : AM} {dvs : List V} {dd : List D} {E : XK} (hd : ∀ mu F, RpAll ⟨K, ct, mu⟩ F dvs dd) (hn : ∀ ds M o, f ds M = some o → ds.length = n) (σ : L2.St) (H : Hp) (Q : VK)
    (h : tE K ct (eMeth c m f dd fo fa) σ H Q) : tMeth (ct c) m (FnS K ct n f) dvs E (tE K ct (fzE fo)) (tA K ct fa) σ H Q := by
  obtain ⟨mu, ow, ε, val, ε', S, hf, k⟩ := h
  obtain ⟨ro, d, ns, ds, ra, q, o, e1, e2, e3, e4, e5, e6, e7, e8, e9⟩ := eMeth_some hf
  cases e9
  refine ⟨mu, ow, ε, ro.1, ro.2, S, e1, fun x H1 ow1 S1 fr1 r1 => ?_⟩
  obtain ⟨a, dx, vs, rfl, ha, hl, rv⟩ := ins_of S1 (VR.res S1 r1 e2) e3
  refine ⟨a, dx, _, rfl, ha, zip_nolookup e4, mu, ow1, ro.2, ra.1, ra.2, S1, e5, fun us H2 ow2 S2 fr2 r2 => ?_⟩
  obtain ⟨va, hva, hv⟩ := fzE_some e1
  have r1' : VR ⟨K, ct, mu⟩ ow2 H2 σ H2 (.ref a) (fzv ro.1) := by
    rw [hv] at r1 ⊢
    rw [fzv_fzv]
    exact r1.carry fr2
  obtain ⟨ow3, S3, fr3, r3⟩ := VRs.esc (vs := .ref a :: us) (as := ro.1 :: ra.1) S2 ⟨r1', r2⟩ e6
  have r4 : RpAll _ _ (V.ref a :: (us ++ dvs)) (q.1 ++ dd) := RpAll.sub0 hd r3
  exact fn_use S3 ((fr1.trans fr2).trans fr3) r4 (by rw [r4.length]; exact hn _ _ _ e7) e7 e8 k
theorem de_meth {CX : CXT} {k n c : Nat} {f : Addr} {fd : FuncData} {ps : List Str} {fm : FM} {dvs : List V} {dd : List D} {ds : List Value} {E : XK} {m : Str} {pos apos : Pos} {o e : Expr} {es : List Expr} {fo : EM} {fa : AM}
    (F : FnOk X.prog X.w X.K X.mg X.base CX k f fd ps (FnS X.K ct n fm)) (hr : Room k X.A) (cl : Cls X.K (ct c)) (hm : Meth X.K (ct c) m f) (hb : Binds X.K fd ps ds) (hd : Vals dvs ds) (hx : Passes CX X E)
    (hdd : ∀ mu F, RpAll ⟨X.K, ct, mu⟩ F dvs dd) (hn : ∀ ds M o, fm ds M = some o → ds.length = n) (ho : PE X o (tE X.K ct fo)) (ha : PA X (e :: es) (tA X.K ct fa))
    (mk : ∀ {ta : TE} {t : TA}, PE X o ta → PA X (e :: es) t → PE X (.Call (.Attribute o m apos) (e :: es) [] pos) (tMeth (ct c) m (FnS X.K ct n fm) dvs E ta t)) :
    PE X (.Call (.Attribute o m apos) (e :: es) [] pos) (tE X.K ct (eMeth c m fm dd fo fa)) := (mk (de_fz ho) ha).imp (meth_imp hdd hn)
theorem de_meth0 {n c : Nat} {fm : FM} {dvs : List V} {dd : List D} {E : XK} {m : Str} {pos apos : Pos} {o : Expr} {fo : EM}
    (hdd : ∀ mu F, RpAll ⟨X.K, ct, mu⟩ F dvs dd) (hn : ∀ ds M o, fm ds M = some o → ds.length = n) (ho : PE X o (tE X.K ct fo))
    (mk : ∀ {ta : TE}, PE X o ta → PE X (.Call (.Attribute o m apos) [] [] pos) (tMeth (ct c) m (FnS X.K ct n fm) dvs E ta tNil)) :
    PE X (.Call (.Attribute o m apos) [] [] pos) (tE X.K ct (eMeth c m fm dd fo aNil)) := (mk (de_fz ho)).imp fun σ H Q h => by
  have q := meth_imp (E := E) hdd hn σ H Q h
  obtain ⟨mu, ow, ε, val, ε', S, hf, k⟩ := q
  refine ⟨mu, ow, ε, val, ε', S, hf, fun v H1 ow1 S1 fr1 r1 => ?_⟩
  obtain ⟨a, dx, fs, h1, h2, h3, h4⟩ := k v H1 ow1 S1 fr1 r1
  exact ⟨a, dx, fs, h1, h2, h3, tA_nil_imp σ H1 _ h4⟩

/-! ### new instances -/
mutual
def noP (n : Nat) : D → Bool
  | .tup l => noPL n l
  | .pair l => noPL n l
  | .lst l => noPL n l
  | .ins _ _ l => noPL n l
  | .dct _ l => noPL n l
  | .dcl _ l => noPL n l
  | .exc _ _ l => noPL n l
  | .ptr m => m != n
  | _ => true
def noPL (n : Nat) : List D → Bool
  | [] => true
  | d :: l => noP n d && noPL n l
end
def noPM (n : Nat) : MO → Bool
  | .lst l => noPL n l
  | .ins _ _ l => noPL n l
  | .dct _ l => noPL n l
mutual
theorem Rp.mu {K : PySem.W.Frag} {mu mu' : Nat → Option Addr} {n : Nat} (hm : ∀ k, k ≠ n → mu k = mu' k) {F : Hp} : ∀ {v : V} {d : D}, Rp ⟨K, ct, mu⟩ F v d → noP n d = true → Rp ⟨K, ct, mu'⟩ F v d
  | _, _, .non, _ => .non
  | _, _, .bl b, _ => .bl b
  | _, _, .int b, _ => .int b
  | _, _, .str b h, _ => .str b h
  | _, _, .tup h r l, q => .tup h (RpAll.mu hm r q) l
  | _, _, .pair h r, q => .pair h (RpAll.mu hm r q)
  | _, _, .lst h r l, q => .lst h (RpAll.mu hm r q) l
  | _, _, .scr h l, q => .scr h l
  | _, _, .ins h l r, q => .ins h l (RpAll.mu hm r q)
  | _, _, .dct h l r, q => .dct h l (RpAll.mu hm r q)
  | _, _, .dcl h l r, q => .dcl h l (RpAll.mu hm r q)
  | _, _, .cls c, _ => .cls c
  | _, _, .rng h, _ => .rng h
  | _, _, .exc h x l r, q => .exc h x l (RpAll.mu hm r q)
  | _, _, .ptr (n := m) h, q => .ptr ((hm m (by simpa [noP] using q)).symm.trans h)
theorem RpAll.mu {K : PySem.W.Frag} {mu mu' : Nat → Option Addr} {n : Nat} (hm : ∀ k, k ≠ n → mu k = mu' k) {F : Hp} : ∀ {vs : List V} {ds : List D}, RpAll ⟨K, ct, mu⟩ F vs ds → noPL n ds = true → RpAll ⟨K, ct, mu'⟩ F vs ds
  | _, _, .nil, _ => .nil
  | _, _, .cons h r, q => by
    have q' : (noP n _ && noPL n _) = true := q
    rw [Bool.and_eq_true] at q'
    exact .cons (Rp.mu hm h q'.1) (RpAll.mu hm r q'.2)
end
theorem ObjR.mu {K : PySem.W.Frag} {mu mu' : Nat → Option Addr} {n : Nat} (hm : ∀ k, k ≠ n → mu k = mu' k) {F H : Hp} {p : Addr} {m : MO} (h : ObjR ⟨K, ct, mu⟩ F H p m) (q : noPM n m = true) : ObjR ⟨K, ct, mu'⟩ F H p m := by
  cases m with
  | lst xs => obtain ⟨vs, h, r, l⟩ := h; exact ⟨vs, h, r.mu hm q, l⟩
  | ins c ns xs => obtain ⟨dx, vs, h, l, r⟩ := h; exact ⟨dx, vs, h, l, r.mu hm q⟩
  | dct ks xs => obtain ⟨vs, h, l, r⟩ := h; exact ⟨vs, h, l, r.mu hm q⟩
def isNon : Val → Bool
  | .d .non => true
  | _ => false
theorem isNon_eq {v : Val} (h : isNon v = true) : v = .d .non := by
  cases v with
  | d x => cases x <;> first | rfl | cases h
  | _ => cases h
/-- C(..): the new instance is the store's last object while __init__ runs, then a value -/
def eMake (c : Nat) (f : FM) (dd : List D) (fa : AM) : EM := fun ε => (fa ε).bind fun r => (escL r.2 r.1).bind fun q =>
  if noPL q.2.M.length (q.1 ++ dd) = true ∧ q.2.M.all (noPM q.2.M.length) = true then
    (f (.ptr q.2.M.length :: (q.1 ++ dd)) (q.2.M ++ [.ins c [] []])).bind fun o =>
      if isNon o.1 = true ∧ o.2.length = q.2.M.length + 1 ∧ (o.2.take q.2.M.length).all (noPM q.2.M.length) = true then
        match o.2[q.2.M.length]? with
        | some (.ins c' ns vals) => if c' = c ∧ noPL q.2.M.length vals = true then some (.new (.ins c' ns vals), { q.2 with M := o.2.take q.2.M.length }) else none
        | _ => none
      else none
  else none
theorem eMake_some {c : Nat} {f : FM} {dd : List D} {fa : AM} {ε : SE} {r : Val × SE} (h : eMake c f dd fa ε = some r) :
    ∃ ra q o ns vals, fa ε = some ra ∧ escL ra.2 ra.1 = some q ∧ noPL q.2.M.length (q.1 ++ dd) = true ∧ q.2.M.all (noPM q.2.M.length) = true ∧ f (.ptr q.2.M.length :: (q.1 ++ dd)) (q.2.M ++ [.ins c [] []]) = some (.d .non, o) ∧
      o.length = q.2.M.length + 1 ∧ (o.take q.2.M.length).all (noPM q.2.M.length) = true ∧ o[q.2.M.length]? = some (.ins c ns vals) ∧ noPL q.2.M.length vals = true ∧ r = (.new (.ins c ns vals), { q.2 with M := o.take q.2.M.length }) := by
  unfold eMake at h
  cases e : fa ε with
  | none => simp [e] at h
  | some ra =>
    simp only [e, Option.bind_some] at h
    cases e2 : escL ra.2 ra.1 with
    | none => simp [e2] at h
    | some q =>
      simp only [e2, Option.bind_some] at h
      by_cases h1 : noPL q.2.M.length (q.1 ++ dd) = true ∧ q.2.M.all (noPM q.2.M.length) = true
      · rw [if_pos h1] at h
        cases e3 : f (.ptr q.2.M.length :: (q.1 ++ dd)) (q.2.M ++ [.ins c [] []]) with
        | none => simp [e3] at h
        | some o =>
          simp only [e3, Option.bind_some] at h
          by_cases h2 : isNon o.1 = true ∧ o.2.length = q.2.M.length + 1 ∧ (o.2.take q.2.M.length).all (noPM q.2.M.length) = true
          · rw [if_pos h2] at h
            obtain ⟨o1, o2⟩ := o
            split at h
            · rename_i c' ns vals hm
              by_cases h3 : c' = c ∧ noPL q.2.M.length vals = true
              · rw [if_pos h3] at h
                cases h
                obtain ⟨rfl, h3⟩ := h3
                have := isNon_eq h2.1
                dsimp only at this hm
                subst this
                exact ⟨ra, q, o2, ns, vals, rfl, e2, h1.1, h1.2, e3, h2.2.1, h2.2.2, hm, h3, rfl⟩
              · rw [if_neg h3] at h; cases h
            · cases h
          · rw [if_neg h2] at h; cases h
      · rw [if_neg h1] at h; cases h
theorem make_imp {K : PySem.W.Frag} {n c : Nat} {f : FM} {fa : AM} {dvs : List V} {dd : List D} {E : XK} (hd : ∀ mu F, RpAll ⟨K, ct, mu⟩ F dvs dd) (hn : ∀ ds M o, f ds M = some o → ds.length = n) (σ : L2.St) (H : Hp) (Q : VK)
    (h : tE K ct (eMake c f dd fa) σ H Q) : tMake (ct c) (FnS K ct n f) dvs E (tA K ct fa) σ H Q := by
  obtain ⟨mu, ow, ε, val, ε', S, hf, k⟩ := h
  obtain ⟨ra, q, o, ns, vals, e1, e2, e3, e4, e5, e6, e7, e8, e9, e10⟩ := eMake_some hf
  cases e10
  refine ⟨mu, ow, ε, ra.1, ra.2, S, e1, fun vs H1 ow1 S1 fr1 r1 x dx hx hdx hne => ?_⟩
  obtain ⟨ow2, S2, fr2, r2⟩ := VRs.esc S1 r1 e2
  have r3 := RpAll.sub0 hd r2
  let nn := q.2.M.length
  let mu' : Nat → Option Addr := fun k => if k = nn then some x else mu k
  have hmu : ∀ k, k ≠ nn → mu k = mu' k := fun k hk => by show mu k = if k = nn then some x else mu k; rw [if_neg hk]
  have hmu2 : ∀ k, k ≠ nn → mu' k = mu k := fun k hk => (hmu k hk).symm
  have hmn : mu' nn = some x := if_pos rfl
  -- the two new objects
  obtain ⟨S3, fr3⟩ := S2.alloc (o := .own x) hdx none
  have hx3 : (upd H1 dx (.own x)) x = none := by rw [upd_ne hne.symm]; exact hx
  obtain ⟨S4, fr4⟩ := S3.alloc (o := .ins (ct c) dx []) hx3 (some (.obj nn))
  have fr24 : Fr ow2 H1 _ _ := fr3.trans fr4
  have r4 := r3.mono fr24.sub
  have owx : setO (setO ow2 dx none) x (some (.obj nn)) x = some (.obj nn) := setO_same
  refine ⟨?_, mu', extO (setO (setO ow2 dx none) x (some (.obj nn))), .ptr nn :: (q.1 ++ dd), q.2.M ++ [.ins c [] []], (.d .non, o), extO_noLoc _, ?_, ?_, e5, fun v H' ow' M' fr rv => ?_⟩
  · have := hn _ _ _ e5
    rw [List.length_cons] at this ⊢
    rw [r3.length]; exact this
  · rw [cut_ext]
    exact .cons (.ptr hmn) (r4.mu hmu e3)
  · intro j m hj
    by_cases hjl : j < q.2.M.length
    · rw [List.getElem?_append_left hjl] at hj
      obtain ⟨p, h1, h2, h3⟩ := S4.mo j m hj
      have hjn : j ≠ nn := Nat.ne_of_lt hjl
      refine ⟨p, (hmu j hjn).symm.trans h1, extO_obj.mpr h2, ?_⟩
      rw [cut_ext]
      exact ObjR.mu hmu h3 (List.all_eq_true.mp e4 m (List.mem_of_getElem? hj))
    · rw [List.getElem?_append_right (by omega)] at hj
      have hj0 : j = nn := by
        have := (List.getElem?_eq_some_iff.mp hj).1
        simp only [List.length_singleton] at this
        omega
      subst hj0
      simp only [nn, Nat.sub_self, List.getElem?_cons_zero, Option.some.injEq] at hj
      subst hj
      exact ⟨x, hmn, extO_obj.mpr owx, dx, [], upd_same, rfl, .nil⟩
  · have rv' : v = .non := by cases rv; rfl
    subst rv'
    refine ⟨rfl, ?_⟩
    -- the instance behind __init__
    obtain ⟨p, p1, p2, p3⟩ := M' nn _ e8
    obtain rfl : x = p := Option.some.inj (hmn.symm.trans p1)
    -- the callee's heap against the heap ahead of the two objects
    have frA : Fr (extO ow2) H1 ow' H' := by
      have neA : ∀ a o, H1 a = some o → a ≠ dx ∧ a ≠ x := fun a o h => ⟨ne_of_none h hdx, ne_of_none h hx⟩
      have hH : ∀ a o, H1 a = some o → (upd (upd H1 dx (.own x)) x (.ins (ct c) dx [])) a = some o := fun a o h => by rw [upd_ne (neA a o h).2, upd_ne (neA a o h).1]; exact h
      have hO : ∀ a o, H1 a = some o → extO (setO (setO ow2 dx none) x (some (.obj nn))) a = extO ow2 a := fun a o h => by
        unfold extO; rw [setO_ne (neA a o h).2, setO_ne (neA a o h).1]
      exact ⟨fun a o h e => fr.fz a o (hH a o h) (by rw [hO a o h]; exact e), fun a o w h e q' => fr.ke a o w (hH a o h) (by rw [hO a o h]; exact e) q',
        fun a o h => fr.tr a o (hH a o h), fun a o n h e => fr.ob a o n (hH a o h) (by rw [hO a o h]; exact e)⟩
    let ow5 : OwF := setO ow' x (some .tmp)
    have c5 : cut H' ow5 = cut H' ow' := by
      funext a
      by_cases ha : a = x
      · subst ha
        unfold cut
        rw [show ow5 a = some .tmp from setO_same, p2]
      · unfold cut
        rw [show ow5 a = ow' a from setO_ne ha]
    have fr5 : Fr (extO ow2) H1 ow5 H' := by
      have ne : ∀ a o, H1 a = some o → ow5 a = ow' a := fun a o h => setO_ne (ne_of_none h hx)
      exact ⟨fun a o h e => by rw [ne a o h]; exact frA.fz a o h e, fun a o w h e q' => by rw [ne a o h]; exact frA.ke a o w h e q', frA.tr, fun a o n h e => by rw [ne a o h]; exact frA.ob a o n h e⟩
    have M5 : MSim ⟨K, ct, mu⟩ ow5 (o.take nn) H' := fun j m hj => by
      have hjl : j < nn := by
        have := (List.getElem?_eq_some_iff.mp hj).1
        rw [List.length_take] at this
        omega
      have hj2 : o[j]? = some m := by rw [List.getElem?_take_of_lt hjl] at hj; exact hj
      obtain ⟨p', h1, h2, h3⟩ := M' j m hj2
      have hjn : j ≠ nn := Nat.ne_of_lt hjl
      have hpx : p' ≠ x := by rintro rfl; rw [p2] at h2; cases h2; exact hjn rfl
      refine ⟨p', (hmu j hjn).trans h1, by rw [show ow5 p' = ow' p' from setO_ne hpx]; exact h2, ?_⟩
      rw [c5]
      exact ObjR.mu hmu2 h3 (List.all_eq_true.mp e7 m (List.mem_of_getElem? hj))
    obtain ⟨S6, fr6, s6⟩ := call_back S2 (by rw [List.length_take]; omega) M5 fr5
    refine k _ H' _ S6 ((fr1.trans fr2).trans fr6) ⟨x, rfl, backO_tmp hx setO_same, (fr1.trans fr2).none hx, ?_⟩
    exact ObjR.mono (ObjR.mu hmu2 (by rw [c5]; exact p3) e9) s6 fun _ e => e
end
end KD

set_option maxHeartbeats 4000000
namespace KD
open PySem L2
section
variable {X : Cx} {ct : Nat → Addr} {Γ : Gam}

/-! ### changes of owned and shared objects -/
def tgt (ε : SE) : Val → Option MO
  | .old i => match ε.sl[i]? with | some (.own m) => some m | _ => none
  | .d (.ptr n) => ε.M[n]?
  | _ => none
def put (ε : SE) (m : MO) : Val → SE
  | .old i => setS ε i (.own m)
  | .d (.ptr n) => { ε with M := ε.M.set n m }
  | _ => ε
theorem Sim.change {ow : OwF} {ε : SE} {σ : L2.St} {H H0 : Hp} {v : V} {val : Val} {m : MO} (S : Sim Γ ow ε σ H) (r : VR Γ ow H0 σ H v (fzv val)) (e : tgt ε (fzv val) = some m) :
    ∃ p, v = .ref p ∧ ObjR Γ (cut H ow) H p m ∧ ∀ o m', ObjR Γ (cut H ow) (upd H p o) p m' → Sim Γ ow (put ε m' (fzv val)) σ (upd H p o) ∧ Fr ow H ow (upd H p o) := by
  have core : ∀ p w, ow p = some w → ((∃ i, w = .slot i) ∨ ∃ n, w = .obj n) → ∀ o, cut (upd H p o) ow = cut H ow ∧ ((∃ o', H p = some o') → Fr ow H ow (upd H p o)) := by
    intro p w hw hk o
    have hc : cut (upd H p o) ow = cut H ow := by
      funext a
      by_cases ha : a = p
      · subst ha; unfold cut; rw [hw]
      · unfold cut; rw [upd_ne ha]
    refine ⟨hc, fun ⟨o', ho'⟩ => ⟨fun a o2 h e => ?_, fun a o2 w' h e q => ?_, fun a o2 h => ?_, fun a o2 n h e => e⟩⟩
    · have n : a ≠ p := by rintro rfl; rw [hw] at e; cases e
      exact ⟨e, by rw [upd_ne n]; exact h⟩
    · have n : a ≠ p := by
        rintro rfl; rw [hw] at e; cases e
        rcases hk with ⟨_, rfl⟩ | ⟨_, rfl⟩ <;> rcases q with q | q <;> cases q
      exact ⟨e, by rw [upd_ne n]; exact h⟩
    · by_cases n : a = p
      · subst n; exact ⟨o, upd_same⟩
      · exact ⟨o2, by rw [upd_ne n]; exact h⟩
  cases val with
  | d x =>
    cases x with
    | ptr n =>
      obtain ⟨p, h1, h2, h3⟩ := S.mo n m e
      have r' : Rp Γ (cut H ow) v (.ptr n) := r
      cases r' with
      | ptr hp =>
        obtain rfl := Option.some.inj (hp.symm.trans h1)
        refine ⟨_, rfl, h3, fun o m' ho => ?_⟩
        rename_i a
        obtain ⟨hc, hf⟩ := core a _ h2 (.inr ⟨n, rfl⟩) o
        refine ⟨⟨S.len, fun i d e => ?_, fun i mm e => ?_, fun k mm e => ?_⟩, hf (ObjR.has h3)⟩
        · rw [hc]; exact S.sd i d e
        · obtain ⟨p', q1, q2, q3⟩ := S.so i mm e
          have n' : p' ≠ a := by rintro rfl; rw [h2] at q2; cases q2
          exact ⟨p', q1, q2, by rw [hc]; exact ObjR.mono q3 (Sub.refl _) fun o e => by rw [upd_ne n']; exact e⟩
        · have e' : (ε.M.set n m')[k]? = some mm := e
          by_cases hk : n = k
          · subst hk
            have hlt : n < ε.M.length := (List.getElem?_eq_some_iff.mp (show ε.M[n]? = some m from ‹_›)).1
            rw [List.getElem?_set_self hlt] at e'
            cases e'
            exact ⟨a, h1, h2, by rw [hc]; exact ho⟩
          · rw [List.getElem?_set_ne hk] at e'
            obtain ⟨p', q1, q2, q3⟩ := S.mo k mm e'
            have n' : p' ≠ a := by rintro rfl; rw [h2] at q2; cases q2; exact hk rfl
            exact ⟨p', q1, q2, by rw [hc]; exact ObjR.mono q3 (Sub.refl _) fun o e => by rw [upd_ne n']; exact e⟩
    | _ => cases e
  | new m0 => cases m0 <;> cases e
  | old i =>
    have e' : (match ε.sl[i]? with | some (.own m) => some m | _ => none) = some m := e
    split at e'
    · rename_i m0 hm
      cases e'
      obtain ⟨p, h1, h2, h3⟩ := S.so i m hm
      have r' : σ[i]? = some (some v) := r
      rw [h1] at r'
      cases r'
      refine ⟨p, rfl, h3, fun o m' ho => ?_⟩
      obtain ⟨hc, hf⟩ := core p _ h2 (.inl ⟨i, rfl⟩) o
      have hil : i < ε.sl.length := (List.getElem?_eq_some_iff.mp hm).1
      refine ⟨⟨by rw [S.len]; show _ = (ε.sl.set i _).length; rw [List.length_set], fun j d e => ?_, fun j mm e => ?_, fun k mm e => ?_⟩, hf (ObjR.has h3)⟩
      · have e' : (ε.sl.set i (.own m'))[j]? = some (.d d) := e
        by_cases hj : i = j
        · subst hj
          rw [List.getElem?_set_self hil] at e'; cases e'
        · rw [List.getElem?_set_ne hj] at e'
          rw [hc]; exact S.sd j d e'
      · have e' : (ε.sl.set i (.own m'))[j]? = some (.own mm) := e
        by_cases hj : i = j
        · subst hj
          rw [List.getElem?_set_self hil] at e'
          cases e'
          exact ⟨p, h1, h2, by rw [hc]; exact ho⟩
        · rw [List.getElem?_set_ne hj] at e'
          obtain ⟨p', q1, q2, q3⟩ := S.so j mm e'
          have n' : p' ≠ p := by rintro rfl; rw [h2] at q2; cases q2; exact hj rfl
          exact ⟨p', q1, q2, by rw [hc]; exact ObjR.mono q3 (Sub.refl _) fun o e => by rw [upd_ne n']; exact e⟩
      · obtain ⟨p', q1, q2, q3⟩ := S.mo k mm e
        have n' : p' ≠ p := by rintro rfl; rw [h2] at q2; cases q2
        exact ⟨p', q1, q2, by rw [hc]; exact ObjR.mono q3 (Sub.refl _) fun o e => by rw [upd_ne n']; exact e⟩
    · cases e'
/-- a method that changes its object: what it makes of the object, what it hands back -/
def eMut (p : MO → Bool) (g : MO → List D → Option (MO × D)) (fo : EM) (f : AM) : EM := fun ε => (fzE fo ε).bind fun ro => (tgt ro.2 ro.1).bind fun m0 => if p m0 = true then
  (f ro.2).bind fun r => (escL r.2 r.1).bind fun q => (tgt q.2 ro.1).bind fun m => (g m q.1).map fun w => (.d w.2, put q.2 w.1 ro.1) else none
def MutS (K : PySem.W.Frag) (ct : Nat → Addr) (r : V → List V → Hp → VK → Prop) (g : MO → List D → Option (MO × D)) : Prop :=
  ∀ (mu : Nat → Option Addr) (F H : Hp) (p : Addr) (m : MO) (vs : List V) (ds : List D) (m' : MO) (d : D) (Q : VK), Sub F H → ObjR ⟨K, ct, mu⟩ F H p m → RpAll ⟨K, ct, mu⟩ F vs ds → g m ds = some (m', d) →
    (∀ v o, ObjR ⟨K, ct, mu⟩ F (upd H p o) p m' → Rp ⟨K, ct, mu⟩ F v d → Q v (upd H p o)) → r (.ref p) vs H Q
def TyM (K : PySem.W.Frag) (ct : Nat → Addr) (T : String) (p : MO → Bool) : Prop := ∀ (mu : Nat → Option Addr) (F H : Hp) (a : Addr) (m : MO), ObjR ⟨K, ct, mu⟩ F H a m → p m = true → tyV K T (.ref a) H
theorem eMut_some {p : MO → Bool} {g : MO → List D → Option (MO × D)} {fo : EM} {f : AM} {ε : SE} {r : Val × SE} (h : eMut p g fo f ε = some r) :
    ∃ ro m0 ra q m w, fzE fo ε = some ro ∧ tgt ro.2 ro.1 = some m0 ∧ p m0 = true ∧ f ro.2 = some ra ∧ escL ra.2 ra.1 = some q ∧ tgt q.2 ro.1 = some m ∧ g m q.1 = some w ∧ r = (.d w.2, put q.2 w.1 ro.1) := by
  unfold eMut at h
  cases e1 : fzE fo ε with
  | none => simp [e1] at h
  | some ro =>
    simp only [e1, Option.bind_some] at h
    cases e2 : tgt ro.2 ro.1 with
    | none => simp [e2] at h
    | some m0 =>
      simp only [e2, Option.bind_some] at h
      by_cases hp : p m0 = true
      · rw [if_pos hp] at h
        cases e3 : f ro.2 with
        | none => simp [e3] at h
        | some ra =>
          simp only [e3, Option.bind_some] at h
          cases e4 : escL ra.2 ra.1 with
          | none => simp [e4] at h
          | some q =>
            simp only [e4, Option.bind_some] at h
            cases e5 : tgt q.2 ro.1 with
            | none => simp [e5] at h
            | some m =>
              simp only [e5, Option.bind_some] at h
              cases e6 : g m q.1 with
              | none => simp [e6] at h
              | some w =>
                simp only [e6, Option.map_some, Option.some.injEq] at h
                exact ⟨ro, m0, ra, q, m, w, rfl, e2, hp, e3, e4, e5, e6, h.symm⟩
      · rw [if_neg hp] at h; cases h
theorem mut_imp {K : PySem.W.Frag} {T : String} {r : V → List V → Hp → VK → Prop} {p : MO → Bool} {g : MO → List D → Option (MO × D)} {fo : EM} {f : AM} (ty : TyM K ct T p) (hs : MutS K ct r g) (σ : L2.St) (H : Hp) (Q : VK)
    (h : tE K ct (eMut p g fo f) σ H Q) : tBM K T r (tE K ct (fzE fo)) (tA K ct f) σ H Q := by
  obtain ⟨mu, ow, ε, val, ε', S, hf, k⟩ := h
  obtain ⟨ro, m0, ra, q, m, w, e1, e2, e3, e4, e5, e6, e7, e8⟩ := eMut_some hf
  cases e8
  obtain ⟨va, hva, hv⟩ := fzE_some e1
  refine ⟨mu, ow, ε, ro.1, ro.2, S, e1, fun x H1 ow1 S1 fr1 r1 => ?_⟩
  rw [hv] at r1 e2 e6
  obtain ⟨a, rfl, ho0, _⟩ := S1.change r1 e2
  refine ⟨ty mu _ H1 a m0 ho0 e3, mu, ow1, ro.2, ra.1, ra.2, S1, e4, fun us H2 ow2 S2 fr2 r2 => ?_⟩
  obtain ⟨ow3, S3, fr3, r3⟩ := VRs.esc S2 r2 e5
  have r1' : VR ⟨K, ct, mu⟩ ow3 H2 σ H2 (.ref a) (fzv va) := r1.carry (fr2.trans fr3)
  obtain ⟨a', ea, ho, ch⟩ := S3.change r1' e6
  cases ea
  refine hs mu (cut H2 ow3) H2 a m us q.1 w.1 w.2 Q cut_sub ho r3 (by rw [e7]) fun v o ho' rd => ?_
  obtain ⟨S4, fr4⟩ := ch o w.1 ho'
  have fr := ((fr1.trans fr2).trans fr3).trans fr4
  refine k v _ ow3 (by rw [hv]; exact S4) fr (Rp.mono fr4.sub rd)
theorem de_mut {T id : String} {name : Str} {o e : Expr} {es : List Expr} {apos cpos : Pos} {fo : EM} {f : AM} {r : V → List V → Hp → VK → Prop} {p : MO → Bool} {g : MO → List D → Option (MO × D)}
    (ty : TyM X.K ct T p) (hs : MutS X.K ct r g) (pa : PlainAttrs T) (slot : Slot T name id) (hty : typeOf (.builtin id) = pure (.type "method_descriptor")) (hm : MtR X id r) (ho : PE X o (tE X.K ct fo)) (ha : PA X (e :: es) (tA X.K ct f))
    (hbase : attributeBase o name X.env (eval o X.env) = eval o X.env := by rfl)
    (hfew : ((backTo cpos (starEach (e :: es) X.env)).all (fun x => !x.1) && (backToKw cpos (keywordEach [] X.env)).all (fun x => x.1.isSome)
      && decide ((e :: es).length + ([] : List Keyword).length + (if ([] : List Keyword).isEmpty then 0 else 1) < 30)) = true := by rfl)
    (hline : (apos.endLine == cpos.line) = true := by rfl) (hss : starEach (e :: es) X.env = (false, eval e X.env) :: starEach es X.env := by rfl) (hplain : (backTo cpos (starEach es X.env)).any (·.1) = false := by rfl) :
    PE X (.Call (.Attribute o name apos) (e :: es) [] cpos) (tE X.K ct (eMut p g fo f)) := (pe_bm pa slot hty hm (de_fz ho) ha hbase hfew hline hss hplain).imp (mut_imp ty hs)
theorem de_mut0 {T id : String} {name : Str} {o : Expr} {apos cpos : Pos} {fo : EM} {r : V → List V → Hp → VK → Prop} {p : MO → Bool} {g : MO → List D → Option (MO × D)}
    (ty : TyM X.K ct T p) (hs : MutS X.K ct r g) (pa : PlainAttrs T) (slot : Slot T name id) (hty : typeOf (.builtin id) = pure (.type "method_descriptor")) (hm : MtR X id r) (ho : PE X o (tE X.K ct fo))
    (hbase : attributeBase o name X.env (eval o X.env) = eval o X.env := by rfl) (hline : (apos.endLine == cpos.line) = true := by rfl) :
    PE X (.Call (.Attribute o name apos) [] [] cpos) (tE X.K ct (eMut p g fo aNil)) := (pe_bm0 pa slot hty hm (de_fz ho) hbase hline).imp fun σ H Q h => by
  obtain ⟨mu, ow, ε, val, ε', S, hf, k⟩ := mut_imp ty hs σ H Q h
  refine ⟨mu, ow, ε, val, ε', S, hf, fun v H1 ow1 S1 fr1 r1 => ?_⟩
  obtain ⟨h1, h2⟩ := k v H1 ow1 S1 fr1 r1
  refine ⟨h1, ?_⟩
  obtain ⟨mu2, ow2, ε2, vals, ε3, S2, hf2, k2⟩ := h2
  cases hf2
  exact k2 [] H1 ow2 S2 Fr.refl trivial
end
end KD

set_option maxHeartbeats 4000000
namespace KD
open PySem L2

inductive Out | nx (ε : SE) | rt (v : Val) (ε : SE) | bk (ε : SE) | ct (ε : SE)
abbrev SM := SE → Option Out
/-- what a statement's end asks -/
def PostS (K : PySem.W.Frag) (ct : Nat → Addr) (mu : Nat → Option Addr) (ow : OwF) (H : Hp) (E : Ends) : Out → Prop
  | .nx ε' => ∀ σ' H' ow', Sim ⟨K, ct, mu⟩ ow' ε' σ' H' → Fr ow H ow' H' → E.nx σ' H'
  | .bk ε' => ∀ σ' H' ow', Sim ⟨K, ct, mu⟩ ow' ε' σ' H' → Fr ow H ow' H' → E.bk σ' H'
  | .ct ε' => ∀ σ' H' ow', Sim ⟨K, ct, mu⟩ ow' ε' σ' H' → Fr ow H ow' H' → E.ct σ' H'
  | .rt val ε' => ∀ v σ' H' ow', Sim ⟨K, ct, mu⟩ ow' ε' σ' H' → Fr ow H ow' H' → VR ⟨K, ct, mu⟩ ow' H σ' H' v val → E.rt v H'
def tS (K : PySem.W.Frag) (ct : Nat → Addr) (f : SM) : TS := fun E σ H => ∃ mu ow ε out, Sim ⟨K, ct, mu⟩ ow ε σ H ∧ f ε = some out ∧ PostS K ct mu ow H E out
section
variable {X : Cx} {ct : Nat → Addr} {Γ : Gam}
theorem PostS.later {K : PySem.W.Frag} {mu : Nat → Option Addr} {ow ow1 : OwF} {H H1 : Hp} {E : Ends} {out : Out} (fr : Fr ow H ow1 H1) (h : PostS K ct mu ow H E out) : PostS K ct mu ow1 H1 E out := by
  cases out with
  | nx ε => exact fun σ' H' ow' S f => h σ' H' ow' S (fr.trans f)
  | bk ε => exact fun σ' H' ow' S f => h σ' H' ow' S (fr.trans f)
  | ct ε => exact fun σ' H' ow' S f => h σ' H' ow' S (fr.trans f)
  | rt v ε => exact fun v σ' H' ow' S f r => h v σ' H' ow' S (fr.trans f) (r.back fun p hp => fr.none hp)
theorem PostS.ends {K : PySem.W.Frag} {mu : Nat → Option Addr} {ow : OwF} {H : Hp} {E E' : Ends} {out : Out} (h : PostS K ct mu ow H E out) (h1 : ∀ ε, out = .nx ε → PostS K ct mu ow H E' out) (h2 : ∀ v H', E.rt v H' → E'.rt v H') (h3 : ∀ ε, out = .bk ε → PostS K ct mu ow H E' out) (h4 : ∀ ε, out = .ct ε → PostS K ct mu ow H E' out) : PostS K ct mu ow H E' out := by
  cases out with
  | nx ε => exact h1 ε rfl
  | bk ε => exact h3 ε rfl
  | ct ε => exact h4 ε rfl
  | rt v ε => exact fun v σ' H' ow' S f r => h2 _ _ (h v σ' H' ow' S f r)

def sNil : SM := fun ε => some (.nx ε)
def sSeq (f g : SM) : SM := fun ε => (f ε).bind fun o => match o with | .nx ε' => g ε' | o => some o
theorem dss_nil : PSs X [] (tS X.K ct sNil) := pss_nil.imp fun E σ H ⟨mu, ow, ε, out, S, hf, k⟩ => by
  cases hf
  exact k σ H ow S Fr.refl
theorem dss_cons {st : Stmt} {rest : List Stmt} {f g : SM} (h : PS X st (tS X.K ct f)) (h2 : PSs X rest (tS X.K ct g)) : PSs X (st :: rest) (tS X.K ct (sSeq f g)) := (pss_cons h h2).imp fun E σ H ⟨mu, ow, ε, out, S, hf, k⟩ => by
  unfold sSeq at hf
  cases e : f ε with
  | none => simp [e] at hf
  | some o =>
    simp only [e, Option.bind_some] at hf
    refine ⟨mu, ow, ε, o, S, e, ?_⟩
    cases o with
    | nx ε1 => exact fun σ' H' ow' S' fr => ⟨mu, ow', ε1, out, S', hf, k.later fr⟩
    | bk ε1 => cases hf; exact k
    | ct ε1 => cases hf; exact k
    | rt v ε1 => cases hf; exact k
theorem dss_one {st : Stmt} {f : SM} (h : PS X st (tS X.K ct f)) : PSs X [st] (tS X.K ct f) := pss_one h
/-- never reached -/
def sErr : SM := fun _ => none
theorem ds_err {st : Stmt} : PS X st (tS X.K ct sErr) := ps_never.imp fun E σ H ⟨mu, ow, ε, out, S, hf, k⟩ => by cases hf
def sBrk : SM := fun ε => some (.bk ε)
def sCnt : SM := fun ε => some (.ct ε)
theorem ds_pass {pos : Pos} : PS X (.Pass pos) (tS X.K ct sNil) := ps_pass.imp fun E σ H ⟨mu, ow, ε, out, S, hf, k⟩ => by
  cases hf
  exact k σ H ow S Fr.refl
theorem ds_break {pos : Pos} : PS X (.Break pos) (tS X.K ct sBrk) := ps_break.imp fun E σ H ⟨mu, ow, ε, out, S, hf, k⟩ => by
  cases hf
  exact k σ H ow S Fr.refl
theorem ds_continue {pos : Pos} : PS X (.Continue pos) (tS X.K ct sCnt) := ps_continue.imp fun E σ H ⟨mu, ow, ε, out, S, hf, k⟩ => by
  cases hf
  exact k σ H ow S Fr.refl
def sExpr (f : EM) : SM := fun ε => (f ε).map fun r => .nx r.2
theorem ds_expr {e : Expr} {pos : Pos} {f : EM} (h : PE X e (tE X.K ct f)) (hs : swapsWith e none pos.line X.env = pure false := by rfl) : PS X (.Expr e pos) (tS X.K ct (sExpr f)) := (ps_expr h hs).imp fun E σ H ⟨mu, ow, ε, out, S, hf, k⟩ => by
  unfold sExpr at hf
  cases e : f ε with
  | none => simp [e] at hf
  | some r =>
    simp only [e, Option.map_some, Option.some.injEq] at hf
    subst hf
    exact ⟨mu, ow, ε, r.1, r.2, S, e, fun v H1 ow1 S1 fr1 r1 => k σ H1 ow1 S1 fr1⟩
def sRet (f : EM) : SM := fun ε => (f ε).map fun r => .rt r.1 r.2
theorem ds_ret {e : Expr} {pos : Pos} {f : EM} (h : PE X e (tE X.K ct f)) : PS X (.Return (some e) pos) (tS X.K ct (sRet f)) := (ps_ret h).imp fun E σ H ⟨mu, ow, ε, out, S, hf, k⟩ => by
  unfold sRet at hf
  cases e : f ε with
  | none => simp [e] at hf
  | some r =>
    simp only [e, Option.map_some, Option.some.injEq] at hf
    subst hf
    exact ⟨mu, ow, ε, r.1, r.2, S, e, fun v H1 ow1 S1 fr1 r1 => k v σ H1 ow1 S1 fr1 r1⟩
def sRetN : SM := fun ε => some (.rt (.d .non) ε)
theorem ds_retN {pos : Pos} : PS X (.Return none pos) (tS X.K ct sRetN) := ps_retN.imp fun E σ H ⟨mu, ow, ε, out, S, hf, k⟩ => by
  cases hf
  exact k _ σ H ow S Fr.refl .non
def sIf (c : BM) (f g : SM) : SM := fun ε => (c ε).bind fun r => if r.1 = true then f r.2 else g r.2
theorem ds_if {c : Expr} {a b : List Stmt} {pos : Pos} {tc : BM} {f g : SM} (hc : PT X c (tT X.K ct tc)) (ha : PSs X a (tS X.K ct f)) (hb : PSs X b (tS X.K ct g)) : PS X (.If c a b pos) (tS X.K ct (sIf tc f g)) :=
  (ps_if hc ha hb).imp fun E σ H ⟨mu, ow, ε, out, S, hf, k⟩ => by
    unfold sIf at hf
    cases e : tc ε with
    | none => simp [e] at hf
    | some r =>
      simp only [e, Option.bind_some] at hf
      refine tT_then e S fun H1 ow1 S1 fr1 => ?_
      by_cases c : r.1 = true
      · rw [if_pos c] at hf ⊢
        exact ⟨mu, ow1, r.2, out, S1, hf, k.later fr1⟩
      · rw [if_neg c] at hf ⊢
        exact ⟨mu, ow1, r.2, out, S1, hf, k.later fr1⟩

/-! ### targets -/
abbrev GM := D → SE → Option SE
def TgS (K : PySem.W.Frag) (ct : Nat → Addr) (vs : List Nat) (g : TG) (gD : GM) : Prop := ∀ mu ow ε σ H v d ε' (Q : L2.St → Hp → Prop), Sim ⟨K, ct, mu⟩ ow ε σ H → Rp ⟨K, ct, mu⟩ (cut H ow) v d → gD d ε = some ε' →
  (∀ σ', Sim ⟨K, ct, mu⟩ ow ε' σ' H → (∀ us, (∀ i ∈ vs, i ∈ us) → wipe σ' us = wipe σ us) → Q σ' H) → g v σ H Q
theorem Sim.setD {ow : OwF} {ε : SE} {σ : L2.St} {H : Hp} {v : V} {d : D} (i : Nat) (S : Sim Γ ow ε σ H) (r : Rp Γ (cut H ow) v d) : Sim Γ ow (setS ε i (.d d)) (σ.set i (some v)) H := by
  refine ⟨by rw [List.length_set, S.len]; show _ = (ε.sl.set i _).length; rw [List.length_set], fun j e h => ?_, fun j m h => ?_, S.mo⟩
  · have h' : (ε.sl.set i (.d d))[j]? = some (.d e) := h
    by_cases hj : i = j
    · subst hj
      have hl : i < ε.sl.length := by
        have := (List.getElem?_eq_some_iff.mp h').1
        rw [List.length_set] at this; exact this
      rw [List.getElem?_set_self hl] at h'
      cases h'
      exact ⟨v, by rw [List.getElem?_set_self (by rw [S.len]; exact hl)], r⟩
    · rw [List.getElem?_set_ne hj] at h' ⊢
      exact S.sd j e h'
  · have h' : (ε.sl.set i (.d d))[j]? = some (.own m) := h
    by_cases hj : i = j
    · subst hj
      have hl : i < ε.sl.length := by
        have := (List.getElem?_eq_some_iff.mp h').1
        rw [List.length_set] at this; exact this
      rw [List.getElem?_set_self hl] at h'
      cases h'
    · rw [List.getElem?_set_ne hj] at h' ⊢
      exact S.so j m h'
theorem wipe_get {σ : L2.St} {j : Nat} : ∀ {vs : List Nat}, (wipe σ vs)[j]? = if j ∈ vs then (σ[j]?).map (fun _ => none) else σ[j]?
  | [] => by simp [wipe]
  | v :: vs => by
    unfold wipe
    by_cases h : v = j
    · subst h
      rw [List.getElem?_set]
      simp only [if_true, List.mem_cons, true_or, wipe_length]
      by_cases hl : v < σ.length
      · rw [if_pos hl, List.getElem?_eq_getElem hl]; rfl
      · rw [if_neg hl, List.getElem?_eq_none (by omega)]; rfl
    · rw [List.getElem?_set_ne h, wipe_get (vs := vs)]
      simp only [List.mem_cons]
      by_cases hm : j ∈ vs
      · simp [hm]
      · simp [hm, Ne.symm h]
theorem wipe_set {σ : L2.St} {i : Nat} {x : Option V} {us : List Nat} (h : i ∈ us) : wipe (σ.set i x) us = wipe σ us := by
  refine List.ext_getElem? fun j => ?_
  rw [wipe_get, wipe_get]
  by_cases hj : j ∈ us
  · rw [if_pos hj, if_pos hj, List.getElem?_set]
    by_cases e : i = j
    · subst e
      simp only [if_true]
      by_cases hl : i < σ.length
      · rw [if_pos hl, List.getElem?_eq_getElem hl]; rfl
      · rw [if_neg hl, List.getElem?_eq_none (by omega)]
    · rw [if_neg e]
  · rw [if_neg hj, if_neg hj]
    have e : i ≠ j := by rintro rfl; exact hj h
    rw [List.getElem?_set_ne e]
def gN (i : Nat) : GM := fun d ε => some (setS ε i (.d d))
theorem tg_name {K : PySem.W.Frag} {i : Nat} : TgS K ct [i] (gName i) (gN i) := fun mu ow ε σ H v d ε' Q S r e k => by
  cases e
  exact k _ (S.setD i r) fun us h => wipe_set (h i List.mem_cons_self)
abbrev GsM := List D → SE → Option SE
def TgsS (K : PySem.W.Frag) (ct : Nat → Addr) (vs : List Nat) (g : TGs) (gD : GsM) : Prop := ∀ mu ow ε σ H xs ds ε' (Q : L2.St → Hp → Prop), Sim ⟨K, ct, mu⟩ ow ε σ H → RpAll ⟨K, ct, mu⟩ (cut H ow) xs ds → gD ds ε = some ε' →
  (∀ σ', Sim ⟨K, ct, mu⟩ ow ε' σ' H → (∀ us, (∀ i ∈ vs, i ∈ us) → wipe σ' us = wipe σ us) → Q σ' H) → g xs σ H Q
def gsNil : GsM := fun ds ε => match ds with | [] => some ε | _ => none
def gsCons (g : GM) (gs : GsM) : GsM := fun ds ε => match ds with | d :: ds => (g d ε).bind fun ε1 => gs ds ε1 | [] => none
theorem tgs_nil {K : PySem.W.Frag} : TgsS K ct [] gNil gsNil := fun mu ow ε σ H xs ds ε' Q S r e k => by
  cases r with
  | nil => cases e; exact ⟨rfl, k σ S fun _ _ => rfl⟩
  | cons _ _ => cases e
theorem tgs_cons {K : PySem.W.Frag} {vs ws : List Nat} {g : TG} {gs : TGs} {gD : GM} {gsD : GsM} (h : TgS K ct vs g gD) (h2 : TgsS K ct ws gs gsD) : TgsS K ct (vs ++ ws) (gCons g gs) (gsCons gD gsD) := fun mu ow ε σ H xs ds ε' Q S r e k => by
  cases r with
  | nil => cases e
  | cons r1 r2 =>
    rename_i v vs' d ds'
    have e' : ((gD d ε).bind fun ε1 => gsD ds' ε1) = some ε' := e
    cases e1 : gD d ε with
    | none => simp [e1] at e'
    | some ε1 =>
      simp only [e1, Option.bind_some] at e'
      refine ⟨v, vs', rfl, h mu ow ε σ H v d ε1 _ S r1 e1 fun σ1 S1 w1 => ?_⟩
      refine h2 mu ow ε1 σ1 H vs' ds' ε' _ S1 r2 e' fun σ2 S2 w2 => k σ2 S2 fun us hu => ?_
      rw [w2 us fun i hi => hu i (List.mem_append_right _ hi), w1 us fun i hi => hu i (List.mem_append_left _ hi)]
def gT (n : Nat) (gs : GsM) : GM := fun d ε => match d with
  | .tup ds => if ds.length = n then gs ds ε else none
  | .pair ds => if ds.length = n then gs ds ε else none
  | _ => none
theorem tg_tup {K : PySem.W.Frag} {vs : List Nat} {n : Nat} {gs : TGs} {gsD : GsM} (h : TgsS K ct vs gs gsD) : TgS K ct vs (gTup K n gs) (gT n gsD) := fun mu ow ε σ H v d ε' Q S r e k => by
  cases d with
  | tup ds =>
    cases r with
    | tup hs ra _ =>
      have e' : (if ds.length = n then gsD ds ε else none) = some ε' := e
      by_cases hl : ds.length = n
      · rw [if_pos hl] at e'
        exact ⟨_, _, rfl, cut_sub.sqt hs.sqt, by rw [ra.length]; exact hl, h mu ow ε σ H _ ds ε' Q S ra e' k⟩
      · rw [if_neg hl] at e'; cases e'
  | pair ds =>
    cases r with
    | pair hs ra =>
      have e' : (if ds.length = n then gsD ds ε else none) = some ε' := e
      by_cases hl : ds.length = n
      · rw [if_pos hl] at e'
        exact ⟨_, _, rfl, cut_sub.sqt hs, by rw [ra.length]; exact hl, h mu ow ε σ H _ ds ε' Q S ra e' k⟩
      · rw [if_neg hl] at e'; cases e'
  | _ => cases e

/-! ### assignments -/
/-- x = e: a new object is owned by the slot, an alias is frozen -/
def storeV (ε : SE) (i : Nat) : Val → Option SE
  | .d x => some (setS ε i (.d x))
  | .new m => some (setS ε i (.own m))
  | .old j => (escV ε (.old j)).map fun r => setS r.2 i (.d r.1)
theorem Sim.store {ow : OwF} {ε ε' : SE} {σ : L2.St} {H H0 : Hp} {ow0 : OwF} {v : V} {val : Val} {i : Nat} (S : Sim Γ ow ε σ H) (fr : Fr ow0 H0 ow H) (r : VR Γ ow H0 σ H v val) (e : storeV ε i val = some ε') :
    ∃ ow', Sim Γ ow' ε' (σ.set i (some v)) H ∧ Fr ow0 H0 ow' H := by
  cases val with
  | d x => cases e; exact ⟨ow, S.setD i r, fr⟩
  | old j =>
    have e' : ((escV ε (.old j)).map fun r => setS r.2 i (.d r.1)) = some ε' := e
    cases e2 : escV ε (.old j) with
    | none => simp [e2] at e'
    | some q =>
      simp only [e2, Option.map_some, Option.some.injEq] at e'
      subst e'
      obtain ⟨ow1, S1, fr1, r1⟩ := VR.esc (val := .old j) S r e2
      exact ⟨ow1, S1.setD i r1, fr.trans fr1⟩
  | new m =>
    cases e
    obtain ⟨p, rfl, ht, h0, ho⟩ := r
    have hc : cut H (setO ow p (some (.slot i))) = cut H ow := by
      funext a
      by_cases ha : a = p
      · subst ha; unfold cut; rw [setO_same, ht]
      · unfold cut; rw [setO_ne ha]
    refine ⟨setO ow p (some (.slot i)), ⟨by rw [List.length_set, S.len]; show _ = (ε.sl.set i _).length; rw [List.length_set], fun j d h => ?_, fun j mm h => ?_, fun n mm h => ?_⟩, ?_⟩
    · have h' : (ε.sl.set i (.own m))[j]? = some (.d d) := h
      by_cases hj : i = j
      · subst hj
        have hl : i < ε.sl.length := by
          have := (List.getElem?_eq_some_iff.mp h').1
          rw [List.length_set] at this; exact this
        rw [List.getElem?_set_self hl] at h'
        cases h'
      · rw [List.getElem?_set_ne hj] at h' ⊢
        rw [hc]; exact S.sd j d h'
    · have h' : (ε.sl.set i (.own m))[j]? = some (.own mm) := h
      by_cases hj : i = j
      · subst hj
        have hl : i < ε.sl.length := by
          have := (List.getElem?_eq_some_iff.mp h').1
          rw [List.length_set] at this; exact this
        rw [List.getElem?_set_self hl] at h'
        cases h'
        exact ⟨p, by rw [List.getElem?_set_self (by rw [S.len]; exact hl)], setO_same, by rw [hc]; exact ho⟩
      · rw [List.getElem?_set_ne hj] at h' ⊢
        obtain ⟨q, q1, q2, q3⟩ := S.so j mm h'
        have n : q ≠ p := by rintro rfl; rw [ht] at q2; cases q2
        exact ⟨q, q1, by rw [setO_ne n]; exact q2, by rw [hc]; exact q3⟩
    · obtain ⟨q, q1, q2, q3⟩ := S.mo n mm h
      have n : q ≠ p := by rintro rfl; rw [ht] at q2; cases q2
      exact ⟨q, q1, by rw [setO_ne n]; exact q2, by rw [hc]; exact q3⟩
    · have ne : ∀ a o, H0 a = some o → a ≠ p := fun a o h => ne_of_none h h0
      exact ⟨fun a o h e => by rw [setO_ne (ne a o h)]; exact fr.fz a o h e, fun a o w h e q => by rw [setO_ne (ne a o h)]; exact fr.ke a o w h e q, fr.tr, fun a o n h e => by rw [setO_ne (ne a o h)]; exact fr.ob a o n h e⟩
def sSet (i : Nat) (f : EM) : SM := fun ε => (f ε).bind fun r => (storeV r.2 i r.1).map fun ε' => .nx ε'
theorem ds_set {i : Nat} {st : Stmt} {f : EM} (h : PS X st (tAsg (tE X.K ct f) (gName i))) : PS X st (tS X.K ct (sSet i f)) := h.imp fun E σ H ⟨mu, ow, ε, out, S, hf, k⟩ => by
  unfold sSet at hf
  cases e : f ε with
  | none => simp [e] at hf
  | some r =>
    simp only [e, Option.bind_some] at hf
    cases e2 : storeV r.2 i r.1 with
    | none => simp [e2] at hf
    | some ε' =>
      simp only [e2, Option.map_some, Option.some.injEq] at hf
      subst hf
      refine ⟨mu, ow, ε, r.1, r.2, S, e, fun v H1 ow1 S1 fr1 r1 => ?_⟩
      obtain ⟨ow2, S2, fr2⟩ := S1.store fr1 r1 e2
      exact k _ H1 ow2 S2 fr2
/-- a target that unpacks a frozen value -/
def sAsg (g : GM) (f : EM) : SM := fun ε => (fzE f ε).bind fun r => (escV r.2 r.1).bind fun q => (g q.1 q.2).map fun ε' => .nx ε'
theorem ds_asg {vs : List Nat} {st : Stmt} {f : EM} {g : TG} {gD : GM} (tg : TgS X.K ct vs g gD) (h : PS X st (tAsg (tE X.K ct (fzE f)) g)) : PS X st (tS X.K ct (sAsg gD f)) := h.imp fun E σ H ⟨mu, ow, ε, out, S, hf, k⟩ => by
  unfold sAsg at hf
  cases e : fzE f ε with
  | none => simp [e] at hf
  | some r =>
    simp only [e, Option.bind_some] at hf
    cases e2 : escV r.2 r.1 with
    | none => simp [e2] at hf
    | some q =>
      simp only [e2, Option.bind_some] at hf
      cases e3 : gD q.1 q.2 with
      | none => simp [e3] at hf
      | some ε' =>
        simp only [e3, Option.map_some, Option.some.injEq] at hf
        subst hf
        refine ⟨mu, ow, ε, r.1, r.2, S, e, fun v H1 ow1 S1 fr1 r1 => ?_⟩
        obtain ⟨va, ha, hv⟩ := fzE_some e
        rw [hv] at r1 e2
        obtain ⟨ow2, S2, fr2, r2⟩ := VR.esc S1 r1 e2
        exact tg mu ow2 q.2 σ H1 v q.1 ε' _ S2 r2 e3 fun σ' S' _ => k σ' H1 ow2 S' (fr1.trans fr2)
end
end KD

set_option maxHeartbeats 4000000
namespace KD
open PySem L2
section
variable {X : Cx} {ct : Nat → Addr} {Γ : Gam}

/-! ### for, while -/
abbrev IM := SE → Option (List D × SE)
def ItOk (Γ : Gam) (F : Hp) (J : It) (ds : List D) : Prop := ds.length ≤ 16777216 ∧ ∀ (i : Nat) (H : Hp), Sub F H → (ds.length = i → J.stop i H) ∧ ∀ d, ds[i]? = some d → J.go i H ∧ ∀ x H', J.yld i H x H' → Fresh Γ F H x H' (.d d)
theorem Fresh.mono {F F' H H' : Hp} {v : V} {val : Val} (s : Sub F F') (h : Fresh Γ F H v H' val) : Fresh Γ F' H v H' val := by
  cases h with
  | same h => exact .same (h.mono s)
  | tup h d r l => exact .tup h d (r.mono s) l
  | pair h r => exact .pair h (r.mono s)
  | lst h r l => exact .lst h (r.mono s) l
  | dct h l r => exact .dct h l (r.mono s)
def tI (K : PySem.W.Frag) (ct : Nat → Addr) (f : IM) : TI := fun σ H R => ∃ mu ow ε ds ε', Sim ⟨K, ct, mu⟩ ow ε σ H ∧ f ε = some (ds, ε') ∧
  ∀ J H' ow', Sim ⟨K, ct, mu⟩ ow' ε' σ H' → Fr ow H ow' H' → ItOk ⟨K, ct, mu⟩ (cut H' ow') J ds → R J H'
theorem _root_.L2.PI.imp {X : Cx} {tg iter : Expr} {t t' : TI} (h : PI X tg iter t) (i : ∀ σ H R, t' σ H R → t σ H R) : PI X tg iter t' :=
  ⟨fun pins s σ H R I q => h.run pins s σ H R I (i σ H R q)⟩
def loopF (g : GM) (body : SM) : List D → SE → Option Out
  | [], ε => some (.nx ε)
  | d :: ds, ε => (g d ε).bind fun ε1 => (body ε1).bind fun o => match o with
    | .nx ε2 => loopF g body ds ε2
    | .ct ε2 => loopF g body ds ε2
    | .bk ε2 => some (.nx ε2)
    | .rt v ε2 => some (.rt v ε2)
def sFor (fi : IM) (g : GM) (body : SM) : SM := fun ε => (fi ε).bind fun r => loopF g body r.1 r.2
theorem for_imp {K : PySem.W.Frag} {vs : List Nat} {fi : IM} {g : TG} {gD : GM} {body : SM} (tg : TgS K ct vs g gD) (E : Ends) (σ : L2.St) (H : Hp) (h : tS K ct (sFor fi gD body) E σ H) : tFor (tI K ct fi) g (tS K ct body) E σ H := by
  obtain ⟨mu, ow, ε, out, S, hf, k⟩ := h
  unfold sFor at hf
  cases e : fi ε with
  | none => simp [e] at hf
  | some r =>
    simp only [e, Option.bind_some] at hf
    refine ⟨mu, ow, ε, r.1, r.2, S, e, fun J H1 ow1 S1 fr1 hJ => ?_⟩
    refine ⟨fun i m σ H => m = r.1.length - i ∧ i ≤ r.1.length ∧ ∃ ow2 ε2, Sim ⟨K, ct, mu⟩ ow2 ε2 σ H ∧ Fr ow1 H1 ow2 H ∧ loopF gD body (r.1.drop i) ε2 = some out, ⟨r.1.length - 0, rfl, Nat.zero_le _, ow1, r.2, S1, Fr.refl, hf⟩, fun i m σ2 H2 hW => ?_⟩
    obtain ⟨rfl, hile, ow2, ε2, S2, fr2, hl⟩ := hW
    have sb : Sub (cut H1 ow1) (cut H2 ow2) := fr2.sub
    have kk : PostS K ct mu ow2 H2 E out := (k.later fr1).later fr2
    by_cases hi : i < r.1.length
    · have hd : r.1[i]? = some r.1[i] := List.getElem?_eq_getElem hi
      obtain ⟨hgo, hy⟩ := (hJ.2 i H2 (sb.trans cut_sub)).2 _ hd
      rw [List.drop_eq_getElem_cons hi] at hl
      have hl' : ((gD r.1[i] ε2).bind fun ε1 => (body ε1).bind fun o => match o with
        | .nx ε2 => loopF gD body (r.1.drop (i + 1)) ε2
        | .ct ε2 => loopF gD body (r.1.drop (i + 1)) ε2
        | .bk ε2 => some (.nx ε2)
        | .rt v ε2 => some (.rt v ε2)) = some out := hl
      cases e1 : gD r.1[i] ε2 with
      | none => simp [e1] at hl'
      | some ε3 =>
        simp only [e1, Option.bind_some] at hl'
        cases e2 : body ε3 with
        | none => simp [e2] at hl'
        | some o =>
          simp only [e2, Option.bind_some] at hl'
          refine .inr ⟨hgo, fun σ' H' => ∃ ow3 ε4, Sim ⟨K, ct, mu⟩ ow3 ε4 σ' H' ∧ Fr ow1 H1 ow3 H' ∧ loopF gD body (r.1.drop (i + 1)) ε4 = some out, fun σ' H' ⟨ow3, ε4, S3, fr3, h3⟩ => ⟨r.1.length - (i + 1), by omega, rfl, by omega, ow3, ε4, S3, fr3, h3⟩, fun x H' hx => ?_⟩
          obtain ⟨ow3, S3, fr3, r3⟩ := Fresh.sim S2 ((hy x H' hx).mono sb)
          refine tg mu ow3 ε2 σ2 H' x _ ε3 _ S3 r3 e1 fun σ4 S4 _ => ⟨mu, ow3, ε3, o, S4, e2, ?_⟩
          have k3 : PostS K ct mu ow3 H' E out := kk.later fr3
          cases o with
          | nx ε5 => exact fun σ' H' ow' S' f => ⟨ow', ε5, S', (fr2.trans fr3).trans f, hl'⟩
          | ct ε5 => exact fun σ' H' ow' S' f => ⟨ow', ε5, S', (fr2.trans fr3).trans f, hl'⟩
          | bk ε5 => cases hl'; exact k3
          | rt v ε5 => cases hl'; exact k3
    · have hl2 : r.1.drop i = [] := List.drop_eq_nil_of_le (by omega)
      rw [hl2] at hl
      cases hl
      exact .inl ⟨(hJ.2 i H2 (sb.trans cut_sub)).1 (by omega), kk σ2 H2 ow2 S2 Fr.refl⟩
theorem ds_for {tgt iter : Expr} {body : List Stmt} {pos : Pos} {vs : List Nat} {fi : IM} {g : TG} {gD : GM} {fb : SM} (hp : PassesOwn (model X.prog X.w) X.A X.env X.xe) (hc : X.calm = true) (tg : TgS X.K ct vs g gD) (hi : PI X tgt iter (tI X.K ct fi)) (hg : PG X tgt g)
    (hb : PSs X body (tS X.K ct fb)) (mk : PI X tgt iter (tI X.K ct fi) → PG X tgt g → PSs X body (tS X.K ct fb) → PS X (.For tgt iter body [] pos) (tFor (tI X.K ct fi) g (tS X.K ct fb))) : PS X (.For tgt iter body [] pos) (tS X.K ct (sFor fi gD fb)) :=
  (mk hi hg hb).imp (for_imp tg)
def loopW (c : BM) (body : SM) : Nat → SE → Option Out
  | 0, _ => none
  | n + 1, ε => (c ε).bind fun r => if r.1 = true then (body r.2).bind fun o => match o with
    | .nx ε2 => loopW c body n ε2
    | .ct ε2 => loopW c body n ε2
    | .bk ε2 => some (.nx ε2)
    | .rt v ε2 => some (.rt v ε2)
    else some (.nx r.2)
def sWhile (n : Nat) (c : BM) (body : SM) : SM := fun ε => loopW c body n ε
theorem ds_while {c : Expr} {body : List Stmt} {pos : Pos} {n : Nat} {tc : BM} {fb : SM} (hp : PassesOwn (model X.prog X.w) X.A X.env X.xe) (hc : PT X c (tT X.K ct tc)) (hb : PSs X body (tS X.K ct fb)) : PS X (.While c body [] pos) (tS X.K ct (sWhile n tc fb)) :=
  (ps_while hp hc hb).imp fun E σ H ⟨mu, ow, ε, out, S, hf, k⟩ => by
    refine ⟨fun m σ H2 => ∃ ow2 ε2, Sim ⟨X.K, ct, mu⟩ ow2 ε2 σ H2 ∧ Fr ow H ow2 H2 ∧ loopW tc fb m ε2 = some out, ⟨n, ow, ε, S, Fr.refl, hf⟩, fun m σ2 H2 hW => ?_⟩
    obtain ⟨ow2, ε2, S2, fr2, hl⟩ := hW
    cases m with
    | zero => cases hl
    | succ m =>
      have hl' : ((tc ε2).bind fun r => if r.1 = true then (fb r.2).bind fun o => match o with
        | .nx ε2 => loopW tc fb m ε2
        | .ct ε2 => loopW tc fb m ε2
        | .bk ε2 => some (.nx ε2)
        | .rt v ε2 => some (.rt v ε2)
        else some (.nx r.2)) = some out := hl
      cases e : tc ε2 with
      | none => simp [e] at hl'
      | some r =>
        simp only [e, Option.bind_some] at hl'
        refine tT_then e S2 fun H3 ow3 S3 fr3 => ?_
        by_cases hb : r.1 = true
        · rw [if_pos hb] at hl' ⊢
          cases e2 : fb r.2 with
          | none => simp [e2] at hl'
          | some o =>
            simp only [e2, Option.bind_some] at hl'
            refine ⟨fun σ' H' => ∃ ow2 ε2, Sim ⟨X.K, ct, mu⟩ ow2 ε2 σ' H' ∧ Fr ow H ow2 H' ∧ loopW tc fb m ε2 = some out, fun σ' H' h => ⟨m, Nat.lt_succ_self _, h⟩, mu, ow3, r.2, o, S3, e2, ?_⟩
            have k3 : PostS X.K ct mu ow3 H3 E out := k.later (fr2.trans fr3)
            cases o with
            | nx ε5 => exact fun σ' H' ow' S' f => ⟨ow', ε5, S', (fr2.trans fr3).trans f, hl'⟩
            | ct ε5 => exact fun σ' H' ow' S' f => ⟨ow', ε5, S', (fr2.trans fr3).trans f, hl'⟩
            | bk ε5 => cases hl'; exact k3
            | rt v ε5 => cases hl'; exact k3
        · rw [if_neg hb] at hl' ⊢
          cases hl'
          exact k σ2 H3 ow3 S3 (fr2.trans fr3)

/-! ### comprehensions -/
def wipeS (ε : SE) : List Nat → SE
  | [] => ε
  | v :: vs => setS (wipeS ε vs) v .no
def keepS (s : Option Sl) : Sl := match s with
  | some (.d d) => .d d
  | _ => .no
def restS (ε0 ε : SE) : List Nat → SE
  | [] => ε
  | v :: vs => setS (restS ε0 ε vs) v (keepS ε0.sl[v]?)
theorem wipeS_len (ε : SE) : ∀ vs, (wipeS ε vs).sl.length = ε.sl.length
  | [] => rfl
  | v :: vs => by show ((wipeS ε vs).sl.set v .no).length = _; rw [List.length_set, wipeS_len ε vs]
theorem wipeS_M (ε : SE) : ∀ vs, (wipeS ε vs).M = ε.M
  | [] => rfl
  | v :: vs => wipeS_M ε vs
theorem restS_len (ε0 ε : SE) : ∀ vs, (restS ε0 ε vs).sl.length = ε.sl.length
  | [] => rfl
  | v :: vs => by show ((restS ε0 ε vs).sl.set v _).length = _; rw [List.length_set, restS_len ε0 ε vs]
theorem restS_M (ε0 ε : SE) : ∀ vs, (restS ε0 ε vs).M = ε.M
  | [] => rfl
  | v :: vs => restS_M ε0 ε vs
theorem wipeS_get {ε : SE} {j : Nat} : ∀ {vs : List Nat}, (wipeS ε vs).sl[j]? = if j ∈ vs then (ε.sl[j]?).map (fun _ => Sl.no) else ε.sl[j]?
  | [] => by simp [wipeS]
  | v :: vs => by
    show ((wipeS ε vs).sl.set v .no)[j]? = _
    by_cases h : v = j
    · subst h
      rw [List.getElem?_set]
      simp only [if_true, List.mem_cons, true_or, wipeS_len]
      by_cases hl : v < ε.sl.length
      · rw [if_pos hl, List.getElem?_eq_getElem hl]; rfl
      · rw [if_neg hl, List.getElem?_eq_none (by omega)]; rfl
    · rw [List.getElem?_set_ne h, wipeS_get (vs := vs)]
      simp only [List.mem_cons]
      by_cases hm : j ∈ vs
      · simp [hm]
      · simp [hm, Ne.symm h]
theorem restS_get {ε0 ε : SE} {j : Nat} : ∀ {vs : List Nat}, (restS ε0 ε vs).sl[j]? = if j ∈ vs then (ε.sl[j]?).map (fun _ => keepS ε0.sl[j]?) else ε.sl[j]?
  | [] => by simp [restS]
  | v :: vs => by
    show ((restS ε0 ε vs).sl.set v _)[j]? = _
    by_cases h : v = j
    · subst h
      rw [List.getElem?_set]
      simp only [if_true, List.mem_cons, true_or, restS_len]
      by_cases hl : v < ε.sl.length
      · rw [if_pos hl, List.getElem?_eq_getElem (l := ε.sl) hl]; rfl
      · rw [if_neg hl, List.getElem?_eq_none (l := ε.sl) (by omega)]; rfl
    · rw [List.getElem?_set_ne h, restS_get (vs := vs)]
      simp only [List.mem_cons]
      by_cases hm : j ∈ vs
      · simp [hm]
      · simp [hm, Ne.symm h]
theorem Sim.wipe {ow : OwF} {ε : SE} {σ : L2.St} {H : Hp} (vs : List Nat) (S : Sim Γ ow ε σ H) : Sim Γ ow (wipeS ε vs) (L2.wipe σ vs) H := by
  refine ⟨by rw [wipe_length, wipeS_len, S.len], fun i d h => ?_, fun i m h => ?_, by rw [wipeS_M]; exact S.mo⟩
  · rw [wipeS_get] at h
    by_cases hi : i ∈ vs
    · rw [if_pos hi] at h
      cases e : ε.sl[i]? <;> rw [e] at h <;> simp at h
    · rw [if_neg hi] at h
      rw [wipe_get, if_neg hi]
      exact S.sd i d h
  · rw [wipeS_get] at h
    by_cases hi : i ∈ vs
    · rw [if_pos hi] at h
      cases e : ε.sl[i]? <;> rw [e] at h <;> simp at h
    · rw [if_neg hi] at h
      rw [wipe_get, if_neg hi]
      exact S.so i m h
theorem Sim.rest {ow0 ow : OwF} {ε0 ε : SE} {σ : L2.St} {H0 H : Hp} {vs : List Nat} (S0 : Sim Γ ow0 ε0 σ H0) (fr : Fr ow0 H0 ow H) (S : Sim Γ ow (wipeS ε vs) (L2.wipe σ vs) H) : Sim Γ ow (restS ε0 ε vs) σ H := by
  have hl := S.len
  rw [wipe_length, wipeS_len] at hl
  refine ⟨by rw [restS_len, hl], fun i d h => ?_, fun i m h => ?_, by have := S.mo; rw [wipeS_M] at this; rw [restS_M]; exact this⟩
  · rw [restS_get] at h
    by_cases hi : i ∈ vs
    · rw [if_pos hi] at h
      cases e : ε.sl[i]? with
      | none => rw [e] at h; cases h
      | some q =>
        rw [e] at h
        simp only [Option.map_some, Option.some.injEq] at h
        unfold keepS at h
        split at h
        · rename_i d' hd
          cases h
          obtain ⟨v, h1, h2⟩ := S0.sd i d hd
          exact ⟨v, h1, h2.mono fr.sub⟩
        · cases h
    · rw [if_neg hi] at h
      obtain ⟨v, h1, h2⟩ := S.sd i d (by rw [wipeS_get, if_neg hi]; exact h)
      rw [wipe_get, if_neg hi] at h1
      exact ⟨v, h1, h2⟩
  · rw [restS_get] at h
    by_cases hi : i ∈ vs
    · rw [if_pos hi] at h
      cases e : ε.sl[i]? with
      | none => rw [e] at h; cases h
      | some q =>
        rw [e] at h
        simp only [Option.map_some, Option.some.injEq] at h
        unfold keepS at h
        split at h <;> cases h
    · rw [if_neg hi] at h
      obtain ⟨v, h1, h2, h3⟩ := S.so i m (by rw [wipeS_get, if_neg hi]; exact h)
      rw [wipe_get, if_neg hi] at h1
      exact ⟨v, h1, h2, h3⟩
def yesB : BM := fun ε => some (true, ε)
def escE (f : EM) (ε : SE) : Option (D × SE) := (fzE f ε).bind fun r => escV r.2 r.1
theorem escE_some {f : EM} {ε : SE} {r : D × SE} (h : escE f ε = some r) : ∃ ra, fzE f ε = some ra ∧ escV ra.2 ra.1 = some r := by
  unfold escE at h
  cases e : fzE f ε with
  | none => simp [e] at h
  | some ra => simp only [e, Option.bind_some] at h; exact ⟨ra, rfl, h⟩
def compL (g : GM) (tt : BM) (te : EM) (vs : List Nat) : List D → SE → Option (List D × SE)
  | [], ε => some ([], ε)
  | d :: ds, ε => (g d (wipeS ε vs)).bind fun ε1 => (tt ε1).bind fun r => if r.1 = true then (escE te r.2).bind fun y => (compL g tt te vs ds y.2).map fun q => (y.1 :: q.1, q.2) else compL g tt te vs ds r.2
def eLc (fi : IM) (g : GM) (tt : BM) (te : EM) (vs : List Nat) : EM := fun ε => (fi ε).bind fun r => (compL g tt te vs r.1 r.2).map fun q => (.new (.lst q.1), restS r.2 q.2 vs)
theorem compL_len {g : GM} {tt : BM} {te : EM} {vs : List Nat} : ∀ {ds : List D} {ε : SE} {q : List D × SE}, compL g tt te vs ds ε = some q → q.1.length ≤ ds.length
  | [], ε, q, h => by cases h; exact Nat.le_refl _
  | d :: ds, ε, q, h => by
    have h' : ((g d (wipeS ε vs)).bind fun ε1 => (tt ε1).bind fun r => if r.1 = true then (escE te r.2).bind fun y => (compL g tt te vs ds y.2).map fun q => (y.1 :: q.1, q.2) else compL g tt te vs ds r.2) = some q := h
    cases e1 : g d (wipeS ε vs) with
    | none => simp [e1] at h'
    | some ε1 =>
      simp only [e1, Option.bind_some] at h'
      cases e2 : tt ε1 with
      | none => simp [e2] at h'
      | some r =>
        simp only [e2, Option.bind_some] at h'
        by_cases hb : r.1 = true
        · rw [if_pos hb] at h'
          cases e3 : escE te r.2 with
          | none => simp [e3] at h'
          | some y =>
            simp only [e3, Option.bind_some] at h'
            cases e4 : compL g tt te vs ds y.2 with
            | none => simp [e4] at h'
            | some q' =>
              simp only [e4, Option.map_some, Option.some.injEq] at h'
              subst h'
              have := compL_len e4
              simp only [List.length_cons]
              omega
        · rw [if_neg hb] at h'
          have := compL_len h'
          simp only [List.length_cons]
          omega
theorem lc_imp {K : PySem.W.Frag} {us vs : List Nat} {fi : IM} {g : TG} {gD : GM} {tt : BM} {te : EM} (tg : TgS K ct us g gD) (hus : ∀ i ∈ us, i ∈ vs) (σ : L2.St) (H : Hp) (Q : VK) (h : tE K ct (eLc fi gD tt te vs) σ H Q) :
    tLc (tI K ct fi) g (tT K ct tt) (tE K ct (fzE te)) vs σ H Q := by
  obtain ⟨mu, ow, ε, val, ε', S, hf, k⟩ := h
  unfold eLc at hf
  cases e : fi ε with
  | none => simp [e] at hf
  | some r =>
    simp only [e, Option.bind_some] at hf
    cases e1 : compL gD tt te vs r.1 r.2 with
    | none => simp [e1] at hf
    | some q =>
      simp only [e1, Option.map_some, Option.some.injEq, Prod.mk.injEq] at hf
      obtain ⟨rfl, rfl⟩ := hf
      refine ⟨mu, ow, ε, r.1, r.2, S, e, fun J H1 ow1 S1 fr1 hJ Da hD => ?_⟩
      have hsz := hJ.1
      obtain ⟨S1', fr1'⟩ := S1.alloc (o := .lst []) hD (some .tmp)
      refine ⟨fun i m H2 => m = r.1.length - i ∧ i ≤ r.1.length ∧ ∃ ow2 ε2 acc us rest, Sim ⟨K, ct, mu⟩ ow2 (wipeS ε2 vs) (L2.wipe σ vs) H2 ∧ Fr ow1 H1 ow2 H2 ∧ ow2 Da = some .tmp ∧ H2 Da = some (.lst us) ∧ RpAll ⟨K, ct, mu⟩ (cut H2 ow2) us acc ∧
          compL gD tt te vs (r.1.drop i) ε2 = some rest ∧ q = (acc ++ rest.1, rest.2) ∧ acc.length ≤ i,
        ⟨r.1.length - 0, rfl, Nat.zero_le _, setO ow1 Da (some .tmp), r.2, [], [], q, S1'.wipe vs, fr1', setO_same, upd_same, .nil, e1, rfl, Nat.zero_le _⟩, fun i m H2 hW => ?_⟩
      obtain ⟨rfl, hile, ow2, ε2, acc, us', rest, S2, fr2, hT, hL, ra, hc, hq, hai⟩ := hW
      have sb : Sub (cut H1 ow1) (cut H2 ow2) := fr2.sub
      by_cases hi : i < r.1.length
      · have hd : r.1[i]? = some r.1[i] := List.getElem?_eq_getElem hi
        obtain ⟨hgo, hy⟩ := (hJ.2 i H2 (sb.trans cut_sub)).2 _ hd
        rw [List.drop_eq_getElem_cons hi] at hc
        have hc' : ((gD r.1[i] (wipeS ε2 vs)).bind fun ε1 => (tt ε1).bind fun r' => if r'.1 = true then (escE te r'.2).bind fun y => (compL gD tt te vs (r.1.drop (i + 1)) y.2).map fun q => (y.1 :: q.1, q.2) else compL gD tt te vs (r.1.drop (i + 1)) r'.2) = some rest := hc
        cases e2 : gD r.1[i] (wipeS ε2 vs) with
        | none => simp [e2] at hc'
        | some ε3 =>
          simp only [e2, Option.bind_some] at hc'
          cases e3 : tt ε3 with
          | none => simp [e3] at hc'
          | some tb =>
            simp only [e3, Option.bind_some] at hc'
            refine .inr ⟨hgo, fun H' => ∃ ow2 ε2 acc us rest, Sim ⟨K, ct, mu⟩ ow2 (wipeS ε2 vs) (L2.wipe σ vs) H' ∧ Fr ow1 H1 ow2 H' ∧ ow2 Da = some .tmp ∧ H' Da = some (.lst us) ∧ RpAll ⟨K, ct, mu⟩ (cut H' ow2) us acc ∧
              compL gD tt te vs (r.1.drop (i + 1)) ε2 = some rest ∧ q = (acc ++ rest.1, rest.2) ∧ acc.length ≤ i + 1, fun H' hN => ⟨r.1.length - (i + 1), by omega, rfl, by omega, hN⟩, fun x H' hx => ?_⟩
            obtain ⟨ow3, S3, fr3, r3⟩ := Fresh.sim S2 ((hy x H' hx).mono sb)
            refine tg mu ow3 (wipeS ε2 vs) (L2.wipe σ vs) H' x _ ε3 _ S3 r3 e2 fun σ4 S4 w4 => ?_
            have hw : L2.wipe σ4 vs = L2.wipe σ vs := by
              rw [w4 vs hus]
              refine List.ext_getElem? fun j => ?_
              rw [wipe_get, wipe_get]
              by_cases hj : j ∈ vs
              · rw [if_pos hj, if_pos hj, Option.map_map]; rfl
              · rw [if_neg hj, if_neg hj]
            refine ⟨hw, ?_⟩
            refine tT_then e3 S4 fun H5 ow5 S5 fr5 => ?_
            have fr25 := fr3.trans fr5
            obtain ⟨hT5, hL5⟩ := fr25.ke Da _ .tmp hL hT (.inl rfl)
            have ra5 := ra.mono fr25.sub
            by_cases hb : tb.1 = true
            · rw [if_pos hb] at hc' ⊢
              cases e4 : escE te tb.2 with
              | none => simp [e4] at hc'
              | some y =>
                simp only [e4, Option.bind_some] at hc'
                cases e5 : compL gD tt te vs (r.1.drop (i + 1)) y.2 with
                | none => simp [e5] at hc'
                | some rest2 =>
                  simp only [e5, Option.map_some, Option.some.injEq] at hc'
                  subst hc'
                  obtain ⟨yv, e6, e7⟩ := escE_some e4
                  refine ⟨mu, ow5, tb.2, yv.1, yv.2, S5, e6, fun v H6 ow6 S6 fr6 r6 => ?_⟩
                  obtain ⟨va, ha, hv⟩ := fzE_some e6
                  rw [hv] at r6 e7
                  obtain ⟨ow7, S7, fr7, r7⟩ := VR.esc S6 r6 e7
                  have fr57 := fr6.trans fr7
                  obtain ⟨hT7, hL7⟩ := fr57.ke Da _ .tmp hL5 hT5 (.inl rfl)
                  have ra7 := ra5.mono fr57.sub
                  have hll : us'.length = acc.length := ra.length
                  refine ⟨us', hL7, Nat.lt_of_lt_of_le (m := r.1.length) (by omega) (sz_line hsz), ?_⟩
                  -- the list grows
                  have hcut : cut (upd H6 Da (.lst (us' ++ [v]))) ow7 = cut H6 ow7 := by
                    funext a
                    by_cases haD : a = Da
                    · subst haD; unfold cut; rw [hT7]
                    · unfold cut; rw [upd_ne haD]
                  have S8 : Sim ⟨K, ct, mu⟩ ow7 y.2 σ4 (upd H6 Da (.lst (us' ++ [v]))) := S7.move (by rw [hcut]; exact Sub.refl _) fun a o w h e q => by
                    have n : a ≠ Da := by
                      rintro rfl
                      rw [hT7] at e; cases e
                      rcases q with ⟨_, q⟩ | ⟨_, q⟩ <;> cases q
                    exact ⟨e, by rw [upd_ne n]; exact h⟩
                  have fr8 : Fr ow1 H1 ow7 (upd H6 Da (.lst (us' ++ [v]))) := by
                    have f := (fr2.trans fr25).trans fr57
                    have ne : ∀ a o, H1 a = some o → a ≠ Da := fun a o h => ne_of_none h hD
                    exact ⟨fun a o h e => by rw [upd_ne (ne a o h)]; exact f.fz a o h e, fun a o w h e q => by rw [upd_ne (ne a o h)]; exact f.ke a o w h e q,
                      fun a o h => by rw [upd_ne (ne a o h)]; exact f.tr a o h, f.ob⟩
                  refine ⟨ow7, y.2, acc ++ [y.1], us' ++ [v], rest2, ?_, fr8, hT7, upd_same, ?_, e5, ?_, by rw [List.length_append]; simp only [List.length_singleton]; omega⟩
                  · have := S8.wipe vs
                    rw [hw] at this
                    exact this
                  · rw [hcut]; exact ra7.append (.one r7)
                  · rw [hq, List.append_assoc]; rfl
            · rw [if_neg hb] at hc' ⊢
              refine ⟨ow5, tb.2, acc, us', rest, ?_, fr2.trans fr25, hT5, hL5, ra5, hc', hq, by omega⟩
              have := S5.wipe vs
              rw [hw] at this
              exact this
      · have hl2 : r.1.drop i = [] := List.drop_eq_nil_of_le (by omega)
        rw [hl2] at hc
        cases hc
        refine .inl ⟨(hJ.2 i H2 (sb.trans cut_sub)).1 (by omega), ?_⟩
        have hq' : q = (acc, ε2) := by rw [hq]; simp
        subst hq'
        exact k _ H2 ow2 (Sim.rest S1 fr2 S2) (fr1.trans fr2) ⟨Da, rfl, hT, fr1.none hD, us', hL, ra, by show acc.length ≤ 16777216; omega⟩
end
end KD

set_option maxHeartbeats 4000000
namespace KD
open PySem L2

/-! ### enumerate and zip over lists, tuples, texts in any mix -/
inductive Sk | lst (a : Addr) | tup (a : Addr) | txt (x : Str) (t : Tok)
def Sk.val : Sk → Value
  | .lst a => .ref a
  | .tup a => .ref a
  | .txt x t => .str x t
def Sk.itp (k : Sk) (it : Addr) (i : Nat) (h : Heap) : Prop := match k with
  | .lst a => h.IsListIter it a i
  | .tup a => h.IsTupleIter it a i
  | .txt x t => h.IsStrIter it (strIterType x) x t i
def Sk.obj : Sk → Obj
  | .lst a => { cls := .type "list_iterator", data := .fields #[.ref a, .int 0 0] }
  | .tup a => { cls := .type "tuple_iterator", data := .fields #[.ref a, .int 0 0] }
  | .txt x t => { cls := .type (strIterType x), data := .fields #[.str x t, .int 0 0] }
def Sk.ok (k : Sk) (K : PySem.W.Frag) (H : Hp) (xs : List V) : Prop := match k with
  | .lst a => SqL K H a xs
  | .tup a => SqT K H a xs
  | .txt x _ => xs = x.cps.toList.map fun c => V.str ⟨#[c]⟩
def Sk.box : Sk → List Addr
  | .lst a => [a]
  | .tup a => [a]
  | .txt _ _ => []
section
variable {X : Cx} {pins : List (Addr × Obj)} {σ : L2.St} {H : Hp} {s : Shared} {K : PySem.W.Frag}
theorem Sk.keep {k : Sk} {it : Addr} {i : Nat} {h h' : Heap} (st : k.itp it i h) (q : ∀ o, h.get? it = some o → h'.get? it = some o) : k.itp it i h' := by
  cases k with
  | lst a => exact Heap.IsListIter.at st q
  | tup a => exact Heap.IsTupleIter.at st q
  | txt x t => obtain ⟨o, ho, r⟩ := st; exact ⟨o, q o ho, r⟩
theorem Sk.live {k : Sk} {it : Addr} {i : Nat} {h : Heap} (st : k.itp it i h) : ∃ o, h.get? it = some o ∧ ∀ v, o.data ≠ .cell v := by
  cases k with
  | lst a => obtain ⟨o, ho, c, d⟩ := st; exact ⟨o, ho, fun v z => by rw [d] at z; cases z⟩
  | tup a => obtain ⟨o, ho, c, d⟩ := st; exact ⟨o, ho, fun v z => by rw [d] at z; cases z⟩
  | txt x t => obtain ⟨o, ho, c, d⟩ := st; exact ⟨o, ho, fun v z => by rw [d] at z; cases z⟩
theorem Sk.first {k : Sk} {it : Addr} {h : Heap} (e : h.get? it = some k.obj) : k.itp it 0 h := by
  cases k with
  | lst a => exact ⟨_, e, rfl, rfl⟩
  | tup a => exact ⟨_, e, rfl, rfl⟩
  | txt x t => exact ⟨_, e, rfl, rfl⟩
theorem Sk.apart {k : Sk} {xs : List V} {b : Addr} (I : Inv X pins σ H s) (ok : k.ok X.K H xs) (hb : FpOk X pins H b) : b ∉ k.box := by
  have base : ∀ a o, X.K.lookup a = some o → b ≠ a := fun a o e => by
    rintro rfl
    have hbs : X.base.get? b = some o := I.ok.mod.kin b o e
    rcases hb.2.2.2.1 with z | z
    · exact I.ok.noex b o hbs z
    · exact absurd (Nat.lt_of_lt_of_le (Heap.lt_size hbs) I.ok.bsz) (Nat.not_lt.mpr z)
  have rd : ∀ a u, Rd H a u → b ≠ a := fun a u r => by
    rintro rfl
    rcases r with r | ⟨o, r⟩ <;> rw [hb.1] at r <;> cases r
  cases k with
  | lst a =>
    intro hm
    have hm : b = a := by simpa [Sk.box] using hm
    subst hm
    rcases ok with r | ⟨o, its, n, e, _⟩
    · exact rd _ _ r rfl
    · exact base _ _ e rfl
  | tup a =>
    intro hm
    have hm : b = a := by simpa [Sk.box] using hm
    subst hm
    rcases ok with r | ⟨o, its, n, e, _⟩
    · exact rd _ _ r rfl
    · exact base _ _ e rfl
  | txt x t => intro hm; simp [Sk.box] at hm
/-- the source drawn from at this state -/
theorem Sk.draws {k : Sk} {xs : List V} {A : Around} {it : Addr} (hh : A.handled = none) (I : Inv X pins σ H s) (ok : k.ok X.K H xs) (hit : it ∉ k.box) :
    ∃ (P : Nat → Value → Prop) (St : Nat → Heap → Prop), Draws X.prog X.w A it (it :: k.box) xs.length P St ∧ (∀ i, k.itp it i s.heap → St i s.heap) ∧ (∀ i h, St i h → k.itp it i h) ∧ ∀ i v, P i v → ∃ x, xs[i]? = some x ∧ RelV x v := by
  cases k with
  | lst a =>
    obtain ⟨its, rv, p, _⟩ := I.list ok
    have hne : a ≠ it := fun e => hit (by rw [e]; simp [Sk.box])
    have hn : its.toArray.size = xs.length := by rw [List.size_toArray, rv.length]
    refine ⟨_, fun i h => h.IsListIter it a i ∧ h.IsList a its.toArray, by rw [← hn]; exact Draws.list hh it a hne its.toArray, fun i st => ⟨st, p.isList⟩, fun i h st => st.1, fun i v hv => ?_⟩
    have hv' : its[i]? = some v := by simpa using hv
    cases e : xs[i]? with
    | none => rw [rv.none_of e] at hv'; cases hv'
    | some x =>
      obtain ⟨u, hu, ru⟩ := rv.get e
      rw [hv'] at hu; cases hu
      exact ⟨x, rfl, ru⟩
  | tup a =>
    obtain ⟨its, rv, p, _⟩ := I.tuple ok
    have hne : a ≠ it := fun e => hit (by rw [e]; simp [Sk.box])
    have hn : its.toArray.size = xs.length := by rw [List.size_toArray, rv.length]
    refine ⟨_, fun i h => h.IsTupleIter it a i ∧ h.IsTuple a its.toArray, by rw [← hn]; exact Draws.tuple hh it a hne its.toArray, fun i st => ⟨st, p⟩, fun i h st => st.1, fun i v hv => ?_⟩
    have hv' : its[i]? = some v := by simpa using hv
    cases e : xs[i]? with
    | none => rw [rv.none_of e] at hv'; cases hv'
    | some x =>
      obtain ⟨u, hu, ru⟩ := rv.get e
      rw [hv'] at hu; cases hu
      exact ⟨x, rfl, ru⟩
  | txt x t =>
    have ok' : xs = x.cps.toList.map fun c => V.str ⟨#[c]⟩ := ok
    have hn : x.cps.size = xs.length := by rw [ok']; simp
    refine ⟨_, _, by rw [← hn]; exact Draws.text hh it x t, fun i st => st, fun i h st => st, fun i v hv => ?_⟩
    obtain ⟨c, u, hc, rfl⟩ := hv
    refine ⟨.str ⟨#[c]⟩, ?_, u, rfl⟩
    rw [ok', List.getElem?_map, show x.cps.toList[i]? = some c by simpa using hc]
    rfl
def Itg (k : Sk) (K : PySem.W.Frag) (xs : List V) (w : Nat → V → V → Prop) : It :=
  ⟨fun i H => k.ok K H xs ∧ i < xs.length, fun i H v H' => ∃ T x y, v = .ref T ∧ H T = none ∧ H' = upd H T (.tup [y, x]) ∧ xs[i]? = some x ∧ w i x y, fun i H => k.ok K H xs ∧ xs.length = i⟩
theorem turn_enumG {P : Program} {w : World} {elts : List Expr} {kk : Nat} {tpos : Pos} {k : Sk} {xs : List V} {e it : Addr} :
    Turn P w K (.Tuple elts kk tpos) (Itg k K xs fun i _ y => y = .int (i : Nat)) [e, it] e (fun i h => (∃ old, IsEnum h e it ((i : Nat) : Int) old) ∧ k.itp it i h ∧ e ≠ it) where
  mem := by simp
  obj := fun i h st b hb => by
    obtain ⟨⟨old, he⟩, hi, _⟩ := st
    have e' : b = e ∨ b = it := by simpa using hb
    rcases e' with z | z
    · rw [z]; exact ⟨_, he, fun v q => nomatch q⟩
    · rw [z]; exact Sk.live hi
  keep := fun i h h' st q => let ⟨⟨old, he⟩, hi, hne⟩ := st; ⟨⟨old, q e (by simp) _ he⟩, Sk.keep hi fun o z => q it (by simp) o z, hne⟩
  item := by
    intro X hP hw hK hc i pins s σ H E I hf st hg
    subst hP hw hK
    obtain ⟨⟨old, he⟩, hit, hne⟩ := st
    obtain ⟨ok, hi⟩ := hg
    have hef := Sk.apart I ok (hf e (by simp))
    have hif := Sk.apart I ok (hf it (by simp))
    obtain ⟨Pp, St, D, st1, st2, hP⟩ := Sk.draws (A := X.A.in1) (it := it) (I.ok.hd hc) I ok hif
    have W := WalksT.enumFrom (prog := X.prog) (w := X.w) (A := X.A) 0 D e hne (by simp only [List.mem_cons, not_or]; exact ⟨hne, hef⟩) List.mem_cons_self
    refine W.item i s _ _ hi ⟨⟨old, by simpa using he⟩, st1 i hit⟩ fun T vals h' tk hv hn hT hmid hk => ⟨_, rfl, W.go elts kk tpos i T { s with heap := h', toks := tk } _ _ hmid fun h'' st' hk' => ?_⟩
    obtain ⟨t, u, hPu, rfl⟩ := hv
    obtain ⟨x, hx, rx⟩ := hP i u hPu
    have hTw : T ∉ [e, it] := W.apart i T h' hmid
    have hT2 : h''.IsTuple T #[.int (0 + (i : Int)) t, u] := hT.at fun o q => hk' T o hTw q
    have new : ObjOk X.prog X.w (upd H T (.tup [.int (i : Nat), x])) h'' T (.tup [.int (i : Nat), x]) :=
      ⟨by show 2 ≤ sizeLine; decide, [.int (0 + (i : Int)) t, u], .cons ⟨t, by rw [Int.zero_add]⟩ (.cons rx .nil), hT2⟩
    have I1 : Inv X pins σ (upd H T (.tup [.int (i : Nat), x])) { s with heap := h'', toks := tk } :=
      I.turnedNew (ch := [e, it]) (fun b ob hb q => hk' b ob hb (hk b ob hb q)) hf hn new
    refine ⟨.ref T, _, I1, rfl, ⟨T, x, _, rfl, I.hok.fresh hn, rfl, hx, rfl⟩, ⟨by simpa using st'.1, st2 _ _ st'.2, hne⟩, fun b hb => ?_⟩
    have nb : b ≠ T := by rintro rfl; exact hTw hb
    rw [upd_ne nb]
    exact (hf b hb).1
  done := by
    intro X hP hw hK hc i pins s σ H E I hf st hg
    subst hP hw hK
    obtain ⟨⟨old, he⟩, hit, hne⟩ := st
    obtain ⟨ok, hi⟩ := hg
    subst hi
    have hef := Sk.apart I ok (hf e (by simp))
    have hif := Sk.apart I ok (hf it (by simp))
    obtain ⟨Pp, St, D, st1, st2, hP⟩ := Sk.draws (A := X.A.in1) (it := it) (I.ok.hd hc) I ok hif
    have W := WalksT.enumFrom (prog := X.prog) (w := X.w) (A := X.A) 0 D e hne (by simp only [List.mem_cons, not_or]; exact ⟨hne, hef⟩) List.mem_cons_self
    exact W.done s _ _ ⟨⟨old, by simpa using he⟩, st1 _ hit⟩ fun h' tk hk => ⟨rfl, I.turnedL (ch := [e, it]) (fun b ob hb q => hk b ob hb q) hf⟩
  self := fun A i s Q E st h => let ⟨⟨_, he⟩, _⟩ := st; wpAny_pyIter_enum he h
theorem Sk.begins (k : Sk) {K : PySem.W.Frag} {xs : List V} (I : Inv X pins σ H s) (ok : k.ok X.K H xs) : ∃ C : Heap → Prop, Begins k.val k.obj C ∧ C s.heap := by
  cases k with
  | lst a =>
    obtain ⟨its, rv, p, _⟩ := I.list ok
    exact ⟨_, begins_list a its.toArray, p.isList⟩
  | tup a =>
    obtain ⟨its, rv, p, _⟩ := I.tuple ok
    exact ⟨_, begins_tuple a its.toArray, p⟩
  | txt x t => exact ⟨_, begins_text x t, trivial⟩
end
set_option maxHeartbeats 4000000 in
theorem meets_enumerate_newB1 {v : Value} {o : Obj} {H : Heap → Prop} (B : Begins v o H) :
    Meets (Builtin.«enumerate.__new__» ⟨[.type "enumerate", v], []⟩) (fun _ R s => H s.heap ∧
      R (.ok (.ret (.ref (s.heap.push o).objs.size))) { s with heap := (s.heap.push o).push { cls := .type "enumerate", data := .fields #[.none, .bool false, .ref s.heap.objs.size, rawInt 0, .none, .none] } }) :=
  .of_wp fun prog w A R s h => by
    obtain ⟨hp, g, d, tk, os⟩ := s; obtain ⟨h1, h⟩ := h
    have hsub := sub_enumerate
    have q1 : ∀ {A' : Around} {E : Value → Shared → Prop} {Q : Value → Shared → Prop}, Q (.ref hp.objs.size) ⟨hp.push o, g, d, tk, os⟩ → wpAny (model prog w) A' (pyIter v) Q E ⟨hp, g, d, tk, os⟩ :=
      fun q => B.iter prog w _ _ ⟨hp, g, d, tk, os⟩ _ h1 q
    wp_walk using q1
    refine wpAny_stack_any fun st => wpAny_pure ?_
    split
    · rename_i c _ _ _ _ _
      cases (c == Value.type "enumerate")
      · wp_walk using q1
        exact ⟨_, rfl, h⟩
      · wp_walk using q1
        exact ⟨_, rfl, h⟩
    · wp_walk using q1
      exact ⟨_, rfl, h⟩
theorem enum_begins1 {prog : Program} {w : World} {A : Around} {E : Value → Shared → Prop} {s : Shared} {v : Value} {o : Obj} {H : Heap → Prop} {Q : Value → Shared → Prop} (B : Begins v o H) (h1 : H s.heap)
    (h : ∀ h', IsEnum h' (s.heap.objs.size + 1) s.heap.objs.size 0 .none → h'.get? s.heap.objs.size = some o → h'.objs.size = s.heap.objs.size + 2 →
      (∀ b o, s.heap.get? b = some o → h'.get? b = some o) → Q (.ref (s.heap.objs.size + 1)) { s with heap := h' }) :
    wpAny (model prog w) A (call (.type "enumerate") [v]) Q E s := by
  refine callType_new F.called_enumerate (by decide) (F.typeCall_enumerate_1 _) (F.newCall_enumerate_1 _) (fun obj => F.args_object_init_2 obj _) F.entry_enumerate_new
    (meets_enumerate_newB1 B) ⟨h1, ?_⟩
  have hz : (s.heap.push o).objs.size = s.heap.objs.size + 1 := Heap.size_push ..
  show _ ∧ _
  rw [hz]
  have he : IsEnum ((s.heap.push o).push { cls := .type "enumerate", data := .fields #[.none, .bool false, .ref s.heap.objs.size, rawInt 0, .none, .none] }) (s.heap.objs.size + 1) s.heap.objs.size 0 .none := by
    have := Heap.get?_push_size (s.heap.push o) (o := { cls := .type "enumerate", data := .fields #[.none, .bool false, .ref s.heap.objs.size, rawInt 0, .none, .none] }) rfl
    rw [hz] at this; exact this
  refine ⟨⟨_, he, rfl⟩, h _ he (Heap.get?_push_of_some _ (Heap.get?_push_size _ B.free)) (by rw [Heap.size_push, hz]) fun b o x => Heap.get?_push_of_some _ (Heap.get?_push_of_some _ x)⟩
section
variable {X : Cx} {pins : List (Addr × Obj)} {σ : L2.St} {H : Hp} {s : Shared} {K : PySem.W.Frag}
/-- what a value is as a source (a text's token is not known) -/
def SkV (K : PySem.W.Frag) (H : Hp) (v : V) (xs : List V) (kf : Tok → Sk) : Prop := (∀ u, RelV v u → ∃ t, (kf t).val = u) ∧ ∀ t, (kf t).ok K H xs
/-- enumerate(v) -/
def iEnumG (K : PySem.W.Frag) (ta : TA) : TI := fun σ H R => ta σ H fun vs H1 => ∃ v xs kf, vs = [v] ∧ SkV K H1 v xs kf ∧ ∀ t, R (Itg (kf t) K xs fun i _ y => y = .int (i : Nat)) H1
theorem pi_enumG {X : Cx} {e : Expr} {ta : TA} {p pos tpos : Pos} {elts : List Expr} {kk : Nat} (hg : Gl X "enumerate") (hm : X.mg "enumerate" = none) (ha : PA X [e] ta) (hs : starEach [e] X.env = [(false, eval e X.env)] := by rfl) :
    PI X (.Tuple elts kk tpos) (.Call (.Name "enumerate" p) [e] [] pos) (iEnumG X.K ta) := by
  refine ⟨fun pins s σ H R I h => ?_⟩
  refine PyProof.Rows.Call_ (ld_blt I hg hm PyProof.Rows.boot_enumerate (PyProof.Rows.callWith_type1 (thn (ha.run pos pins s σ H _ I h) fun us s1 ⟨vs, H1, I1, r1, q1⟩ => ?_) hs rfl))
  obtain ⟨v, xs, kf, ex, hq, q⟩ := q1
  subst ex
  cases r1 with
  | cons r rr =>
    cases rr
    obtain ⟨t, ek⟩ := hq.1 _ r
    subst ek
    have ok := hq.2 t
    obtain ⟨C, B, hC⟩ := Sk.begins (kf t) (K := X.K) I1 ok
    refine enum_begins1 B hC fun h' he hit hsz hk => wpAny_pyIter_enum he ?_
    have I2 : Inv X pins σ H1 { s1 with heap := h' } := I1.kept (t' := s1.toks) hk
    refine ⟨s1.heap.objs.size + 1, [s1.heap.objs.size + 1, s1.heap.objs.size], _, _, H1, rfl, I2, turn_enumG (k := kf t) (xs := xs) (e := s1.heap.objs.size + 1) (it := s1.heap.objs.size), ⟨⟨.none, he⟩, Sk.first hit, Nat.succ_ne_self _⟩, fun b hb => ?_, q t⟩
    have e' : b = s1.heap.objs.size + 1 ∨ b = s1.heap.objs.size := by simpa using hb
    have hle : s1.heap.objs.size ≤ b := by
      rcases e' with z | z
      · rw [z]; exact Nat.le_add_right _ _
      · rw [z]; exact Nat.le_refl _
    exact I1.fpOk hle (I1.hok.fresh hle)
/-- zip(v1, v2) -/
def Itz2 (k1 k2 : Sk) (K : PySem.W.Frag) (xs ys : List V) : It :=
  ⟨fun i H => k1.ok K H xs ∧ k2.ok K H ys ∧ i < min xs.length ys.length, fun i H v H' => ∃ T x y, v = .ref T ∧ H T = none ∧ H' = upd H T (.tup [x, y]) ∧ xs[i]? = some x ∧ ys[i]? = some y, fun i H => k1.ok K H xs ∧ k2.ok K H ys ∧ min xs.length ys.length = i⟩
structure Apart5 (z TI TO i1 i2 : Addr) : Prop where
  a1 : TI ≠ z
  a2 : TO ≠ z
  a3 : TI ≠ TO
  a4 : TI ≠ i1
  a5 : TI ≠ i2
  a6 : z ≠ i1
  a7 : z ≠ i2
  a8 : TO ≠ i1
  a9 : TO ≠ i2
  a10 : i1 ≠ i2
theorem zsep {z TI TO i1 i2 : Addr} {l1 l2 : List Addr} (A : Apart5 z TI TO i1 i2) (z1 : z ∉ l1) (z2 : z ∉ l2) (t1 : TO ∉ l1) (t2 : TO ∉ l2) (j1 : i2 ∉ l1) (j2 : i1 ∉ l2) : ZipSep2 z TI TO i1 i2 (i1 :: l1) (i2 :: l2) where
  TIz := A.a1
  TOz := A.a2
  TITO := A.a3
  TIi1 := A.a4
  mem1 := List.mem_cons_self
  zf1 := by simp only [List.mem_cons, not_or]; exact ⟨A.a6, z1⟩
  Tf1 := by simp only [List.mem_cons, not_or]; exact ⟨A.a8, t1⟩
  TIi2 := A.a5
  mem2 := List.mem_cons_self
  zf2 := by simp only [List.mem_cons, not_or]; exact ⟨A.a7, z2⟩
  Tf2 := by simp only [List.mem_cons, not_or]; exact ⟨A.a9, t2⟩
  sep1_2 := by simp only [List.mem_cons, not_or]; exact ⟨A.a10, j2⟩
  sep2_1 := by simp only [List.mem_cons, not_or]; exact ⟨A.a10.symm, j1⟩
theorem turn_zipG {P : Program} {w : World} {elts : List Expr} {kk : Nat} {tpos : Pos} {k1 k2 : Sk} {xs ys : List V} {z TI TO i1 i2 : Addr} (A5 : Apart5 z TI TO i1 i2) :
    Turn P w K (.Tuple elts kk tpos) (Itz2 k1 k2 K xs ys) [z, TI, TO, i1, i2] z (fun i h => IsZip h z TI TO .none ∧ IsTupOf2 h TI (.ref i1) (.ref i2) ∧ (∃ a1 a2, IsTupOf2 h TO a1 a2) ∧ k1.itp i1 i h ∧ k2.itp i2 i h) where
  mem := by simp
  obj := fun i h st c hc => by
    obtain ⟨hz, hTI, ⟨x, y, hTO⟩, h1, h2⟩ := st
    have e' : c = z ∨ c = TI ∨ c = TO ∨ c = i1 ∨ c = i2 := by simpa using hc
    rcases e' with q | q | q | q | q
    · rw [q]; exact ⟨_, hz, fun v q => nomatch q⟩
    · rw [q]; exact ⟨_, hTI, fun v q => nomatch q⟩
    · rw [q]; exact ⟨_, hTO, fun v q => nomatch q⟩
    · rw [q]; exact Sk.live h1
    · rw [q]; exact Sk.live h2
  keep := fun i h h' st k => by
    obtain ⟨hz, hTI, ⟨x, y, hTO⟩, h1, h2⟩ := st
    exact ⟨k z (by simp) _ hz, k TI (by simp) _ hTI, ⟨x, y, k TO (by simp) _ hTO⟩, Sk.keep h1 fun o q => k i1 (by simp) o q, Sk.keep h2 fun o q => k i2 (by simp) o q⟩
  item := by
    intro X hP hw hK hc i pins s σ H E I hf st hg
    subst hP hw hK
    obtain ⟨hz, hTI, hTO, h1, h2⟩ := st
    obtain ⟨ok1, ok2, hi⟩ := hg
    have f : ∀ b ∈ [z, TI, TO, i1, i2], b ∉ k1.box ∧ b ∉ k2.box := fun b hb => ⟨Sk.apart I ok1 (hf b hb), Sk.apart I ok2 (hf b hb)⟩
    have SS := zsep A5 (f z (by simp)).1 (f z (by simp)).2 (f TO (by simp)).1 (f TO (by simp)).2 (f i2 (by simp)).1 (f i1 (by simp)).2
    obtain ⟨P1, St1, D1, s11, s12, hP1⟩ := Sk.draws (A := X.A.in1) (it := i1) (I.ok.hd hc) I ok1 (f i1 (by simp)).1
    obtain ⟨P2, St2, D2, s21, s22, hP2⟩ := Sk.draws (A := X.A.in1) (it := i2) (I.ok.hd hc) I ok2 (f i2 (by simp)).2
    have W := WalksT.zipD2 SS D1 D2
    refine W.item i s _ _ hi ⟨hz, hTI, hTO, s11 i h1, s21 i h2⟩ fun T vals h' tk hv hn hT hmid hk => ⟨_, rfl, W.go elts kk tpos i T { s with heap := h', toks := tk } _ _ hmid fun h'' st' hk' => ?_⟩
    obtain ⟨u1, u2, hPu1, hPu2, rfl⟩ := hv
    obtain ⟨x, hx, rx⟩ := hP1 i u1 hPu1
    obtain ⟨y, hy, ry⟩ := hP2 i u2 hPu2
    have hTw : T ∉ [z, TO, i1, i2] := W.apart i T h' hmid
    have hT2 : h''.IsTuple T #[u1, u2] := hT.at fun o q => hk' T o hTw q
    have new : ObjOk X.prog X.w (upd H T (.tup [x, y])) h'' T (.tup [x, y]) := ⟨by show 2 ≤ sizeLine; decide, [u1, u2], .cons rx (.cons ry .nil), hT2⟩
    have sub : ∀ b ∈ [z, TO, i1, i2], b ∈ [z, TI, TO, i1, i2] := fun b hb => by
      simp only [List.mem_cons, List.not_mem_nil, or_false] at hb ⊢
      rcases hb with q | q | q | q <;> simp [q]
    have I1 : Inv X pins σ (upd H T (.tup [x, y])) { s with heap := h'', toks := tk } :=
      I.turnedNew (ch := [z, TO, i1, i2]) (fun b ob hb q => hk' b ob hb (hk b ob hb q)) (fun b hb => hf b (sub b hb)) hn new
    refine ⟨.ref T, _, I1, rfl, ⟨T, x, y, rfl, I.hok.fresh hn, rfl, hx, hy⟩, ⟨st'.1, st'.2.1, st'.2.2.1, s12 _ _ st'.2.2.2.1, s22 _ _ st'.2.2.2.2⟩, fun b hb => ?_⟩
    have hbl : b < s.heap.objs.size := by
      have e' : b = z ∨ b = TI ∨ b = TO ∨ b = i1 ∨ b = i2 := by simpa using hb
      rcases e' with q | q | q | q | q
      · rw [q]; exact Heap.lt_size hz
      · rw [q]; exact Heap.lt_size hTI
      · rw [q]; obtain ⟨_, _, q⟩ := hTO; exact Heap.lt_size q
      · rw [q]; obtain ⟨_, q, _⟩ := Sk.live h1; exact Heap.lt_size q
      · rw [q]; obtain ⟨_, q, _⟩ := Sk.live h2; exact Heap.lt_size q
    have nb : b ≠ T := by rintro rfl; exact absurd hbl (Nat.not_lt.mpr hn)
    rw [upd_ne nb]
    exact (hf b hb).1
  done := by
    intro X hP hw hK hc i pins s σ H E I hf st hg
    subst hP hw hK
    obtain ⟨hz, hTI, hTO, h1, h2⟩ := st
    obtain ⟨ok1, ok2, hi⟩ := hg
    subst hi
    have f : ∀ b ∈ [z, TI, TO, i1, i2], b ∉ k1.box ∧ b ∉ k2.box := fun b hb => ⟨Sk.apart I ok1 (hf b hb), Sk.apart I ok2 (hf b hb)⟩
    have SS := zsep A5 (f z (by simp)).1 (f z (by simp)).2 (f TO (by simp)).1 (f TO (by simp)).2 (f i2 (by simp)).1 (f i1 (by simp)).2
    obtain ⟨P1, St1, D1, s11, s12, hP1⟩ := Sk.draws (A := X.A.in1) (it := i1) (I.ok.hd hc) I ok1 (f i1 (by simp)).1
    obtain ⟨P2, St2, D2, s21, s22, hP2⟩ := Sk.draws (A := X.A.in1) (it := i2) (I.ok.hd hc) I ok2 (f i2 (by simp)).2
    have W := WalksT.zipD2 SS D1 D2
    have sub : ∀ b ∈ [z, TO, i1, i2], b ∈ [z, TI, TO, i1, i2] := fun b hb => by
      simp only [List.mem_cons, List.not_mem_nil, or_false] at hb ⊢
      rcases hb with q | q | q | q <;> simp [q]
    exact W.done s _ _ ⟨hz, hTI, hTO, s11 _ h1, s21 _ h2⟩ fun h' tk hk => ⟨rfl, I.turnedL (ch := [z, TO, i1, i2]) (fun b ob hb q => hk b ob hb q) fun b hb => hf b (sub b hb)⟩
  self := fun A i s Q E st h => wpAny_pyIter_zip st.1 h
def iZipG (K : PySem.W.Frag) (ta : TA) : TI := fun σ H R => ta σ H fun vs H1 => ∃ v w xs ys kf kg, vs = [v, w] ∧ SkV K H1 v xs kf ∧ SkV K H1 w ys kg ∧ ∀ t u, R (Itz2 (kf t) (kg u) K xs ys) H1
theorem pi_zipG {X : Cx} {e e2 : Expr} {ta : TA} {p pos tpos : Pos} {elts : List Expr} {kk : Nat} (hg : Gl X "zip") (hm : X.mg "zip" = none) (ha : PA X [e, e2] ta) (hs : starEach [e, e2] X.env = (false, eval e X.env) :: starEach [e2] X.env := by rfl) (hpl : (backTo pos (starEach [e2] X.env)).any (·.1) = false := by rfl) :
    PI X (.Tuple elts kk tpos) (.Call (.Name "zip" p) [e, e2] [] pos) (iZipG X.K ta) := by
  refine ⟨fun pins s σ H R I h => ?_⟩
  refine PyProof.Rows.Call_ (ld_blt I hg hm PyProof.Rows.boot_zip (PyProof.Rows.callWith_type1 (thn (ha.run pos pins s σ H _ I h) fun us s1 ⟨vs, H1, I1, r1, q1⟩ => ?_) hs hpl))
  obtain ⟨v, w, xs, ys, kf, kg, ex, hq, hq2, q⟩ := q1
  subst ex
  cases r1 with
  | cons r rr =>
    cases rr with
    | cons r2 rr2 =>
      cases rr2
      obtain ⟨t1, ek⟩ := hq.1 _ r
      subst ek
      obtain ⟨t2, ek2⟩ := hq2.1 _ r2
      subst ek2
      have ok := hq.2 t1
      have ok2 := hq2.2 t2
      obtain ⟨C, B, hC⟩ := Sk.begins (kf t1) (K := X.K) I1 ok
      obtain ⟨C2, B2, hC2⟩ := Sk.begins (kg t2) (K := X.K) I1 ok2
      refine zip_begins2 B B2 hC hC2 fun h' hz hTI hTO h1 h2 hsz hk => wpAny_pyIter_zip hz ?_
      have I2 : Inv X pins σ H1 { s1 with heap := h' } := I1.kept (t' := s1.toks) hk
      have A5 : ∀ N : Nat, Apart5 (N + 4) (N + 2) (N + 3) N (N + 1) := fun N => ⟨by show (N + 2 : Nat) ≠ N + 4; omega, by show (N + 3 : Nat) ≠ N + 4; omega, by show (N + 2 : Nat) ≠ N + 3; omega, by show (N + 2 : Nat) ≠ N; omega, by show (N + 2 : Nat) ≠ N + 1; omega,
        by show (N + 4 : Nat) ≠ N; omega, by show (N + 4 : Nat) ≠ N + 1; omega, by show (N + 3 : Nat) ≠ N; omega, by show (N + 3 : Nat) ≠ N + 1; omega, by show (N : Nat) ≠ N + 1; omega⟩
      refine ⟨s1.heap.objs.size + 4, [s1.heap.objs.size + 4, s1.heap.objs.size + 2, s1.heap.objs.size + 3, s1.heap.objs.size, s1.heap.objs.size + 1], _, _, H1, rfl, I2, turn_zipG (k1 := kf t1) (k2 := kg t2) (xs := xs) (ys := ys) (A5 s1.heap.objs.size), ⟨hz, hTI, ⟨_, _, hTO⟩, Sk.first h1, Sk.first h2⟩, fun b hb => ?_, q t1 t2⟩
      have hle : s1.heap.objs.size ≤ b := by
        have e' : b = s1.heap.objs.size + 4 ∨ b = s1.heap.objs.size + 2 ∨ b = s1.heap.objs.size + 3 ∨ b = s1.heap.objs.size ∨ b = s1.heap.objs.size + 1 := by simpa using hb
        have k : ∀ N n : Nat, N ≤ N + n := fun N n => Nat.le_add_right _ _
        rcases e' with z | z | z | z | z <;> rw [z] <;> first | exact k _ _ | exact Nat.le_refl _
      exact I1.fpOk hle (I1.hok.fresh hle)
/-- a source walked item by item -/
def Itg1 (k : Sk) (K : PySem.W.Frag) (xs : List V) : It :=
  ⟨fun i H => k.ok K H xs ∧ i < xs.length, fun i H v H' => H' = H ∧ xs[i]? = some v, fun i H => k.ok K H xs ∧ xs.length = i⟩
theorem iList_walk {K : PySem.W.Frag} {a : Addr} : ∀ {xs : List V} (i : Nat) (H : Hp), SqL K H a xs → (xs.length = i → (Itl K a).stop i H) ∧ ∀ x, xs[i]? = some x → (Itl K a).go i H ∧ ∀ y H', (Itl K a).yld i H y H' → H' = H ∧ y = x := fun i H h =>
  ⟨fun e => ⟨_, h, Nat.le_of_eq e⟩, fun x hx => ⟨⟨_, _, h, hx⟩, fun y H' q => ⟨q.1, by have := q.2 _ h; rw [hx] at this; cases this; rfl⟩⟩⟩
theorem iTup_walk {K : PySem.W.Frag} {a : Addr} : ∀ {xs : List V} (i : Nat) (H : Hp), SqT K H a xs → (xs.length = i → (Itt K a).stop i H) ∧ ∀ x, xs[i]? = some x → (Itt K a).go i H ∧ ∀ y H', (Itt K a).yld i H y H' → H' = H ∧ y = x := fun i H h =>
  ⟨fun e => ⟨_, h, Nat.le_of_eq e⟩, fun x hx => ⟨⟨_, _, h, hx⟩, fun y H' q => ⟨q.1, by have := q.2 _ h; rw [hx] at this; cases this; rfl⟩⟩⟩
/-- a list, a tuple or a text that is walked -/
def iAny (K : PySem.W.Frag) (te : TE) : TI := fun σ H R => te σ H fun v H1 => (∃ a xs, v = .ref a ∧ SqL K H1 a xs ∧ R (Itl K a) H1) ∨ (∃ a xs, v = .ref a ∧ SqT K H1 a xs ∧ R (Itt K a) H1) ∨ ∃ x, v = .str x ∧ R (Its x) H1
theorem pi_any {X : Cx} {tg l : Expr} {tl : TE} (hl : PE X l tl) : PI X tg l (iAny X.K tl) := by
  refine ⟨fun pins s σ H R I h => ?_⟩
  refine thn (hl.run pins s σ H _ I h) fun v s1 ⟨x, H1, I1, r1, q1⟩ => ?_
  rcases q1 with ⟨a, xs, e, hq, q⟩ | ⟨a, xs, e, hq, q⟩ | ⟨x, e, q⟩
  · subst e
    cases r1
    obtain ⟨its, rv, p, hz⟩ := I1.list hq
    refine wpAny_pyIter_list p.isList ?_
    exact pi_one (tk := s1.toks) I1 _ (turn_list a _) ⟨_, Heap.get?_push_size _ rfl, rfl, rfl⟩ q
  · subst e
    cases r1
    obtain ⟨its, rv, p, hz⟩ := I1.tuple hq
    refine wpAny_pyIter_tuple (show s1.heap.IsTuple a its.toArray from p) ?_
    exact pi_one (tk := s1.toks) I1 _ (turn_tuple a _) ⟨_, Heap.get?_push_size _ rfl, rfl, rfl⟩ q
  · subst e
    obtain ⟨t, rfl⟩ := r1
    cases ha : x.cps.all (· < 128)
    · exact wpAny_pyIter_wide ha (pi_one (tk := s1.toks) I1 _ (turn_str _ x t "str_iterator" (.inr rfl)) ⟨_, Heap.get?_push_size _ rfl, rfl, rfl⟩ q)
    · exact wpAny_pyIter_ascii ha (pi_one (tk := s1.toks) I1 _ (turn_str _ x t "str_ascii_iterator" (.inl rfl)) ⟨_, Heap.get?_push_size _ rfl, rfl, rfl⟩ q)
end
end KD

set_option maxHeartbeats 4000000
namespace KD
open PySem L2
section
variable {X : Cx} {ct : Nat → Addr} {Γ : Gam}

/-! ### what is walked -/
def chD (c : Nat) : D := .str ⟨#[c]⟩
def seqD : D → Option (List D)
  | .lst l => some l
  | .tup l => some l
  | .str s => some (s.cps.toList.map chD)
  | .scr l => some (l.map .int)
  | _ => none
theorem rp_ints {F : Hp} : ∀ ns : List Int, RpAll Γ F (ns.map V.int) (ns.map D.int)
  | [] => .nil
  | n :: ns => .cons (.int n) (rp_ints ns)
theorem sOk_ch {c : Nat} (h : c < 1114112) : sOk ⟨#[c]⟩ = true := by
  unfold sOk
  simp [h]
theorem rp_chars {F : Hp} : ∀ cs : List Nat, (∀ c ∈ cs, c < 1114112) → RpAll Γ F (cs.map fun c => V.str ⟨#[c]⟩) (cs.map chD)
  | [], _ => .nil
  | n :: ns, h => .cons (.str _ (sOk_ch (h n List.mem_cons_self))) (rp_chars ns fun c hc => h c (List.mem_cons_of_mem _ hc))
theorem sOk_all {s : Str} (h : sOk s = true) : (∀ c ∈ s.cps.toList, c < 1114112) ∧ s.cps.toList.length ≤ 16777216 := by
  unfold sOk at h
  rw [Bool.and_eq_true] at h
  refine ⟨fun c hc => ?_, by simpa using h.2⟩
  have := Array.all_eq_true'.mp h.1 c (by simpa using hc)
  simpa using this
def iSeq (fe : EM) : IM := fun ε => (escE fe ε).bind fun r => (seqD r.1).map fun l => (l, r.2)
theorem iSeq_some {fe : EM} {ε : SE} {q : List D × SE} (h : iSeq fe ε = some q) : ∃ r, escE fe ε = some r ∧ seqD r.1 = some q.1 ∧ q.2 = r.2 := by
  unfold iSeq at h
  cases e : escE fe ε with
  | none => simp [e] at h
  | some r =>
    simp only [e, Option.bind_some] at h
    cases e2 : seqD r.1 with
    | none => simp [e2] at h
    | some l => simp only [e2, Option.map_some, Option.some.injEq] at h; exact ⟨r, rfl, by rw [← h]; exact e2, by rw [← h]⟩
/-- a frozen value that is evaluated: its datum -/
theorem tE_esc {K : PySem.W.Frag} {mu : Nat → Option Addr} {fe : EM} {ow : OwF} {ε : SE} {σ : L2.St} {H : Hp} {r : D × SE} {P : V → Hp → Prop} (e : escE fe ε = some r) (S : Sim ⟨K, ct, mu⟩ ow ε σ H)
    (k : ∀ v H1 ow1, Sim ⟨K, ct, mu⟩ ow1 r.2 σ H1 → Fr ow H ow1 H1 → Rp ⟨K, ct, mu⟩ (cut H1 ow1) v r.1 → P v H1) : tE K ct (fzE fe) σ H P := by
  obtain ⟨ra, e1, e2⟩ := escE_some e
  refine ⟨mu, ow, ε, ra.1, ra.2, S, e1, fun v H1 ow1 S1 fr1 r1 => ?_⟩
  obtain ⟨va, ha, hv⟩ := fzE_some e1
  rw [hv] at r1 e2
  obtain ⟨ow2, S2, fr2, r2⟩ := VR.esc S1 r1 e2
  exact k v H1 ow2 S2 (fr1.trans fr2) r2
theorem it_any {tg l : Expr} {fe : EM} (h : PE X l (tE X.K ct fe)) : PI X tg l (tI X.K ct (iSeq fe)) := (pi_any (de_fz h)).imp fun σ H R ⟨mu, ow, ε, ds, ε', S, hf, k⟩ => by
  obtain ⟨r, e1, e2, e3⟩ := iSeq_some hf
  dsimp only at e2 e3
  subst e3
  refine tE_esc e1 S fun v H1 ow1 S1 fr1 r1 => ?_
  have frozenL : ∀ a us, SqL X.K (cut H1 ow1) a us → RpAll ⟨X.K, ct, mu⟩ (cut H1 ow1) us ds → ds.length ≤ 16777216 → R (Itl X.K a) H1 := fun a us hs ra hl => k _ H1 ow1 S1 fr1 ⟨hl, fun i H2 sb => by
    obtain ⟨h1, h2⟩ := iList_walk i H2 (sb.sql hs)
    refine ⟨fun e => h1 (by rw [ra.length]; exact e), fun d hd => ?_⟩
    obtain ⟨u, hu, ru⟩ := ra.get hd
    obtain ⟨q1, q2⟩ := h2 u hu
    exact ⟨q1, fun y H' hy => by obtain ⟨rfl, rfl⟩ := q2 y H' hy; exact .same ru⟩⟩
  cases hd : r.1 with
  | lst l =>
    rw [hd] at r1 e2
    cases e2
    cases r1 with
    | lst hs ra hl => exact .inl ⟨_, _, rfl, .of (cut_sub _ _ hs), frozenL _ _ (.of hs) ra hl⟩
  | scr ns =>
    rw [hd] at r1 e2
    cases e2
    cases r1 with
    | scr hs hl => exact .inl ⟨_, _, rfl, cut_sub.sql hs, frozenL _ _ hs (rp_ints ns) (by rw [List.length_map]; exact hl)⟩
  | tup l =>
    rw [hd] at r1 e2
    cases e2
    cases r1 with
    | tup hs ra hl =>
      refine .inr (.inl ⟨_, _, rfl, cut_sub.sqt hs.sqt, k _ H1 ow1 S1 fr1 ⟨hl, fun i H2 sb => ?_⟩⟩)
      obtain ⟨h1, h2⟩ := iTup_walk i H2 (sb.sqt hs.sqt)
      refine ⟨fun e => h1 (by rw [ra.length]; exact e), fun d hd => ?_⟩
      obtain ⟨u, hu, ru⟩ := ra.get hd
      obtain ⟨q1, q2⟩ := h2 u hu
      exact ⟨q1, fun y H' hy => by obtain ⟨rfl, rfl⟩ := q2 y H' hy; exact .same ru⟩
  | str x =>
    rw [hd] at r1 e2
    cases e2
    cases r1 with | str _ hx => ?_
    obtain ⟨hx1, hx2⟩ := sOk_all hx
    refine .inr (.inr ⟨x, rfl, k _ H1 ow1 S1 fr1 ⟨by rw [List.length_map]; exact hx2, fun i H2 sb => ⟨fun e => ?_, fun d hd => ?_⟩⟩⟩)
    · have e' : x.cps.size = i := by simpa using e
      exact Nat.le_of_eq e'
    · have hd' : (x.cps.toList[i]?).map chD = some d := by rw [← List.getElem?_map]; exact hd
      cases hc : x.cps.toList[i]? with
      | none => rw [hc] at hd'; cases hd'
      | some c =>
        rw [hc] at hd'
        cases hd'
        have hc' : x.cps[i]? = some c := by simpa using hc
        refine ⟨(Array.getElem?_eq_some_iff.mp hc').1, fun y H' hy => ?_⟩
        obtain ⟨rfl, c', hc2, rfl⟩ := hy
        rw [hc'] at hc2
        cases hc2
        exact .same (.str _ (sOk_ch (hx1 c (List.mem_of_getElem? hc))))
  | _ => rw [hd] at e2; cases e2
theorem skv_of {F H : Hp} {v : V} {d : D} {l : List D} (r : Rp Γ F v d) (e : seqD d = some l) : ∃ us kf, (∀ H, Sub F H → SkV Γ.K H v us kf) ∧ RpAll Γ F us l ∧ l.length ≤ 16777216 := by
  cases d with
  | lst l' =>
    cases e
    cases r with | lst hs ra hl => exact ⟨_, fun _ => .lst _, fun H sb => ⟨fun u hu => ⟨0, hu.symm⟩, fun t => .of (sb _ _ hs)⟩, ra, hl⟩
  | tup l' =>
    cases e
    cases r with | tup hs ra hl => exact ⟨_, fun _ => .tup _, fun H sb => ⟨fun u hu => ⟨0, hu.symm⟩, fun t => sb.sqt hs.sqt⟩, ra, hl⟩
  | scr ns =>
    cases e
    cases r with | scr hs hl => exact ⟨_, fun _ => .lst _, fun H sb => ⟨fun u hu => ⟨0, hu.symm⟩, fun t => sb.sql hs⟩, rp_ints ns, by rw [List.length_map]; exact hl⟩
  | str x =>
    cases e
    cases r with
    | str _ hx => exact ⟨_, fun t => .txt x t, fun H sb => ⟨fun u ⟨t, hu⟩ => ⟨t, hu.symm⟩, fun t => rfl⟩, rp_chars _ (sOk_all hx).1, by rw [List.length_map]; exact (sOk_all hx).2⟩
  | _ => cases e
def enumD (l : List D) : List D := l.zipIdx.map fun p => .pair [.int (p.2 : Int), p.1]
theorem enumD_get {l : List D} {i : Nat} {d : D} (h : (enumD l)[i]? = some d) : ∃ x, l[i]? = some x ∧ d = .pair [.int (i : Int), x] := by
  unfold enumD at h
  rw [List.getElem?_map, List.getElem?_zipIdx] at h
  cases e : l[i]? with
  | none => rw [e] at h; cases h
  | some x => rw [e] at h; cases h; exact ⟨x, rfl, by simp⟩
theorem enumD_len {l : List D} : (enumD l).length = l.length := by unfold enumD; simp
def iEnum1 (fe : EM) : IM := fun ε => (iSeq fe ε).map fun r => (enumD r.1, r.2)
theorem tA_one {K : PySem.W.Frag} {mu : Nat → Option Addr} {fe : EM} {ow : OwF} {ε : SE} {σ : L2.St} {H : Hp} {r : D × SE} {P : List V → Hp → Prop} (e : escE fe ε = some r) (S : Sim ⟨K, ct, mu⟩ ow ε σ H)
    (k : ∀ v H1 ow1, Sim ⟨K, ct, mu⟩ ow1 r.2 σ H1 → Fr ow H ow1 H1 → Rp ⟨K, ct, mu⟩ (cut H1 ow1) v r.1 → P [v] H1) : tA K ct (aCons fe aNil) σ H P := by
  obtain ⟨ra, e1, e2⟩ := escE_some e
  refine ⟨mu, ow, ε, [ra.1], ra.2, S, by unfold aCons; rw [e1]; rfl, fun vs H1 ow1 S1 fr1 r1 => ?_⟩
  obtain ⟨va, ha, hv⟩ := fzE_some e1
  cases vs with
  | nil => exact r1.elim
  | cons v vs =>
    cases vs with
    | cons _ _ => exact r1.2.elim
    | nil =>
      have r1' := r1.1
      have e2' : escV ra.2 (fzv ra.1) = some r := by rw [hv, fzv_fzv, ← hv]; exact e2
      obtain ⟨ow2, S2, fr2, r2⟩ := VR.esc S1 r1' e2'
      exact k v H1 ow2 S2 (fr1.trans fr2) r2
theorem it_enum {e : Expr} {fe : EM} {p pos tpos : Pos} {elts : List Expr} {kk : Nat} (h : PE X e (tE X.K ct fe)) (hm : X.mg "enumerate" = none) (hg : Gl X "enumerate" := by rfl) (hs : starEach [e] X.env = (false, eval e X.env) :: starEach [] X.env := by rfl) (hs' : starEach [e] X.env = [(false, eval e X.env)] := by rfl) :
    PI X (.Tuple elts kk tpos) (.Call (.Name "enumerate" p) [e] [] pos) (tI X.K ct (iEnum1 fe)) := (pi_enumG hg hm (da_cons h da_nil hs) hs').imp fun σ H R ⟨mu, ow, ε, ds, ε', S, hf, k⟩ => by
  unfold iEnum1 at hf
  cases e0 : iSeq fe ε with
  | none => simp [e0] at hf
  | some q =>
    simp only [e0, Option.map_some, Option.some.injEq, Prod.mk.injEq] at hf
    obtain ⟨rfl, rfl⟩ := hf
    obtain ⟨r, e1, e2, e3⟩ := iSeq_some e0
    rw [e3] at k
    refine tA_one e1 S fun v H1 ow1 S1 fr1 r1 => ?_
    obtain ⟨us, kf, hk, ra, hll⟩ := skv_of (H := H1) r1 e2
    refine ⟨v, us, kf, rfl, hk H1 cut_sub, fun t => k _ H1 ow1 S1 fr1 ⟨by rw [enumD_len]; exact hll, fun i H2 sb => ⟨fun e => ⟨(hk H2 sb).2 t, by rw [ra.length, ← enumD_len]; exact e⟩, fun d hd => ?_⟩⟩⟩
    obtain ⟨x, hx, rfl⟩ := enumD_get hd
    obtain ⟨u, hu, ru⟩ := ra.get hx
    refine ⟨⟨(hk H2 sb).2 t, (List.getElem?_eq_some_iff.mp hu).1⟩, fun y H' hy => ?_⟩
    obtain ⟨T, x', y', rfl, hT, rfl, hx', rfl⟩ := hy
    rw [hu] at hx'
    cases hx'
    exact .pair hT (.cons (.int _) (.one ru))
def iZip2 (fa fb : EM) : IM := fun ε => (aCons fa (aCons fb aNil) ε).bind fun r => (escL r.2 r.1).bind fun q => match q.1 with
  | [a, b] => (seqD a).bind fun l => (seqD b).map fun m => (List.zipWith (fun x y => D.pair [x, y]) l m, q.2)
  | _ => none
theorem it_zip {a b : Expr} {fa fb : EM} {p pos tpos : Pos} {elts : List Expr} {kk : Nat} (h : PE X a (tE X.K ct fa)) (h2 : PE X b (tE X.K ct fb)) (hm : X.mg "zip" = none) (hg : Gl X "zip" := by rfl)
    (hs : starEach [a, b] X.env = (false, eval a X.env) :: starEach [b] X.env := by rfl) (hs2 : starEach [b] X.env = (false, eval b X.env) :: starEach [] X.env := by rfl) (hpl : (backTo pos (starEach [b] X.env)).any (·.1) = false := by rfl) :
    PI X (.Tuple elts kk tpos) (.Call (.Name "zip" p) [a, b] [] pos) (tI X.K ct (iZip2 fa fb)) := (pi_zipG hg hm (da_cons h (da_cons h2 da_nil hs2) hs) hs hpl).imp fun σ H R ⟨mu, ow, ε, ds, ε', S, hf, k⟩ => by
  unfold iZip2 at hf
  cases e0 : aCons fa (aCons fb aNil) ε with
  | none => simp [e0] at hf
  | some r =>
    simp only [e0, Option.bind_some] at hf
    cases e1 : escL r.2 r.1 with
    | none => simp [e1] at hf
    | some q =>
      simp only [e1, Option.bind_some] at hf
      split at hf
      · rename_i a b hq
        cases e2 : seqD a with
        | none => simp [e2] at hf
        | some l =>
          simp only [e2, Option.bind_some] at hf
          cases e3 : seqD b with
          | none => simp [e3] at hf
          | some m =>
            simp only [e3, Option.map_some, Option.some.injEq, Prod.mk.injEq] at hf
            obtain ⟨rfl, rfl⟩ := hf
            refine ⟨mu, ow, ε, r.1, r.2, S, e0, fun vs H1 ow1 S1 fr1 r1 => ?_⟩
            obtain ⟨ow2, S2, fr2, r2⟩ := VRs.esc S1 r1 e1
            rw [hq] at r2
            cases r2 with
            | cons ra r2 =>
              cases r2 with
              | cons rb r2 =>
                cases r2
                rename_i v w
                obtain ⟨us, kf, hk, rl, hl1⟩ := skv_of (H := H1) ra e2
                obtain ⟨ws, kg, hk2, rm, hl2⟩ := skv_of (H := H1) rb e3
                refine ⟨v, w, us, ws, kf, kg, rfl, hk H1 cut_sub, hk2 H1 cut_sub, fun t u => k _ H1 ow2 S2 (fr1.trans fr2) ⟨by rw [List.length_zipWith]; omega, fun i H2 sb => ⟨fun e => ⟨(hk H2 sb).2 t, (hk2 H2 sb).2 u, by rw [rl.length, rm.length, ← List.length_zipWith (f := fun x y => D.pair [x, y])]; exact e⟩, fun d hd => ?_⟩⟩⟩
                rw [List.getElem?_zipWith] at hd
                cases hl : l[i]? with
                | none => rw [hl] at hd; simp at hd
                | some x =>
                  cases hm' : m[i]? with
                  | none => rw [hl, hm'] at hd; simp at hd
                  | some y =>
                    rw [hl, hm'] at hd
                    cases hd
                    obtain ⟨x', hx', rx⟩ := rl.get hl
                    obtain ⟨y', hy', ry⟩ := rm.get hm'
                    refine ⟨⟨(hk H2 sb).2 t, (hk2 H2 sb).2 u, ?_⟩, fun z H' hz => ?_⟩
                    · have h1 := (List.getElem?_eq_some_iff.mp hx').1
                      have h2 := (List.getElem?_eq_some_iff.mp hy').1
                      omega
                    · obtain ⟨T, x2, y2, rfl, hT, rfl, q1, q2⟩ := hz
                      rw [hx'] at q1
                      rw [hy'] at q2
                      cases q1
                      cases q2
                      exact .pair hT (.cons rx (.one ry))
      · cases hf
def rngD (lo : Int) (n : Nat) : List D := (List.range n).map fun i => .int (lo + (i : Nat))
theorem rngD_ok {F : Hp} {lo : Int} {n : Nat} (hn : n ≤ 16777216) : ItOk Γ F (Itr lo n) (rngD lo n) := ⟨by simpa [rngD] using hn, fun i H sb => by
  refine ⟨fun e => by have : n = i := by simpa [rngD] using e
                      exact Nat.le_of_eq this, fun d hd => ?_⟩
  unfold rngD at hd
  rw [List.getElem?_map] at hd
  cases e : (List.range n)[i]? with
  | none => rw [e] at hd; cases hd
  | some j =>
    rw [e] at hd
    cases hd
    have hi : i < n := by have := (List.getElem?_eq_some_iff.mp e).1; simpa using this
    have hj : i = j := by rw [List.getElem?_range hi] at e; exact Option.some.inj e
    subst hj
    exact ⟨hi, fun y H' hy => by obtain ⟨rfl, rfl⟩ := hy; exact .same (.int _)⟩⟩
/-- (its answer is closed to the kernel: no figure is counted down) -/
noncomputable def bnd (i : Int) : Bool := @decide (-(4611686018427387904) ≤ i ∧ i < 4611686018427387904) (Classical.propDecidable _)
noncomputable def iRange (f : AM) : IM := fun ε => (f ε).bind fun r => (resL r.2 r.1).bind fun ds => match ds with
  | [.int j] => if bnd j = true ∧ j.toNat ≤ 16777216 then some (rngD 0 j.toNat, r.2) else none
  | [.int i, .int j] => if bnd i = true ∧ bnd j = true ∧ (j - i).toNat ≤ 16777216 then some (rngD i (j - i).toNat, r.2) else none
  | _ => none
theorem bnd_of {i : Int} (h : bnd i = true) : -(2 ^ 62) ≤ i ∧ i < 2 ^ 62 := by
  unfold bnd at h
  exact @of_decide_eq_true _ (Classical.propDecidable _) h
theorem it_range1 {tg a : Expr} {f : EM} {p pos : Pos} (h : PE X a (tE X.K ct f)) (hm : X.mg "range" = none) (hg : Gl X "range" := by rfl) (hs : starEach [a] X.env = (false, eval a X.env) :: starEach [] X.env := by rfl) (hs' : starEach [a] X.env = [(false, eval a X.env)] := by rfl) :
    PI X tg (.Call (.Name "range" p) [a] [] pos) (tI X.K ct (iRange (aCons f aNil))) := (pi_range1 hg hm (da_cons h da_nil hs) hs').imp fun σ H R ⟨mu, ow, ε, ds, ε', S, hf, k⟩ => by
  unfold iRange at hf
  cases e0 : aCons f aNil ε with
  | none => simp [e0] at hf
  | some r =>
    simp only [e0, Option.bind_some] at hf
    cases e1 : resL r.2 r.1 with
    | none => simp [e1] at hf
    | some dd =>
      simp only [e1, Option.bind_some] at hf
      refine ⟨mu, ow, ε, r.1, r.2, S, e0, fun vs H1 ow1 S1 fr1 r1 => ?_⟩
      have rr := VRs.res S1 r1 e1
      split at hf
      · rename_i j
        split at hf
        · rename_i hb
          cases hf
          cases rr with
          | cons z1 z2 =>
            cases z2
            have q := RpO.up z1 cut_sub
            cases q
            have b := bnd_of hb.1
            exact ⟨j, rfl, b.1, b.2, k _ H1 ow1 S1 fr1 (rngD_ok hb.2)⟩
        · cases hf
      · rename_i i j
        cases rr with
        | cons r1 r2 =>
          obtain ⟨ra, rb, q1, q2, q3⟩ := aCons_some e0
          cases q2
          subst q3
          obtain ⟨d, es, z1, z2, z3⟩ := resL_cons e1
          cases z2
          cases z3
      · cases hf
theorem it_range2 {tg a b : Expr} {f g : EM} {p pos : Pos} (h : PE X a (tE X.K ct f)) (h2 : PE X b (tE X.K ct g)) (hm : X.mg "range" = none) (hg : Gl X "range" := by rfl)
    (hs : starEach [a, b] X.env = (false, eval a X.env) :: starEach [b] X.env := by rfl) (hs2 : starEach [b] X.env = (false, eval b X.env) :: starEach [] X.env := by rfl) (hs' : starEach [a, b] X.env = [(false, eval a X.env), (false, eval b X.env)] := by rfl) :
    PI X tg (.Call (.Name "range" p) [a, b] [] pos) (tI X.K ct (iRange (aCons f (aCons g aNil)))) := (pi_range2 hg hm (da_cons h (da_cons h2 da_nil hs2) hs) hs' hs2).imp fun σ H R ⟨mu, ow, ε, ds, ε', S, hf, k⟩ => by
  unfold iRange at hf
  cases e0 : aCons f (aCons g aNil) ε with
  | none => simp [e0] at hf
  | some r =>
    simp only [e0, Option.bind_some] at hf
    cases e1 : resL r.2 r.1 with
    | none => simp [e1] at hf
    | some dd =>
      simp only [e1, Option.bind_some] at hf
      refine ⟨mu, ow, ε, r.1, r.2, S, e0, fun vs H1 ow1 S1 fr1 r1 => ?_⟩
      have rr := VRs.res S1 r1 e1
      split at hf
      · rename_i j
        obtain ⟨ra, rb, q1, q2, q3⟩ := aCons_some e0
        obtain ⟨rc, rd, q4, q5, q6⟩ := aCons_some q2
        cases q5
        subst q6
        subst q3
        obtain ⟨d, es, z1, z2, z3⟩ := resL_cons e1
        obtain ⟨d', es', z4, z5, z6⟩ := resL_cons z2
        subst z6
        cases z3
      · rename_i i j
        split at hf
        · rename_i hb
          cases hf
          cases rr with
          | cons z1 z2 =>
            cases z2 with
            | cons z2 z3 =>
              cases z3
              have q := RpO.up z1 cut_sub
              have q' := RpO.up z2 cut_sub
              cases q
              cases q'
              have b1 := bnd_of hb.1
              have b2 := bnd_of hb.2.1
              exact ⟨i, j, rfl, ⟨b1.1, b1.2, b2.1, b2.2⟩, k _ H1 ow1 S1 fr1 (rngD_ok hb.2.2)⟩
        · cases hf
      · cases hf
end
end KD

set_option maxHeartbeats 4000000
namespace KD
open PySem L2
section
variable {X : Cx} {ct : Nat → Addr} {Γ : Gam}

/-! ### x, y = a, b -/
/-- values side by side, new ones apart -/
def VRN (Γ : Gam) (ow : OwF) (σ : L2.St) (H : Hp) : Hp → List V → List Val → Prop
  | _, [], [] => True
  | H0, v :: vs, a :: as => VR Γ ow H0 σ H v a ∧ ∃ H1, (∀ p, H1 p = none → H0 p = none) ∧ (∀ m, a = .new m → ∀ p, v = .ref p → ∃ o, H1 p = some o) ∧ VRN Γ ow σ H H1 vs as
  | _, _, _ => False
theorem VR.carryN {ow ow' : OwF} {σ : L2.St} {H H' H0 : Hp} {v : V} {val : Val} (h : VR Γ ow H0 σ H v val) (fr : Fr ow H ow' H') : VR Γ ow' H0 σ H' v val := by
  cases val with
  | d x => exact Rp.mono fr.sub h
  | old i => exact h
  | new m =>
    obtain ⟨p, e, ht, h0, ho⟩ := h
    obtain ⟨o, hoo⟩ := ObjR.has ho
    obtain ⟨q1, q2⟩ := fr.ke p o .tmp hoo ht (.inl rfl)
    exact ⟨p, e, q1, h0, ObjR.mono ho fr.sub fun o' e' => by rw [hoo] at e'; cases e'; exact q2⟩
def tAN (K : PySem.W.Frag) (ct : Nat → Addr) (f : AM) : TA := fun σ H Q => ∃ mu ow ε vals ε', Sim ⟨K, ct, mu⟩ ow ε σ H ∧ f ε = some (vals, ε') ∧
  ∀ vs H' ow', Sim ⟨K, ct, mu⟩ ow' ε' σ H' → Fr ow H ow' H' → VRN ⟨K, ct, mu⟩ ow' σ H' H vs vals → Q vs H'
def aConsN (f : EM) (g : AM) : AM := fun ε => (f ε).bind fun r => (g r.2).map fun q => (r.1 :: q.1, q.2)
theorem dan_nil : PA X [] (tAN X.K ct aNil) := pa_nil.imp fun σ H Q ⟨mu, ow, ε, vals, ε', S, hf, k⟩ => by
  cases hf
  exact k [] H ow S Fr.refl trivial
theorem dan_cons {e : Expr} {es : List Expr} {f : EM} {g : AM} (h : PE X e (tE X.K ct f)) (h2 : PA X es (tAN X.K ct g)) (hs : starEach (e :: es) X.env = (false, eval e X.env) :: starEach es X.env := by rfl) : PA X (e :: es) (tAN X.K ct (aConsN f g)) :=
  (pa_cons h h2 hs).imp fun σ H Q ⟨mu, ow, ε, vals, ε', S, hf, k⟩ => by
    unfold aConsN at hf
    cases e1 : f ε with
    | none => simp [e1] at hf
    | some ra =>
      simp only [e1, Option.bind_some] at hf
      cases e2 : g ra.2 with
      | none => simp [e2] at hf
      | some rb =>
        simp only [e2, Option.map_some, Option.some.injEq, Prod.mk.injEq] at hf
        obtain ⟨rfl, rfl⟩ := hf
        refine ⟨mu, ow, ε, ra.1, ra.2, S, e1, fun x H1 ow1 S1 fr1 r1 => ⟨mu, ow1, ra.2, rb.1, rb.2, S1, e2, fun xs H2 ow2 S2 fr2 r2 => k (x :: xs) H2 ow2 S2 (fr1.trans fr2) ⟨r1.carryN fr2, H1, fun p hp => fr1.none hp, fun m hm p hp => ?_, r2⟩⟩⟩
        rw [hm] at r1
        obtain ⟨p', e, _, _, ho⟩ := r1
        rw [hp] at e
        cases e
        exact ObjR.has ho
/-- aliases among the values are frozen -/
def deold : SE → List Val → Option (List Val × SE)
  | ε, [] => some ([], ε)
  | ε, .old i :: vs => (escV ε (.old i)).bind fun r => (deold r.2 vs).map fun q => (.d r.1 :: q.1, q.2)
  | ε, v :: vs => (deold ε vs).map fun q => (v :: q.1, q.2)
def noOld : List Val → Prop
  | [] => True
  | .old _ :: _ => False
  | _ :: vs => noOld vs
theorem VRN.deold {σ : L2.St} {H : Hp} : ∀ {as : List Val} {vs : List V} {ow : OwF} {ε : SE} {H0 : Hp} {q : List Val × SE}, Sim Γ ow ε σ H → VRN Γ ow σ H H0 vs as → KD.deold ε as = some q →
    ∃ ow', Sim Γ ow' q.2 σ H ∧ Fr ow H ow' H ∧ VRN Γ ow' σ H H0 vs q.1 ∧ noOld q.1 := by
  have carry : ∀ {as : List Val} {vs : List V} {ow ow' : OwF} {H0 : Hp}, VRN Γ ow σ H H0 vs as → Fr ow H ow' H → VRN Γ ow' σ H H0 vs as := by
    intro as
    induction as with
    | nil => intro vs ow ow' H0 h fr; cases vs with | nil => trivial | cons _ _ => exact h
    | cons a as ih => intro vs ow ow' H0 h fr; cases vs with
      | nil => exact h
      | cons v vs => obtain ⟨h1, H1, h2, h3, h4⟩ := h; exact ⟨h1.carryN fr, H1, h2, h3, ih h4 fr⟩
  intro as
  induction as with
  | nil =>
    intro vs ow ε H0 q S h e
    cases e
    exact ⟨ow, S, Fr.refl, h, trivial⟩
  | cons a as ih =>
    intro vs ow ε H0 q S h e
    cases vs with
    | nil => exact h.elim
    | cons v vs =>
      obtain ⟨h1, H1, h2, h3, h4⟩ := h
      have rest : ∀ {ow ε q'}, Sim Γ ow ε σ H → VRN Γ ow σ H H1 vs as → KD.deold ε as = some q' → ∃ ow', Sim Γ ow' q'.2 σ H ∧ Fr ow H ow' H ∧ VRN Γ ow' σ H H1 vs q'.1 ∧ noOld q'.1 := fun S h e => ih S h e
      cases a with
      | d x =>
        have e' : ((KD.deold ε as).map fun q => (Val.d x :: q.1, q.2)) = some q := e
        cases e1 : KD.deold ε as with
        | none => simp [e1] at e'
        | some q' =>
          simp only [e1, Option.map_some, Option.some.injEq] at e'
          subst e'
          obtain ⟨ow', S', fr', r', n'⟩ := rest S h4 e1
          exact ⟨ow', S', fr', ⟨h1.carryN fr', H1, h2, h3, r'⟩, n'⟩
      | new m =>
        have e' : ((KD.deold ε as).map fun q => (Val.new m :: q.1, q.2)) = some q := e
        cases e1 : KD.deold ε as with
        | none => simp [e1] at e'
        | some q' =>
          simp only [e1, Option.map_some, Option.some.injEq] at e'
          subst e'
          obtain ⟨ow', S', fr', r', n'⟩ := rest S h4 e1
          exact ⟨ow', S', fr', ⟨h1.carryN fr', H1, h2, h3, r'⟩, n'⟩
      | old i =>
        have e' : ((escV ε (.old i)).bind fun r => (KD.deold r.2 as).map fun q => (Val.d r.1 :: q.1, q.2)) = some q := e
        cases e0 : escV ε (.old i) with
        | none => simp [e0] at e'
        | some r =>
          simp only [e0, Option.bind_some] at e'
          cases e1 : KD.deold r.2 as with
          | none => simp [e1] at e'
          | some q' =>
            simp only [e1, Option.map_some, Option.some.injEq] at e'
            subst e'
            obtain ⟨ow1, S1, fr1, r1⟩ := VR.esc (val := .old i) S h1 e0
            obtain ⟨ow', S', fr', r', n'⟩ := rest S1 (carry h4 fr1) e1
            exact ⟨ow', S', fr1.trans fr', ⟨r1.mono fr'.sub, H1, h2, (fun m hm => by cases hm), r'⟩, n'⟩
def storeL : SE → List Nat → List Val → Option SE
  | ε, [], [] => some ε
  | ε, i :: is, a :: as => (storeV ε i a).bind fun ε1 => storeL ε1 is as
  | _, _, _ => none
def setL (σ : L2.St) : List Nat → List V → L2.St
  | i :: is, v :: vs => setL (σ.set i (some v)) is vs
  | _, _ => σ
theorem Sim.storeL {ow0 : OwF} {H0 H : Hp} : ∀ {is : List Nat} {as : List Val} {vs : List V} {ow : OwF} {ε ε' : SE} {σ : L2.St} {H1 : Hp}, Sim Γ ow ε σ H → Fr ow0 H0 ow H → (∀ p, H1 p = none → H0 p = none) → VRN Γ ow σ H H1 vs as → noOld as → KD.storeL ε is as = some ε' →
    ∃ ow', Sim Γ ow' ε' (setL σ is vs) H ∧ Fr ow0 H0 ow' H
  | [], [], vs, ow, ε, ε', σ, H1, S, fr, hh, r, n, e => by
    cases e
    cases vs with
    | nil => exact ⟨ow, S, fr⟩
    | cons _ _ => exact r.elim
  | i :: is, a :: as, [], ow, ε, ε', σ, H1, S, fr, hh, r, n, e => r.elim
  | i :: is, a :: as, v :: vs, ow, ε, ε', σ, H1, S, fr, hh, r, n, e => by
    have e' : ((storeV ε i a).bind fun ε1 => KD.storeL ε1 is as) = some ε' := e
    cases e1 : storeV ε i a with
    | none => simp [e1] at e'
    | some ε1 =>
      simp only [e1, Option.bind_some] at e'
      obtain ⟨r1, H2, h2, h3, r2⟩ := r
      have r1' : VR Γ ow H0 σ H v a := r1.back hh
      -- what the store does to the ghost
      have key : ∃ ow1, Sim Γ ow1 ε1 (σ.set i (some v)) H ∧ Fr ow0 H0 ow1 H ∧ cut H ow1 = cut H ow ∧ ∀ p, (∀ m, a = .new m → v ≠ .ref p) → ow1 p = ow p := by
        cases a with
        | d x => cases e1; exact ⟨ow, S.setD i r1', fr, rfl, fun _ _ => rfl⟩
        | old j => exact n.elim
        | new m =>
          obtain ⟨p, rfl, ht, h0, ho⟩ := id r1'
          obtain ⟨_, S2, fr2⟩ := S.store fr r1' e1
          cases e1
          have hc : cut H (setO ow p (some (.slot i))) = cut H ow := by
            funext b
            by_cases hb : b = p
            · subst hb; unfold cut; rw [setO_same, ht]
            · unfold cut; rw [setO_ne hb]
          refine ⟨setO ow p (some (.slot i)), ?_, ?_, hc, fun q hq => setO_ne fun z => hq m rfl (by rw [z])⟩
          · refine ⟨S2.len, fun j d h => ?_, fun j mm h => ?_, fun k mm h => ?_⟩
            · have h' : (ε.sl.set i (.own m))[j]? = some (.d d) := h
              by_cases hj : i = j
              · subst hj
                have hl : i < ε.sl.length := by
                  have := (List.getElem?_eq_some_iff.mp h').1
                  rw [List.length_set] at this; exact this
                rw [List.getElem?_set_self hl] at h'
                cases h'
              · rw [List.getElem?_set_ne hj] at h' ⊢
                rw [hc]; exact S.sd j d h'
            · have h' : (ε.sl.set i (.own m))[j]? = some (.own mm) := h
              by_cases hj : i = j
              · subst hj
                have hl : i < ε.sl.length := by
                  have := (List.getElem?_eq_some_iff.mp h').1
                  rw [List.length_set] at this; exact this
                rw [List.getElem?_set_self hl] at h'
                cases h'
                exact ⟨p, by rw [List.getElem?_set_self (by rw [S.len]; exact hl)], setO_same, by rw [hc]; exact ho⟩
              · rw [List.getElem?_set_ne hj] at h' ⊢
                obtain ⟨q, q1, q2, q3⟩ := S.so j mm h'
                have n : q ≠ p := by rintro rfl; rw [ht] at q2; cases q2
                exact ⟨q, q1, by rw [setO_ne n]; exact q2, by rw [hc]; exact q3⟩
            · obtain ⟨q, q1, q2, q3⟩ := S.mo k mm h
              have n : q ≠ p := by rintro rfl; rw [ht] at q2; cases q2
              exact ⟨q, q1, by rw [setO_ne n]; exact q2, by rw [hc]; exact q3⟩
          · have ne : ∀ b o, H0 b = some o → b ≠ p := fun b o h => ne_of_none h h0
            exact ⟨fun b o h e => by rw [setO_ne (ne b o h)]; exact fr.fz b o h e, fun b o w h e q => by rw [setO_ne (ne b o h)]; exact fr.ke b o w h e q, fr.tr, fun b o n h e => by rw [setO_ne (ne b o h)]; exact fr.ob b o n h e⟩
      obtain ⟨ow1, S1, fr1, hc, hk⟩ := key
      have conv : ∀ {us : List V} {bs : List Val} {H3 : Hp}, (∀ p, H3 p = none → H2 p = none) → VRN Γ ow σ H H3 us bs → noOld bs → VRN Γ ow1 (σ.set i (some v)) H H3 us bs := by
        intro us bs
        induction bs generalizing us with
        | nil => intro H3 hh3 r n; cases us with | nil => trivial | cons _ _ => exact r
        | cons b bs ih =>
          intro H3 hh3 r n
          cases us with
          | nil => exact r
          | cons u us =>
            obtain ⟨q1, H4, q2, q3, q4⟩ := r
            cases b with
            | old j => exact n.elim
            | d x => exact ⟨by show Rp Γ (cut H ow1) u x; rw [hc]; exact q1, H4, q2, q3, ih (fun p hp => hh3 p (q2 p hp)) q4 n⟩
            | new m =>
              refine ⟨?_, H4, q2, q3, ih (fun p hp => hh3 p (q2 p hp)) q4 n⟩
              obtain ⟨p, z1, z2, z3, z4⟩ := q1
              have hp2 : H2 p = none := hh3 p z3
              refine ⟨p, z1, ?_, z3, by rw [hc]; exact z4⟩
              rw [hk p fun m' hm' hv => ?_]
              · exact z2
              · obtain ⟨o, ho⟩ := h3 m' hm' p hv
                rw [hp2] at ho; cases ho
      have n' : noOld as := by cases a with
        | old j => exact n.elim
        | d _ => exact n
        | new _ => exact n
      exact Sim.storeL (is := is) (as := as) (vs := vs) S1 fr1 (fun p hp => hh p (h2 p hp)) (conv (fun p hp => hp) r2 n') n' e'
def sPar (is : List Nat) (f : AM) : SM := fun ε => (f ε).bind fun r => (deold r.2 r.1).bind fun q => (storeL q.2 is q.1).map fun ε' => .nx ε'
theorem sPar_some {is : List Nat} {f : AM} {ε : SE} {out : Out} (h : sPar is f ε = some out) : ∃ r q ε', f ε = some r ∧ deold r.2 r.1 = some q ∧ storeL q.2 is q.1 = some ε' ∧ out = .nx ε' := by
  unfold sPar at h
  cases e1 : f ε with
  | none => simp [e1] at h
  | some r =>
    simp only [e1, Option.bind_some] at h
    cases e2 : deold r.2 r.1 with
    | none => simp [e2] at h
    | some q =>
      simp only [e2, Option.bind_some] at h
      cases e3 : storeL q.2 is q.1 with
      | none => simp [e3] at h
      | some ε' => simp only [e3, Option.map_some, Option.some.injEq] at h; exact ⟨r, q, ε', rfl, e2, e3, h.symm⟩
theorem storeL_len : ∀ {is : List Nat} {as : List Val} {ε ε' : SE}, storeL ε is as = some ε' → is.length = as.length
  | [], [], _, _, _ => rfl
  | i :: is, a :: as, ε, ε', e => by
    have e' : ((storeV ε i a).bind fun ε1 => KD.storeL ε1 is as) = some ε' := e
    cases e1 : storeV ε i a with
    | none => simp [e1] at e'
    | some ε1 =>
      simp only [e1, Option.bind_some] at e'
      rw [List.length_cons, List.length_cons, storeL_len e']
  | [], _ :: _, _, _, e => by cases e
  | _ :: _, [], _, _, e => by cases e
theorem VRN.len {ow : OwF} {σ : L2.St} {H : Hp} : ∀ {as : List Val} {vs : List V} {H0 : Hp}, VRN Γ ow σ H H0 vs as → vs.length = as.length
  | [], [], _, _ => rfl
  | a :: as, v :: vs, _, h => by obtain ⟨_, _, _, _, h⟩ := h; rw [List.length_cons, List.length_cons, VRN.len h]
  | [], _ :: _, _, h => h.elim
  | _ :: _, [], _, h => h.elim
/-- two local names, no tuple -/
theorem ds_par {i j : Nat} {st : Stmt} {f : AM} (h : PS X st (tPar i j (tAN X.K ct f))) : PS X st (tS X.K ct (sPar [i, j] f)) := h.imp fun E σ H ⟨mu, ow, ε, out, S, hf, k⟩ => by
  obtain ⟨r, q, ε', e1, e2, e3, rfl⟩ := sPar_some hf
  refine ⟨mu, ow, ε, r.1, r.2, S, e1, fun vs H1 ow1 S1 fr1 r1 => ?_⟩
  obtain ⟨ow2, S2, fr2, r2, n2⟩ := VRN.deold S1 r1 e2
  obtain ⟨ow3, S3, fr3⟩ := Sim.storeL S2 (fr1.trans fr2) (fun p hp => hp) r2 n2 e3
  have hl := VRN.len r2
  rw [← storeL_len e3] at hl
  match vs, hl with
  | [v, w], _ => exact ⟨v, w, rfl, k _ H1 ow3 S3 fr3⟩
/-- any number of names: a tuple is made and unpacked -/
def gNames : List Nat → TGs
  | [] => gNil
  | i :: is => gCons (gName i) (gNames is)
theorem gNames_go {Q : L2.St → Hp → Prop} {H : Hp} : ∀ {is : List Nat} {vs : List V} {σ : L2.St}, vs.length = is.length → Q (setL σ is vs) H → gNames is vs σ H Q
  | [], [], σ, _, q => ⟨rfl, q⟩
  | i :: is, v :: vs, σ, h, q => ⟨v, vs, rfl, gNames_go (by simpa using h) q⟩
  | [], _ :: _, _, h, _ => by simp at h
  | _ :: _, [], _, h, _ => by simp at h
theorem ds_parT {is : List Nat} {n : Nat} {st : Stmt} {f : AM} (hn : is.length = n) (hs : n ≤ 16777216) (h : PS X st (tAsg (tTup (tAN X.K ct f)) (gTup X.K n (gNames is)))) : PS X st (tS X.K ct (sPar is f)) := h.imp fun E σ H ⟨mu, ow, ε, out, S, hf, k⟩ => by
  obtain ⟨r, q, ε', e1, e2, e3, rfl⟩ := sPar_some hf
  refine ⟨mu, ow, ε, r.1, r.2, S, e1, fun vs H1 ow1 S1 fr1 r1 => ?_⟩
  have hl2 := VRN.len r1
  obtain ⟨ow2, S2, fr2, r2, n2⟩ := VRN.deold S1 r1 e2
  have hl := VRN.len r2
  rw [← storeL_len e3] at hl
  refine ⟨sz_line (by omega), fun p hp => ⟨p, vs, rfl, .of upd_same, by omega, gNames_go hl ?_⟩⟩
  obtain ⟨S2', fr2'⟩ := S2.alloc (o := .tup vs) hp none
  have r2' : VRN ⟨X.K, ct, mu⟩ (setO ow2 p none) σ (upd H1 p (.tup vs)) H vs q.1 := by
    have gen : ∀ {as : List Val} {us : List V} {H0 : Hp}, VRN ⟨X.K, ct, mu⟩ ow2 σ H1 H0 us as → VRN ⟨X.K, ct, mu⟩ (setO ow2 p none) σ (upd H1 p (.tup vs)) H0 us as := by
      intro as
      induction as with
      | nil => intro us H0 h; cases us with | nil => trivial | cons _ _ => exact h
      | cons a as ih => intro us H0 h; cases us with
        | nil => exact h
        | cons u us => obtain ⟨h1, H1', h2, h3, h4⟩ := h; exact ⟨h1.carryN fr2', H1', h2, h3, ih h4⟩
    exact gen r2
  obtain ⟨ow3, S3, fr3⟩ := Sim.storeL S2' ((fr1.trans fr2).trans fr2') (fun p hp => hp) r2' n2 e3
  exact k _ _ ow3 S3 fr3

/-! ### o[i] = e, o.f = e -/
theorem putF_zip {f : Str} {v : V} : ∀ {ns : List Str} {vs : List V}, vs.length = ns.length → putF f v (ns.zip vs) = (match ns.findIdx? (· == f) with
    | some j => ns.zip (vs.set j v)
    | none => (ns ++ [f]).zip (vs ++ [v]))
  | [], [], _ => rfl
  | n :: ns, w :: vs, h => by
    have ih := putF_zip (f := f) (v := v) (ns := ns) (vs := vs) (by simpa using h)
    show (if n = f then (n, v) :: ns.zip vs else (n, w) :: putF f v (ns.zip vs)) = _
    rw [List.findIdx?_cons]
    by_cases c : n = f
    · subst c
      simp
    · rw [if_neg c]
      have c' : (n == f) = false := by simpa using c
      rw [c', ih]
      cases e : ns.findIdx? (· == f) with
      | none => simp
      | some j => simp
  | [], _ :: _, h => by simp at h
  | _ :: _, [], h => by simp at h
def putFD (f : Str) (d : D) (ns : List Str) (ds : List D) : List Str × List D := match ns.findIdx? (· == f) with
  | some j => (ns, ds.set j d)
  | none => (ns ++ [f], ds ++ [d])
def sFldD (c : Nat) (f : Str) (fo fe : EM) : SM := fun ε => (escE fe ε).bind fun re => (fzE fo re.2).bind fun ro => match tgt ro.2 ro.1 with
  | some (.ins c' ns ds) => if c' = c ∧ ns.length < 1000 ∧ ds.length = ns.length then some (.nx (put ro.2 (.ins c' (putFD f re.1 ns ds).1 (putFD f re.1 ns ds).2) ro.1)) else none
  | _ => none
theorem ds_fld {c : Nat} {f : Str} {fo fe : EM} {st : Stmt} (hc : Cls X.K (ct c)) (hn : NoAttr X.K (ct c) f) (h : PS X st (sFld X.K (tE X.K ct (fzE fo)) (tE X.K ct (fzE fe)) f)) : PS X st (tS X.K ct (sFldD c f fo fe)) := h.imp fun E σ H ⟨mu, ow, ε, out, S, hf, k⟩ => by
  unfold sFldD at hf
  cases e1 : escE fe ε with
  | none => simp [e1] at hf
  | some re =>
    simp only [e1, Option.bind_some] at hf
    cases e2 : fzE fo re.2 with
    | none => simp [e2] at hf
    | some ro =>
      simp only [e2, Option.bind_some] at hf
      split at hf
      · rename_i c' ns ds ht
        split at hf
        · rename_i hcc
          obtain ⟨rfl, hlt, hdl⟩ := hcc
          cases hf
          refine tE_esc e1 S fun v H1 ow1 S1 fr1 r1 => ⟨mu, ow1, re.2, ro.1, ro.2, S1, e2, fun x H2 ow2 S2 fr2 r2 => ?_⟩
          obtain ⟨va, ha, hv⟩ := fzE_some e2
          rw [hv] at r2 ht
          obtain ⟨p, rfl, ⟨dx, vs, h1, h2, h3⟩, ch⟩ := S2.change r2 ht
          have r1' := r1.mono fr2.sub
          refine ⟨p, ct c', dx, _, rfl, h1, hc, hn, by rw [List.length_zip]; omega, ?_⟩
          have ob : ObjR ⟨X.K, ct, mu⟩ (cut H2 ow2) (upd H2 p (.ins (ct c') dx (putF f v (ns.zip vs)))) p (.ins c' (putFD f re.1 ns ds).1 (putFD f re.1 ns ds).2) := by
            have hlv := h3.length
            unfold putFD
            rw [putF_zip h2]
            cases e : ns.findIdx? (· == f) with
            | some j => exact ⟨dx, vs.set j v, upd_same, by rw [List.length_set, h2], RpAll.set r1' j h3⟩
            | none => exact ⟨dx, vs ++ [v], upd_same, by simp [h2], h3.append (.one r1')⟩
          obtain ⟨S3, fr3⟩ := ch _ _ ob
          exact k σ _ ow2 (by rw [hv]; exact S3) ((fr1.trans fr2).trans fr3)
        · cases hf
      · cases hf
/-- xs[i] = e for a list -/
def ixNat (n : Nat) (i : Int) : Option Nat := ixN n i
def sSetIx (fo fi fe : EM) : SM := fun ε => (escE fe ε).bind fun re => (fzE fo re.2).bind fun ro => (fzE fi ro.2).bind fun ri => match tgt ri.2 ro.1, ri.1.res ri.2 with
  | some (.lst l), some (.int i) => (ixN l.length i).map fun j => .nx (put ri.2 (.lst (l.set j re.1)) ro.1)
  | _, _ => none
theorem ds_setIx {fo fi fe : EM} {st : Stmt} (h : PS X st (tAsg (tE X.K ct (fzE fe)) (gSub (tE X.K ct (fzE fo)) (tE X.K ct (fzE fi)) rSetL))) : PS X st (tS X.K ct (sSetIx fo fi fe)) := h.imp fun E σ H ⟨mu, ow, ε, out, S, hf, k⟩ => by
  unfold sSetIx at hf
  cases e1 : escE fe ε with
  | none => simp [e1] at hf
  | some re =>
    simp only [e1, Option.bind_some] at hf
    cases e2 : fzE fo re.2 with
    | none => simp [e2] at hf
    | some ro =>
      simp only [e2, Option.bind_some] at hf
      cases e3 : fzE fi ro.2 with
      | none => simp [e3] at hf
      | some ri =>
        simp only [e3, Option.bind_some] at hf
        split at hf
        · rename_i l i ht hi
          cases e4 : ixN l.length i with
          | none => simp [e4] at hf
          | some j =>
            simp only [e4, Option.map_some, Option.some.injEq] at hf
            subst hf
            refine tE_esc e1 S fun v H1 ow1 S1 fr1 r1 => ⟨mu, ow1, re.2, ro.1, ro.2, S1, e2, fun x H2 ow2 S2 fr2 r2 => ⟨mu, ow2, ro.2, ri.1, ri.2, S2, e3, fun y H3 ow3 S3 fr3 r3 => ?_⟩⟩
            obtain ⟨va, ha, hv⟩ := fzE_some e2
            rw [hv] at r2 ht
            obtain ⟨p, rfl, ⟨vs, h1, h3, hll⟩, ch⟩ := S3.change (r2.carry fr3 (H0' := H3)) ht
            have r1' := r1.mono (fr2.trans fr3).sub
            have rI : y = .int i := by
              have q := (VR.res S3 r3 hi).up cut_sub
              cases q; rfl
            subst rI
            refine ⟨p, vs, i, j, rfl, rfl, h1, by rw [h3.length]; exact e4, ?_⟩
            obtain ⟨S4, fr4⟩ := ch _ _ (show ObjR _ _ _ p (.lst (l.set j re.1)) from ⟨vs.set j v, upd_same, RpAll.set r1' j h3, by rw [List.length_set]; exact hll⟩)
            exact k σ _ ow3 (by rw [hv]; exact S4) (((fr1.trans fr2).trans fr3).trans fr4)
        · cases hf
/-- x += e -/
def sAug (i : Nat) (g : D → D → Option D) (fe : EM) : SM := fun ε => match ε.sl[i]? with
  | some (.d x) => (fzE fe ε).bind fun r => (r.1.res r.2).bind fun y => (g x y).map fun z => .nx (setS r.2 i (.d z))
  | _ => none
def IpS (K : PySem.W.Frag) (ct : Nat → Addr) (r : TIp) (g : D → D → Option D) : Prop := ∀ (mu : Nat → Option Addr) (F H : Hp) (x y : V) (d e z : D) (Q : VK), Sub F H → Rp ⟨K, ct, mu⟩ F x d → RpO ⟨K, ct, mu⟩ F H y e → g d e = some z → (∀ v, Rp ⟨K, ct, mu⟩ F v z → Q v H) → r x y H Q
theorem ds_aug {i : Nat} {r : TIp} {g : D → D → Option D} {fe : EM} {st : Stmt} (hs : IpS X.K ct r g) (h : PS X st (tAug i (tE X.K ct (fzE fe)) r)) : PS X st (tS X.K ct (sAug i g fe)) := h.imp fun E σ H ⟨mu, ow, ε, out, S, hf, k⟩ => by
  unfold sAug at hf
  split at hf
  · rename_i x hx
    cases e1 : fzE fe ε with
    | none => simp [e1] at hf
    | some q =>
      simp only [e1, Option.bind_some] at hf
      cases e2 : q.1.res q.2 with
      | none => simp [e2] at hf
      | some y =>
        simp only [e2, Option.bind_some] at hf
        cases e3 : g x y with
        | none => simp [e3] at hf
        | some z =>
          simp only [e3, Option.map_some, Option.some.injEq] at hf
          subst hf
          obtain ⟨v, h1, h2⟩ := S.sd i x hx
          refine ⟨v, h1, mu, ow, ε, q.1, q.2, S, e1, fun w H1 ow1 S1 fr1 r1 => hs mu (cut H1 ow1) H1 v w x y z _ cut_sub (h2.mono fr1.sub) (VR.res S1 r1 e2) e3 fun u ru => k _ H1 ow1 (S1.setD i ru) fr1⟩
  · cases hf

/-! ### a def -/
def slots0 (ds : List D) (N : Nat) : List Sl := ds.map .d ++ List.replicate (N - ds.length) .no
def finV (o : Out) : Option (Val × List MO) := match o with
  | .nx ε => some (.d .non, ε.M)
  | .rt (.d x) ε => some (.d x, ε.M)
  | .rt (.new m) ε => some (.new m, ε.M)
  | .rt (.old i) ε => match ε.sl[i]? with
    | some (.own m) => some (.new m, ε.M)
    | some (.d x) => some (.d x, ε.M)
    | _ => none
  | _ => none
def runF (n N : Nat) (f : SM) : FM := fun ds M => if ds.length = n then (f ⟨slots0 ds N, M⟩).bind finV else none
theorem runF_len {n N : Nat} {f : SM} {ds : List D} {M : List MO} {o : Val × List MO} (h : runF n N f ds M = some o) : ds.length = n := by
  unfold runF at h
  split at h
  · assumption
  · cases h
theorem sim_start {ow : OwF} {N : List Str} {vs : List V} {ds : List D} {M : List MO} {H : Hp} (hN : vs.length ≤ N.length) (r : RpAll Γ (cut H ow) vs ds) (m : MSim Γ ow M H) : Sim Γ ow ⟨slots0 ds N.length, M⟩ (L2.start N vs) H := by
  have hl := r.length
  refine ⟨?_, fun i d h => ?_, fun i mm h => ?_, m⟩
  · show (L2.start N vs).length = (slots0 ds N.length).length
    unfold L2.start slots0
    simp [hl]
  · have h' : (ds.map Sl.d ++ List.replicate (N.length - ds.length) Sl.no)[i]? = some (.d d) := h
    unfold L2.start
    by_cases hi : i < ds.length
    · rw [List.getElem?_append_left (by simpa using hi), List.getElem?_map] at h'
      rw [List.getElem?_append_left (by simpa [hl] using hi), List.getElem?_map]
      cases e : ds[i]? with
      | none => rw [e] at h'; cases h'
      | some x =>
        rw [e] at h'
        cases h'
        obtain ⟨v, q1, q2⟩ := r.get e
        exact ⟨v, by rw [q1]; rfl, q2⟩
    · rw [List.getElem?_append_right (by simpa using hi), List.getElem?_replicate] at h'
      split at h' <;> cases h'
  · have h' : (ds.map Sl.d ++ List.replicate (N.length - ds.length) Sl.no)[i]? = some (.own mm) := h
    by_cases hi : i < ds.length
    · rw [List.getElem?_append_left (by simpa using hi), List.getElem?_map] at h'
      cases e : ds[i]? with
      | none => rw [e] at h'; cases h'
      | some x => rw [e] at h'; cases h'
    · rw [List.getElem?_append_right (by simpa using hi), List.getElem?_replicate] at h'
      split at h' <;> cases h'
/-- a promise's call, the body ahead -/
theorem fnS_start {K : PySem.W.Frag} {N ps : List Str} {fm : SM} {vs : List V} {H : Hp} {Q : VK} {E : XK} (hpl : ps.length ≤ N.length) (h : FnS K ct ps.length (runF ps.length N.length fm) vs H Q E) :
    tS K ct fm { nx := fun _ H' => Q .non H', rt := Q } (L2.start N vs) H := by
  obtain ⟨hn, mu, ow, ds, M, r, hno, ra, hM, hf, k⟩ := h
  unfold runF at hf
  have hdl : ds.length = ps.length := by rw [← ra.length]; exact hn
  rw [if_pos hdl] at hf
  cases e : fm ⟨slots0 ds N.length, M⟩ with
  | none => simp [e] at hf
  | some out =>
    simp only [e, Option.bind_some] at hf
    refine ⟨mu, ow, _, out, sim_start (by omega) ra hM, e, ?_⟩
    cases out with
    | nx ε => cases hf; exact fun σ' H' ow' S' fr => k _ H' ow' S'.mo fr .non
    | bk ε => cases hf
    | ct ε => cases hf
    | rt val ε =>
      cases val with
      | d x => cases hf; exact fun v σ' H' ow' S' fr r => k v H' ow' S'.mo fr r
      | new m => cases hf; exact fun v σ' H' ow' S' fr r => k v H' ow' S'.mo fr r
      | old i =>
        have hf' : (match ε.sl[i]? with | some (.own m) => some (Val.new m, ε.M) | some (.d x) => some (.d x, ε.M) | _ => none) = some r := hf
        split at hf'
        · rename_i m hm
          cases hf'
          intro v σ' H' ow' S' fr rv
          obtain ⟨p, h1, h2, h3⟩ := S'.so i m hm
          have rv' : σ'[i]? = some (some v) := rv
          rw [h1] at rv'
          cases rv'
          have hp : H p = none := by
            cases q : H p with
            | none => rfl
            | some o =>
              cases q2 : ow p with
              | none => have := (fr.fz p o q q2).1; rw [h2] at this; cases this
              | some w =>
                rcases hno p w q2 with rfl | ⟨n, rfl⟩
                · have := (fr.ke p o _ q q2 (.inr rfl)).1; rw [h2] at this; cases this
                · have := fr.ob p o n q q2; rw [h2] at this; cases this
          have hc : cut H' (setO ow' p (some .tmp)) = cut H' ow' := by
            funext a
            by_cases ha : a = p
            · subst ha; unfold cut; rw [setO_same, h2]
            · unfold cut; rw [setO_ne ha]
          have ne : ∀ a o, H a = some o → a ≠ p := fun a o h => ne_of_none h hp
          refine k _ H' (setO ow' p (some .tmp)) (fun n mm hmm => ?_) ⟨fun a o h e => by rw [setO_ne (ne a o h)]; exact fr.fz a o h e, fun a o w h e q => by rw [setO_ne (ne a o h)]; exact fr.ke a o w h e q, fr.tr, fun a o n h e => by rw [setO_ne (ne a o h)]; exact fr.ob a o n h e⟩ ⟨p, rfl, setO_same, hp, by rw [hc]; exact h3⟩
          obtain ⟨q, q1, q2, q3⟩ := S'.mo n mm hmm
          have n' : q ≠ p := by rintro rfl; rw [h2] at q2; cases q2
          exact ⟨q, q1, by rw [setO_ne n']; exact q2, by rw [hc]; exact q3⟩
        · rename_i x hx
          cases hf'
          intro v σ' H' ow' S' fr rv
          obtain ⟨v', h1, h2⟩ := S'.sd i x hx
          have rv' : σ'[i]? = some (some v) := rv
          rw [h1] at rv'
          cases rv'
          exact k v H' ow' S'.mo fr h2
        · cases hf'
/-- THE RULE for a def: it computes its mirror -/
theorem fn_ok {P : Program} {w : World} {K : PySem.W.Frag} {mg : Str → Option Value} {base : Heap} {x qual : Str} {st : Stmt} {f : Addr} {fd : FuncData} {N ps : List Str} {k : Nat} {fm : SM} (F : Fun K x qual st f fd) (S : FnScope N ps (defScope st))
    (hb : ∀ cdv A outer s H E, Room k (A.deeper (PyProof.Rows.envOfC qual (defScope st) s.heap.objs.size f cdv)) → PSs (cxOf CX0 P w K mg base N qual (defScope st) f cdv A outer s H E).nox (defBody st) (tS K ct fm)) :
    FnOk P w K mg base CX0 (k + 1) f fd ps (FnS K ct ps.length (runF ps.length N.length fm)) := by
  refine F.ok S (fun vs H Q E h => h.1) fun cdv A outer s H vs Q E hr h => ⟨tS K ct fm, hb cdv A outer s H E hr, fnS_start ?_ h⟩
  have := congrArg List.length S.pre
  rw [List.length_take] at this
  omega
end
end KD

set_option maxHeartbeats 4000000
namespace KD
open PySem PySem.Spec PyProof.Rows L2 HT
section
variable {X : Cx}
/-! ### rules of the machine once more, the new tuple's record told -/
theorem newTup {pins : List (Addr × Obj)} {σ : L2.St} {H : Hp} {s : Shared} {xs : List V} {its : List Value} {Q : VK} (I : Inv X pins σ H s) (r : Vals xs its) (hz : xs.length ≤ sizeLine)
    (q : ∀ p o, H p = none → o.dict = none → Q (.ref p) (upd H p (.frz o (.tup xs)))) : EP X pins σ Q (.ref s.heap.objs.size) { s with heap := s.heap.push { cls := .type "tuple", data := .seq its.toArray } } := by
  refine ⟨.ref s.heap.objs.size, _, I.laid (t' := s.toks) (o := .frz { cls := .type "tuple", data := .seq its.toArray } (.tup xs)) (fun b ob q => Heap.get?_push_of_some _ q) (Nat.le_refl _) ?_, rfl, q _ _ (I.hok.fresh (Nat.le_refl _)) rfl⟩
  exact ⟨Heap.get?_push_size _ rfl, hz, its, r, IsTup.new _ _⟩
def rCatF (K : PySem.W.Frag) : R2 := fun x y H Q => ∃ a b xs ys, x = .ref a ∧ y = .ref b ∧ SqT K H a xs ∧ SqT K H b ys ∧ xs.length + ys.length ≤ sizeLine ∧
  (xs = [] → Q (.ref b) H) ∧ (xs ≠ [] → ys = [] → Q (.ref a) H) ∧ (xs ≠ [] → ys ≠ [] → ∀ p o, H p = none → o.dict = none → Q (.ref p) (upd H p (.frz o (.tup (xs ++ ys)))))
theorem op_catF : OpR X (binaryOp .Add) (rCatF X.K) := by
  intro pins s σ H x y v u Q I rx ry h
  obtain ⟨a, b, xs, ys, rfl, rfl, ha, hb, hz, q0, q1, q2⟩ := h
  cases rx
  cases ry
  obtain ⟨its, r1, p1, _⟩ := I.tuple ha
  obtain ⟨its2, r2, p2, _⟩ := I.tuple hb
  by_cases hx : xs = []
  · subst hx
    cases r1
    exact cat_tup0 p1 p2 ⟨.ref b, H, I, rfl, q0 rfl⟩
  · refine HT.cat_tup p1 p2 (fun z => hx (r1.nil_iff.mp z)) (fun z => ⟨.ref a, H, I, rfl, q1 hx (r2.nil_iff.mp z)⟩) (fun z => ?_) (by rw [← r1.length, ← r2.length]; exact hz)
    exact newTup I (r1.append r2) (by rw [List.length_append]; exact hz) (q2 hx (fun w => z (r2.nil_iff.mpr w)))
def rTupOf (K : PySem.W.Frag) : List V → Hp → VK → Prop := fun xs H Q => ∃ p ys, xs = [.ref p] ∧ ((SqL K H p ys ∧ ∀ l o, H l = none → o.dict = none → Q (.ref l) (upd H l (.frz o (.tup ys)))) ∨ (SqT K H p ys ∧ Q (.ref p) H))
theorem call_tupleF : CallR X (.type "tuple") (rTupOf X.K) := by
  intro pins s σ H xs us Q I r h
  obtain ⟨p, ys, rfl, h⟩ := h
  obtain ⟨u, rfl, rx⟩ := vals1 r
  cases rx
  rcases h with ⟨hq, q⟩ | ⟨hq, q⟩
  · obtain ⟨its, r', pl, hz⟩ := I.list hq
    have hlen := r'.length
    refine call_tuple_list pl.isList (fun h' kp => ?_) (by simp only [List.size_toArray] <;> omega)
    have I1 : Inv X pins σ H { s with heap := h' } := I.kept (t' := s.toks) kp
    exact newTup I1 r' hz q
  · obtain ⟨its, r', pl, hz⟩ := I.tuple hq
    exact call_tuple_same pl ⟨.ref p, H, I, rfl, q⟩
def rSlF (K : PySem.W.Frag) : V → Option Int → Option Int → Hp → VK → Prop := fun x lo hi H Q => ∃ a xs, x = .ref a ∧ SqT K H a xs ∧
  (HT.sIx xs.length 0 lo = 0 ∧ HT.sIx xs.length xs.length hi = xs.length → Q (.ref a) H) ∧ (¬ (HT.sIx xs.length 0 lo = 0 ∧ HT.sIx xs.length xs.length hi = xs.length) → ∀ p o, H p = none → o.dict = none → Q (.ref p) (upd H p (.frz o (.tup (cutV xs lo hi)))))
theorem sl_tupF : SlR X (rSlF X.K) := by
  intro pins s σ H x v vl vu lo hi sl Q I rx hs pl pu h
  obtain ⟨a, xs, rfl, hx, q1, q2⟩ := h
  cases rx
  obtain ⟨its, r, ht, hz⟩ := I.tuple hx
  have hlen : its.toArray.size = xs.length := by rw [List.size_toArray]; exact r.length.symm
  refine ⟨"tuple", _, PyProof.Rows.slot_tuple_getitem.lookup, ht.typeIs, ?_⟩
  by_cases hw : HT.sIx xs.length 0 lo = 0 ∧ HT.sIx xs.length xs.length hi = xs.length
  · exact getItem_tuple_whole ht hs pl pu (by rw [hlen]; exact hw) ⟨.ref a, H, I, rfl, q1 hw⟩
  · refine HT.getItem_tuple_cut ht hs pl pu (by rw [hlen]; exact hw) ?_ (by rw [hlen]; exact hz)
    rw [hlen]
    exact newTup I ((r.drop (HT.sIx xs.length 0 lo)).take (HT.sIx xs.length xs.length hi - HT.sIx xs.length 0 lo)) (Nat.le_trans (cutV_length xs lo hi) hz) (q2 hw)
/-- t.index(x), t.count(x) of a plain tuple -/
def tTM (K : PySem.W.Frag) (r : V → List V → Hp → VK → Prop) (to : TE) (t : TA) : TE := fun σ H Q => to σ H fun x H1 => (∃ p xs, x = .ref p ∧ TupR K H1 p xs) ∧ t σ H1 fun xs H2 => r x xs H2 Q
theorem tupR_is {pins : List (Addr × Obj)} {σ : L2.St} {H : Hp} {s : Shared} {p : Addr} {xs : List V} (I : Inv X pins σ H s) (h : TupR X.K H p xs) : s.TypeIs (.ref p) "tuple" ∧ ∀ a, Value.ref p = .ref a → ∃ ob, s.heap.get? a = some ob ∧ ob.dict = none := by
  rcases h with ⟨o, ho, hd⟩ | ⟨o, its, n, hk, hc, hd, _⟩
  · obtain ⟨q1, _, its, rv, o2, q2, q3, _⟩ := (show ObjOk X.prog X.w H s.heap p (.frz o (.tup xs)) from I.hok p _ ho)
    rw [q1] at q2
    cases q2
    exact ⟨⟨o, q1, q3⟩, fun a e => by cases e; exact ⟨o, q1, hd⟩⟩
  · exact ⟨⟨o, I.kIn p o hk, hc⟩, fun a e => by cases e; exact ⟨o, I.kIn _ o hk, hd⟩⟩
theorem pe_tm {o e : Expr} {es : List Expr} {to : TE} {t : TA} {name : Str} {apos cpos : Pos} {id : String} {r : V → List V → Hp → VK → Prop}
    (pa : PlainAttrs "tuple") (slot : Slot "tuple" name id) (hty : typeOf (.builtin id) = pure (.type "method_descriptor")) (hm : MtR X id r) (ho : PE X o to) (ha : PA X (e :: es) t)
    (hbase : attributeBase o name X.env (eval o X.env) = eval o X.env := by rfl)
    (hfew : ((backTo cpos (starEach (e :: es) X.env)).all (fun x => !x.1) && (backToKw cpos (keywordEach [] X.env)).all (fun x => x.1.isSome)
      && decide ((e :: es).length + ([] : List Keyword).length + (if ([] : List Keyword).isEmpty then 0 else 1) < 30)) = true := by rfl)
    (hline : (apos.endLine == cpos.line) = true := by rfl) (hs : starEach (e :: es) X.env = (false, eval e X.env) :: starEach es X.env := by rfl) (hplain : (backTo cpos (starEach es X.env)).any (·.1) = false := by rfl) :
    PE X (.Call (.Attribute o name apos) (e :: es) [] cpos) (tTM X.K r to t) := by
  refine ⟨fun pins s σ H Q I h => ?_⟩
  refine wpAny_Call_method_late hbase hfew hline rfl (thn (ho.run pins s σ H _ I h) fun v s1 ⟨x, H1, I1, r1, ⟨p, xs, ex, tp⟩, q1⟩ => ?_)
  subst ex
  cases r1
  obtain ⟨h1, h2⟩ := tupR_is I1 tp
  refine ⟨"tuple", id, pa, slot, hty, h1, h2, ?_⟩
  have hA := ha.run cpos pins s1 σ H1 _ I1 q1
  rw [hs] at hA ⊢
  refine Calls.callWith_builtin (by show (false || (backTo cpos (starEach es X.env)).any (·.1)) = false; rw [hplain] <;> rfl) (Calls.evalArgs_plain ?_)
  exact thn hA fun us s2 ⟨vs, H2, I2, r2, q2⟩ => hm pins s2 σ H2 (.ref p) vs _ us Q I2 rfl r2 q2
end
end KD

set_option maxHeartbeats 4000000
namespace KD
open PySem L2
section
variable {K : PySem.W.Frag} {ct : Nat → Addr} {X : Cx} {Γ : Gam}
theorem sz16 {n : Nat} (h : n ≤ 16777216) : n ≤ sizeLine := sz_line h
theorem sOk_append {a b : Str} (ha : sOk a = true) (hb : sOk b = true) (h : a.length + b.length ≤ 16777216) : sOk (a ++ b) = true := by
  unfold sOk at ha hb ⊢
  rw [Bool.and_eq_true] at ha hb ⊢
  have e : (a ++ b).cps = a.cps ++ b.cps := rfl
  rw [e]
  refine ⟨?_, ?_⟩
  · rw [Array.all_append, ha.1, hb.1]; rfl
  · rw [Array.size_append]; exact decide_eq_true h
theorem sOk_len {a : Str} (h : sOk a = true) : a.length ≤ 16777216 := of_decide_eq_true (Bool.and_eq_true_iff.mp h).2
/-- the shape of an outermost list -/
theorem RpO.lst {F H : Hp} {v : V} {l : List D} (h : RpO Γ F H v (.lst l)) (sb : Sub F H) : ∃ a vs, v = .ref a ∧ H a = some (.lst vs) ∧ RpAll Γ F vs l ∧ l.length ≤ 16777216 := by
  rcases h with h | ⟨p, m, rfl, ho, hm⟩
  · cases h with | lst hs ra hl => exact ⟨_, _, rfl, sb _ _ hs, ra, hl⟩
  · cases m with
    | lst _ => cases hm; obtain ⟨vs, h1, h2, h3⟩ := ho; exact ⟨_, _, rfl, h1, h2, h3⟩
    | ins _ _ _ => cases hm
    | dct _ _ => cases hm
theorem RpO.tup {F H : Hp} {v : V} {l : List D} (h : RpO Γ F H v (.tup l)) : ∃ a vs, v = .ref a ∧ TupR Γ.K F a vs ∧ RpAll Γ F vs l ∧ l.length ≤ 16777216 := by
  rcases h with h | ⟨p, m, rfl, ho, hm⟩
  · cases h with | tup hs ra hl => exact ⟨_, _, rfl, hs, ra, hl⟩
  · cases m <;> cases hm
theorem RpO.scr {F H : Hp} {v : V} {l : List Int} (h : RpO Γ F H v (.scr l)) : ∃ a, v = .ref a ∧ SqL Γ.K F a (l.map V.int) ∧ l.length ≤ 16777216 := by
  rcases h with h | ⟨p, m, rfl, ho, hm⟩
  · cases h with | scr hs hl => exact ⟨_, rfl, hs, hl⟩
  · cases m <;> cases hm
theorem RpO.str {F H : Hp} {v : V} {s : Str} (h : RpO Γ F H v (.str s)) : v = .str s ∧ sOk s = true := by
  rcases h with h | ⟨p, m, rfl, ho, hm⟩
  · cases h with | str _ hs => exact ⟨rfl, hs⟩
  · cases m <;> cases hm
theorem RpO.int {F H : Hp} {v : V} {i : Int} (h : RpO Γ F H v (.int i)) : v = .int i := by
  rcases h with h | ⟨p, m, rfl, ho, hm⟩
  · cases h; rfl
  · cases m <;> cases hm
theorem RpO.bl {F H : Hp} {v : V} {i : Bool} (h : RpO Γ F H v (.bl i)) : v = .bl i := by
  rcases h with h | ⟨p, m, rfl, ho, hm⟩
  · cases h; rfl
  · cases m <;> cases hm
theorem RpO.non {F H : Hp} {v : V} (h : RpO Γ F H v .non) : v = .non := by
  rcases h with h | ⟨p, m, rfl, ho, hm⟩
  · cases h; rfl
  · cases m <;> cases hm

/-! ### arithmetic -/
def addD : D → D → Option Val
  | .int i, .int j => some (.d (.int (i + j)))
  | .str a, .str b => if a.length + b.length ≤ 16777216 then some (.d (.str (a ++ b))) else none
  | .lst a, .lst b => if a.length + b.length ≤ 16777216 then some (.new (.lst (a ++ b))) else none
  | .tup a, .tup b => if a.length + b.length ≤ 16777216 then some (.d (.tup (a ++ b))) else none
  | _, _ => none
def rAddU (K : PySem.W.Frag) : R2 := fun x y H Q => rI0 (fun i j => .int (i + j)) x y H Q ∨ (∃ i j, x = .str i ∧ y = .str j ∧ i.length + j.length ≤ sizeLine ∧ Q (.str (i ++ j)) H) ∨ rCat x y H Q ∨ rCatF K x y H Q
theorem op_addU : OpR X (binaryOp .Add) (rAddU X.K) := op_add.or (op_add_str.or (op_cat.or op_catF))
theorem os_add : OpS K ct (rAddU K) addD := fun mu F H x y d e val Q sb rx ry h k => by
  cases d <;> cases e <;> first | (cases h; done) | skip
  · cases h
    rw [rx.int, ry.int]
    exact .inl ⟨_, _, rfl, rfl, k _ _ (.same (.int _))⟩
  · rename_i a b
    have h' : (if a.length + b.length ≤ 16777216 then some (Val.d (.str (a ++ b))) else none) = some val := h
    by_cases hl : a.length + b.length ≤ 16777216
    · rw [if_pos hl] at h'
      cases h'
      obtain ⟨rfl, h1⟩ := rx.str
      obtain ⟨rfl, h2⟩ := ry.str
      exact .inr (.inl ⟨a, b, rfl, rfl, sz16 hl, k _ _ (.same (.str _ (sOk_append h1 h2 hl)))⟩)
    · rw [if_neg hl] at h'; cases h'
  · rename_i a b
    have h' : (if a.length + b.length ≤ 16777216 then some (Val.d (.tup (a ++ b))) else none) = some val := h
    by_cases hl : a.length + b.length ≤ 16777216
    · rw [if_pos hl] at h'
      cases h'
      obtain ⟨p, vs, rfl, h1, h2, h3⟩ := rx.tup
      obtain ⟨q, us, rfl, h4, h5, h6⟩ := ry.tup
      have e1 := h2.length
      have e2 := h5.length
      refine .inr (.inr (.inr ⟨p, q, vs, us, rfl, rfl, (sb.tupR h1).sqt, (sb.tupR h4).sqt, sz16 (by omega), fun z => ?_, fun _ z => ?_, fun _ _ r o hr ho => k _ _ (.tup hr ho (h2.append h5) (by rw [List.length_append]; exact hl))⟩))
      · subst z
        cases h2
        exact k _ _ (.same (.tup h4 h5 h6))
      · subst z
        cases h5
        rw [List.append_nil] at k
        exact k _ _ (.same (.tup h1 h2 h3))
    · rw [if_neg hl] at h'; cases h'
  · rename_i a b
    have h' : (if a.length + b.length ≤ 16777216 then some (Val.new (.lst (a ++ b))) else none) = some val := h
    by_cases hl : a.length + b.length ≤ 16777216
    · rw [if_pos hl] at h'
      cases h'
      obtain ⟨p, vs, rfl, h1, h2, h3⟩ := rx.lst sb
      obtain ⟨q, us, rfl, h4, h5, h6⟩ := ry.lst sb
      have e1 := h2.length
      have e2 := h5.length
      exact .inr (.inr (.inl ⟨p, q, vs, us, rfl, rfl, h1, h4, sz16 (by omega), fun r hr => k _ _ (.lst hr (h2.append h5) (by rw [List.length_append]; exact hl))⟩))
    · rw [if_neg hl] at h'; cases h'
def intOp (C : Int → Int → Bool) (g : Int → Int → Int) : D → D → Option Val
  | .int i, .int j => if C i j = true then some (.d (.int (g i j))) else none
  | _, _ => none
theorem os_int {C : Int → Int → Bool} {P : Int → Int → Prop} {g : Int → Int → Int} (hc : ∀ i j, C i j = true → P i j) : OpS K ct (rI P fun i j => .int (g i j)) (intOp C g) := fun mu F H x y d e val Q sb rx ry h k => by
  cases d <;> cases e <;> first | (cases h; done) | skip
  rename_i i j
  have h' : (if C i j = true then some (Val.d (.int (g i j))) else none) = some val := h
  by_cases hl : C i j = true
  · rw [if_pos hl] at h'
    cases h'
    rw [rx.int, ry.int]
    exact ⟨i, j, rfl, rfl, hc i j hl, k _ _ (.same (.int _))⟩
  · rw [if_neg hl] at h'; cases h'
def subD : D → D → Option Val
  | .int i, .int j => some (.d (.int (i - j)))
  | _, _ => none
theorem os_sub : OpS K ct (rI0 fun i j => .int (i - j)) subD := fun mu F H x y d e val Q sb rx ry h k => by
  cases d <;> cases e <;> first | (cases h; done) | skip
  cases h
  rw [rx.int, ry.int]
  exact ⟨_, _, rfl, rfl, k _ _ (.same (.int _))⟩
noncomputable def wid (i : Int) : Bool := @decide (-18446744073709551616 < i ∧ i < 18446744073709551616) (Classical.propDecidable _)
theorem wid_of {i : Int} (h : wid i = true) : -(2 ^ 64) < i ∧ i < 2 ^ 64 := by
  unfold wid at h
  exact @of_decide_eq_true _ (Classical.propDecidable _) h
def repL (k : Int) (l : List D) : List D := (List.replicate k.toNat l).flatten
noncomputable def mulD : D → D → Option Val
  | .int i, .int j => if (wid i || wid j) = true then some (.d (.int (i * j))) else none
  | .lst l, .int k => if bnd k = true ∧ l.length * k.toNat ≤ 16777216 then some (.new (.lst (repL k l))) else none
  | _, _ => none
theorem rp_rep {F : Hp} {vs : List V} {l : List D} (h : RpAll Γ F vs l) : ∀ n : Nat, RpAll Γ F (List.replicate n vs).flatten (List.replicate n l).flatten
  | 0 => .nil
  | n + 1 => by
    rw [List.replicate_succ, List.replicate_succ, List.flatten_cons, List.flatten_cons]
    exact h.append (rp_rep h n)
theorem len_rep {l : List D} (n : Nat) : (List.replicate n l).flatten.length = n * l.length := by simp
def rMulU (K : PySem.W.Frag) : R2 := fun x y H Q => rI CMul (fun i j => .int (i * j)) x y H Q ∨ rRep x y H Q
theorem op_mulU : OpR X (binaryOp .Mult) (rMulU X.K) := op_mul.or op_rep
theorem os_mul : OpS K ct (rMulU K) mulD := fun mu F H x y d e val Q sb rx ry h k => by
  cases d <;> cases e <;> first | (cases h; done) | skip
  · rename_i i j
    have h' : (if (wid i || wid j) = true then some (Val.d (.int (i * j))) else none) = some val := h
    by_cases hl : (wid i || wid j) = true
    · rw [if_pos hl] at h'
      cases h'
      rw [rx.int, ry.int]
      refine .inl ⟨i, j, rfl, rfl, ?_, k _ _ (.same (.int _))⟩
      rw [Bool.or_eq_true] at hl
      exact hl.imp wid_of wid_of
    · rw [if_neg hl] at h'; cases h'
  · rename_i l j
    have h' : (if bnd j = true ∧ l.length * j.toNat ≤ 16777216 then some (Val.new (.lst (repL j l))) else none) = some val := h
    by_cases hl : bnd j = true ∧ l.length * j.toNat ≤ 16777216
    · rw [if_pos hl] at h'
      cases h'
      obtain ⟨p, vs, rfl, h1, h2, h3⟩ := rx.lst sb
      rw [ry.int]
      have e1 := h2.length
      have b := bnd_of hl.1
      refine .inr ⟨p, j, vs, rfl, rfl, h1, by omega, by omega, sz16 (by rw [e1]; exact hl.2), fun r hr => k _ _ (.lst hr (rp_rep h2 _) ?_)⟩
      unfold repL; rw [len_rep, Nat.mul_comm]; exact hl.2
    · rw [if_neg hl] at h'; cases h'
def modD : D → D → Option Val := intOp (fun _ j => decide (0 < j)) fun i j => i % j
theorem os_mod : OpS K ct (rI (fun _ j => 0 < j) fun i j => .int (i % j)) modD := os_int fun i j h => of_decide_eq_true h
def fdivD : D → D → Option Val := intOp (fun _ j => decide (0 < j) && decide (j < 1073741824)) fun i j => i / j
theorem os_fdiv : OpS K ct (rI CDiv fun i j => .int (i / j)) fdivD := os_int fun i j h => by
  rw [Bool.and_eq_true, decide_eq_true_eq, decide_eq_true_eq] at h
  exact h
noncomputable def powD : D → D → Option Val := intOp (fun i j => decide (0 ≤ j) && decide (j ≤ 1000) && wid i) fun i j => i ^ j.toNat
theorem os_pow : OpS K ct (rI CPow fun i j => .int (i ^ j.toNat)) powD := os_int fun i j h => by
  rw [Bool.and_eq_true, Bool.and_eq_true, decide_eq_true_eq, decide_eq_true_eq] at h
  have w := wid_of h.2
  refine ⟨h.1.1, by omega, ?_⟩
  have : (2 : Nat) ^ 64 = 18446744073709551616 := by decide
  rw [this]
  omega
def negE (f : EM) : EM := fun ε => (fzE f ε).bind fun r => (r.1.res r.2).bind fun d => match d with | .int i => some (.d (.int (-i)), r.2) | _ => none
theorem de_neg {a : Expr} {pos : Pos} {f : EM} (h : PE X a (tE X.K ct f)) : PE X (.UnaryOp .USub a pos) (tE X.K ct (negE f)) := (pe_un un_neg (de_fz h)).imp fun σ H Q ⟨mu, ow, ε, val, ε', S, hf, k⟩ => by
  unfold negE at hf
  cases e : fzE f ε with
  | none => simp [e] at hf
  | some r =>
    simp only [e, Option.bind_some] at hf
    cases e2 : r.1.res r.2 with
    | none => simp [e2] at hf
    | some d =>
      simp only [e2, Option.bind_some] at hf
      split at hf
      · cases hf
        exact ⟨mu, ow, ε, r.1, r.2, S, e, fun v H1 ow1 S1 fr1 r1 => ⟨_, (VR.res S1 r1 e2).int, k _ H1 ow1 S1 fr1 (.int _)⟩⟩
      · cases hf
/-! ### order -/
def cmpD (gi : Int → Int → Bool) (gs : List Nat → List Nat → Bool) : D → D → Option Val
  | .int i, .int j => some (.d (.bl (gi i j)))
  | .str a, .str b => some (.d (.bl (gs a.cps.toList b.cps.toList)))
  | _, _ => none
theorem os_cmp {gi : Int → Int → Bool} {gs : List Nat → List Nat → Bool} : OpS K ct (fun x y H Q => rI0 (fun i j => .bl (gi i j)) x y H Q ∨ ∃ i j, x = .str i ∧ y = .str j ∧ Q (.bl (gs i.cps.toList j.cps.toList)) H) (cmpD gi gs) := fun mu F H x y d e val Q sb rx ry h k => by
  cases d <;> cases e <;> first | (cases h; done) | skip
  · cases h
    rw [rx.int, ry.int]
    exact .inl ⟨_, _, rfl, rfl, k _ _ (.same (.bl _))⟩
  · cases h
    rw [rx.str.1, ry.str.1]
    exact .inr ⟨_, _, rfl, rfl, k _ _ (.same (.bl _))⟩
def ltD := cmpD (fun i j => decide (i < j)) fun a b => decide (a < b)
def leD := cmpD (fun i j => decide (i ≤ j)) fun a b => !decide (b < a)
def gtD := cmpD (fun i j => decide (j < i)) fun a b => decide (b < a)
def geD := cmpD (fun i j => decide (j ≤ i)) fun a b => !decide (a < b)
theorem op_ltU : OpR X (compareOp .Lt) (fun x y H Q => rI0 (fun i j => .bl (decide (i < j))) x y H Q ∨ ∃ i j, x = .str i ∧ y = .str j ∧ Q (.bl (decide (i.cps.toList < j.cps.toList))) H) := op_lt.or op_lt_str
theorem op_leU : OpR X (compareOp .LtE) (fun x y H Q => rI0 (fun i j => .bl (decide (i ≤ j))) x y H Q ∨ ∃ i j, x = .str i ∧ y = .str j ∧ Q (.bl (!decide (j.cps.toList < i.cps.toList))) H) := op_le.or op_le_str
theorem op_gtU : OpR X (compareOp .Gt) (fun x y H Q => rI0 (fun i j => .bl (decide (j < i))) x y H Q ∨ ∃ i j, x = .str i ∧ y = .str j ∧ Q (.bl (decide (j.cps.toList < i.cps.toList))) H) := op_gt.or op_gt_str
theorem op_geU : OpR X (compareOp .GtE) (fun x y H Q => rI0 (fun i j => .bl (decide (j ≤ i))) x y H Q ∨ ∃ i j, x = .str i ∧ y = .str j ∧ Q (.bl (!decide (i.cps.toList < j.cps.toList))) H) := op_ge.or op_ge_str
theorem os_lt : OpS K ct (fun x y H Q => rI0 (fun i j => .bl (decide (i < j))) x y H Q ∨ ∃ i j, x = .str i ∧ y = .str j ∧ Q (.bl (decide (i.cps.toList < j.cps.toList))) H) ltD := os_cmp
theorem os_le : OpS K ct (fun x y H Q => rI0 (fun i j => .bl (decide (i ≤ j))) x y H Q ∨ ∃ i j, x = .str i ∧ y = .str j ∧ Q (.bl (!decide (j.cps.toList < i.cps.toList))) H) leD := os_cmp (gs := fun a b => !decide (b < a))
theorem os_gt : OpS K ct (fun x y H Q => rI0 (fun i j => .bl (decide (j < i))) x y H Q ∨ ∃ i j, x = .str i ∧ y = .str j ∧ Q (.bl (decide (j.cps.toList < i.cps.toList))) H) gtD := os_cmp (gi := fun i j => decide (j < i)) (gs := fun a b => decide (b < a))
theorem os_ge : OpS K ct (fun x y H Q => rI0 (fun i j => .bl (decide (j ≤ i))) x y H Q ∨ ∃ i j, x = .str i ∧ y = .str j ∧ Q (.bl (!decide (i.cps.toList < j.cps.toList))) H) geD := os_cmp (gi := fun i j => decide (j ≤ i)) (gs := fun a b => !decide (a < b))
/-- t <= u of tuples of ints -/
def intsD : List D → Option (List Int)
  | [] => some []
  | .int i :: l => (intsD l).map fun r => i :: r
  | _ => none
theorem intsD_map : ∀ {l : List D} {r : List Int}, intsD l = some r → l = r.map .int
  | [], r, h => by cases h; rfl
  | .int i :: l, r, h => by
    have h' : ((intsD l).map fun r => i :: r) = some r := h
    cases e : intsD l with
    | none => rw [e] at h'; cases h'
    | some q => rw [e] at h'; cases h'; rw [intsD_map e]; rfl
  | .non :: _, _, h => by cases h
  | .bl _ :: _, _, h => by cases h
  | .str _ :: _, _, h => by cases h
  | .tup _ :: _, _, h => by cases h
  | .pair _ :: _, _, h => by cases h
  | .lst _ :: _, _, h => by cases h
  | .scr _ :: _, _, h => by cases h
  | .ins _ _ _ :: _, _, h => by cases h
  | .dct _ _ :: _, _, h => by cases h
  | .dcl _ _ :: _, _, h => by cases h
  | .ptr _ :: _, _, h => by cases h
  | .cls _ :: _, _, h => by cases h
  | .rng _ _ :: _, _, h => by cases h
  | .exc _ _ _ :: _, _, h => by cases h
theorem rp_intsV {F : Hp} : ∀ {r : List Int} {vs : List V}, RpAll Γ F vs (r.map D.int) → vs = r.map V.int
  | [], _, h => by cases h; rfl
  | i :: r, _, h => by
    cases h with
    | cons h1 h2 => cases h1; rw [rp_intsV h2]; rfl
def lexLe (ns ms : List Int) : Bool := Ob.lexAt (fun j => decide (ns.getD j 0 = ms.getD j 0)) (fun j => decide (ns.getD j 0 ≤ ms.getD j 0)) (decide (ns.length ≤ ms.length)) 0 (min ns.length ms.length)
def leTD : D → D → Option Val
  | .tup a, .tup b => (intsD a).bind fun ns => (intsD b).map fun ms => .d (.bl (lexLe ns ms))
  | _, _ => none
theorem os_leT : OpS K ct (rLeT K) leTD := fun mu F H x y d e val Q sb rx ry h k => by
  cases d <;> cases e <;> first | (cases h; done) | skip
  rename_i a b
  have h' : ((intsD a).bind fun ns => (intsD b).map fun ms => Val.d (.bl (lexLe ns ms))) = some val := h
  cases e1 : intsD a with
  | none => simp [e1] at h'
  | some ns =>
    simp only [e1, Option.bind_some] at h'
    cases e2 : intsD b with
    | none => simp [e2] at h'
    | some ms =>
      simp only [e2, Option.map_some, Option.some.injEq] at h'
      subst h'
      obtain ⟨p, vs, rfl, h1, h2, h3⟩ := rx.tup
      obtain ⟨q, us, rfl, h4, h5, h6⟩ := ry.tup
      rw [intsD_map e1] at h2
      rw [intsD_map e2] at h5
      have q1 := rp_intsV h2
      have q2 := rp_intsV h5
      subst q1 q2
      exact ⟨p, q, ns, ms, rfl, rfl, (sb.tupR h1).sqt, (sb.tupR h4).sqt, k _ _ (.same (.bl _))⟩
end
end KD

set_option maxHeartbeats 4000000
namespace KD
open PySem L2
section
variable {K : PySem.W.Frag} {ct : Nat → Addr} {X : Cx} {Γ : Gam}
/-! ### equality of data -/
mutual
def toPy : D → PyData
  | .non => .none
  | .bl b => .bool b
  | .int i => .int i
  | .str s => .str s
  | .tup l => .tuple (toPyL l)
  | .lst l => .list (toPyL l)
  | .scr l => .list (l.map .int)
  | _ => .dict []
def toPyL : List D → List PyData
  | [] => []
  | d :: l => toPy d :: toPyL l
end
mutual
/-- none, truths, numbers, texts, lists and tuples of such -/
def plain : D → Bool
  | .non => true
  | .bl _ => true
  | .int _ => true
  | .str _ => true
  | .tup l => plainL l
  | .lst l => plainL l
  | .scr _ => true
  | _ => false
def plainL : List D → Bool
  | [] => true
  | d :: l => plain d && plainL l
end
def okD (d : D) : Bool := plain d && decide ((toPy d).depth ≤ 64)
theorem dpAll_ints {H : Hp} : ∀ l : List Int, DpAll K H (l.map V.int) (l.map PyData.int)
  | [] => .nil
  | i :: l => .cons (.int i) (dpAll_ints l)
mutual
theorem Rp.dp {F : Hp} : ∀ {v : V} {d : D}, Rp Γ F v d → plain d = true → Dp Γ.K F v (toPy d)
  | _, _, .non, _ => .non
  | _, _, .bl b, _ => .bl b
  | _, _, .int b, _ => .int b
  | _, _, .str b _, _ => .str b
  | _, _, .tup h r _, q => .tup h.sqt (RpAll.dp r q)
  | _, _, .lst h r _, q => .lst (.of h) (RpAll.dp r q)
  | _, _, .scr h _, q => .lst h (dpAll_ints _)
  | _, _, .pair _ _, q => by cases q
  | _, _, .ins _ _ _, q => by cases q
  | _, _, .dct _ _ _, q => by cases q
  | _, _, .dcl _ _ _, q => by cases q
  | _, _, .ptr _, q => by cases q
  | _, _, .cls _, q => by cases q
  | _, _, .rng _, q => by cases q
  | _, _, .exc _ _ _ _, q => by cases q
theorem RpAll.dp {F : Hp} : ∀ {vs : List V} {ds : List D}, RpAll Γ F vs ds → plainL ds = true → DpAll Γ.K F vs (toPyL ds)
  | _, _, .nil, _ => .nil
  | _, _, .cons h r, q => by
    have q' := Bool.and_eq_true_iff.mp (show (plain _ && plainL _) = true from q)
    exact .cons (Rp.dp h q'.1) (RpAll.dp r q'.2)
end
theorem canLay_ints : ∀ l : List Int, PyData.canLayAll0 (l.map PyData.int) = true
  | [] => rfl
  | i :: l => by show (true && PyData.canLayAll0 (l.map PyData.int)) = true; rw [canLay_ints l]; rfl
theorem strOk_of {s : Str} (h : sOk s = true) : PyData.canLay0 (.str s) = true := by
  have h1 := (Bool.and_eq_true_iff.mp h).1
  show s.cps.all (· < 0x110000) = true
  exact h1
mutual
theorem Rp.lay {F : Hp} : ∀ {v : V} {d : D}, Rp Γ F v d → plain d = true → PyData.canLay0 (toPy d) = true
  | _, _, .non, _ => rfl
  | _, _, .bl b, _ => rfl
  | _, _, .int b, _ => rfl
  | _, _, .str b h, _ => strOk_of h
  | _, _, .tup h r _, q => RpAll.lay r q
  | _, _, .lst h r _, q => RpAll.lay r q
  | _, _, .scr h _, q => canLay_ints _
  | _, _, .pair _ _, q => by cases q
  | _, _, .ins _ _ _, q => by cases q
  | _, _, .dct _ _ _, q => by cases q
  | _, _, .dcl _ _ _, q => by cases q
  | _, _, .ptr _, q => by cases q
  | _, _, .cls _, q => by cases q
  | _, _, .rng _, q => by cases q
  | _, _, .exc _ _ _ _, q => by cases q
theorem RpAll.lay {F : Hp} : ∀ {vs : List V} {ds : List D}, RpAll Γ F vs ds → plainL ds = true → PyData.canLayAll0 (toPyL ds) = true
  | _, _, .nil, _ => rfl
  | _, _, .cons h r, q => by
    have q' := Bool.and_eq_true_iff.mp (show (plain _ && plainL _) = true from q)
    show (PyData.canLay0 _ && PyData.canLayAll0 _) = true
    rw [Rp.lay h q'.1, RpAll.lay r q'.2]; rfl
end
theorem okD_shaped {F : Hp} {v : V} {d : D} (h : Rp Γ F v d) (q : okD d = true) : Dp Γ.K F v (toPy d) ∧ SeqAt.shaped (toPy d) = true := by
  have q' := Bool.and_eq_true_iff.mp q
  refine ⟨h.dp q'.1, ?_⟩
  show ((toPy d).canLay0 && decide ((toPy d).depth ≤ 64)) = true
  rw [h.lay q'.1, q'.2]; rfl
/-- python's == on plain data -/
def eqd (a b : D) : Bool := PyData.eqv (toPy a) (toPy b)
def isFlat : D → Bool
  | .non => true
  | .bl _ => true
  | .int _ => true
  | .str _ => true
  | _ => false
theorem okD_flat {d : D} (h : isFlat d = true) : okD d = true := by cases d <;> first | rfl | cases h
def eqD (a b : D) : Option Val := if (okD a && okD b) = true then some (.d (.bl (eqd a b))) else none
def neD (a b : D) : Option Val := if (okD a && okD b) = true then some (.d (.bl (!eqd a b))) else none
theorem os_eq : OpS K ct (rEqD K) eqD := fun mu F H x y d e val Q sb rx ry h k => by
  unfold eqD at h
  split at h
  · rename_i hk
    cases h
    have hk' := Bool.and_eq_true_iff.mp hk
    obtain ⟨q1, q2⟩ := okD_shaped (rx.up sb) hk'.1
    obtain ⟨q3, q4⟩ := okD_shaped (ry.up sb) hk'.2
    exact ⟨_, _, q1, q3, q2, q4, k _ _ (.same (.bl _))⟩
  · cases h
theorem os_ne : OpS K ct (rNeD K) neD := fun mu F H x y d e val Q sb rx ry h k => by
  unfold neD at h
  split at h
  · rename_i hk
    cases h
    have hk' := Bool.and_eq_true_iff.mp hk
    obtain ⟨q1, q2⟩ := okD_shaped (rx.up sb) hk'.1
    obtain ⟨q3, q4⟩ := okD_shaped (ry.up sb) hk'.2
    exact ⟨_, _, q1, q3, q2, q4, k _ _ (.same (.bl _))⟩
  · cases h
/-! ### is None -/
def isND : D → D → Option Val
  | .non, .non => some (.d (.bl true))
  | _, .non => some (.d (.bl false))
  | _, _ => none
def notND : D → D → Option Val
  | .non, .non => some (.d (.bl false))
  | _, .non => some (.d (.bl true))
  | _, _ => none
theorem RpO.isNon {F H : Hp} {v : V} {d : D} (h : RpO Γ F H v d) : decide (v = .non) = (match d with | .non => true | _ => false) := by
  rcases h with h | ⟨p, m, rfl, ho, rfl⟩
  · cases h <;> rfl
  · cases m <;> rfl
theorem os_is : OpS K ct (fun x y H Q => y = .non ∧ Q (.bl (decide (x = .non))) H) isND := fun mu F H x y d e val Q sb rx ry h k => by
  cases e <;> first | (cases d <;> (cases h; done)) | skip
  have hx := rx.isNon
  refine ⟨ry.non, ?_⟩
  rw [hx]
  cases d <;> (cases h; exact k _ _ (.same (.bl _)))
theorem os_not : OpS K ct (fun x y H Q => y = .non ∧ Q (.bl (!decide (x = .non))) H) notND := fun mu F H x y d e val Q sb rx ry h k => by
  cases e <;> first | (cases d <;> (cases h; done)) | skip
  have hx := rx.isNon
  refine ⟨ry.non, ?_⟩
  rw [hx]
  cases d <;> (cases h; exact k _ _ (.same (.bl _)))
/-! ### in -/
def flatAll : List D → Bool
  | [] => true
  | d :: l => isFlat d && flatAll l
def inL (d : D) : List D → Bool
  | [] => false
  | e :: l => eqd e d || inL d l
def inD : D → D → Option Bool
  | d, .lst l => if (isFlat d && flatAll l) = true then some (inL d l) else if (okD d && okD (.lst l)) = true then some (inL d l) else none
  | d, .tup l => if (isFlat d && flatAll l) = true then some (inL d l) else none
  | .str a, .str b => some (!(Builtin.Str.occurrences b a 0 b.length 1).isEmpty)
  | _, _ => none
theorem flat_v {F : Hp} {v : V} {d : D} (h : Rp Γ F v d) (q : isFlat d = true) : flatV v = true := by cases h <;> first | rfl | cases q
theorem flat_eq {F : Hp} {v w : V} {d e : D} (h : Rp Γ F v d) (h2 : Rp Γ F w e) (q : isFlat d = true) (q2 : isFlat e = true) : eqV v w = eqd d e := by
  cases h <;> first | (cases q; done) | skip
  all_goals (cases h2 <;> first | (cases q2; done) | rfl)
theorem flat_all {F : Hp} : ∀ {vs : List V} {ds : List D}, RpAll Γ F vs ds → flatAll ds = true → vs.all flatV = true
  | _, _, .nil, _ => rfl
  | _, _, .cons h r, q => by
    have q' := Bool.and_eq_true_iff.mp (show (isFlat _ && flatAll _) = true from q)
    rw [List.all_cons, flat_v h q'.1, flat_all r q'.2]; rfl
theorem inV_eq {F : Hp} {x : V} {d : D} (hx : Rp Γ F x d) (qx : isFlat d = true) : ∀ {vs : List V} {ds : List D}, RpAll Γ F vs ds → flatAll ds = true → inV x vs = inL d ds
  | _, _, .nil, _ => rfl
  | _, _, .cons h r, q => by
    have q' := Bool.and_eq_true_iff.mp (show (isFlat _ && flatAll _) = true from q)
    have ih := inV_eq hx qx r q'.2
    unfold inV at ih ⊢
    rw [List.any_cons, ih, flat_eq h hx q'.1 qx]
    rfl
theorem any_eq {d : D} : ∀ l : List D, ((toPyL l).any fun z => PyData.eqv z (toPy d)) = inL d l
  | [] => rfl
  | e :: l => by
    show (PyData.eqv (toPy e) (toPy d) || (toPyL l).any fun z => PyData.eqv z (toPy d)) = _
    rw [any_eq l]; rfl
def rInU (K : PySem.W.Frag) : R2 := fun x y H Q => rIn K false x y H Q ∨ rInD K x y H Q ∨ ∃ i j, x = .str i ∧ y = .str j ∧ Q (.bl (!(Builtin.Str.occurrences j i 0 j.length 1).isEmpty)) H
def rNotInU (K : PySem.W.Frag) : R2 := fun x y H Q => rIn K true x y H Q ∨ rNotInD K x y H Q ∨ ∃ i j, x = .str i ∧ y = .str j ∧ Q (.bl (!(!(Builtin.Str.occurrences j i 0 j.length 1).isEmpty))) H
theorem op_inU (hu : X.A.units + 65 < cLine) : OpR X (compareOp .In) (rInU X.K) := op_in_seq.or ((op_inD hu).or op_in_str)
theorem op_notInU (hu : X.A.units + 65 < cLine) : OpR X (compareOp .NotIn) (rNotInU X.K) := op_notIn_seq.or ((op_notInD hu).or op_notIn_str)
def inV1 (d e : D) : Option Val := (inD d e).map fun b => .d (.bl b)
def ninV1 (d e : D) : Option Val := (inD d e).map fun b => .d (.bl (!b))
theorem in_core {F H : Hp} {x y : V} {d e : D} {b : Bool} {Q : VK} {neg : Bool} (sb : Sub F H) (rx : RpO Γ F H x d) (ry : RpO Γ F H y e) (h : inD d e = some b) (k : Q (.bl (if neg then !b else b)) H) :
    rIn Γ.K neg x y H Q ∨ (∃ d' ds, Dp Γ.K H x d' ∧ Dp Γ.K H y (.list ds) ∧ SeqAt.shaped d' = true ∧ SeqAt.shaped (.list ds) = true ∧ Q (.bl (if neg then !(ds.any fun z => PyData.eqv z d') else (ds.any fun z => PyData.eqv z d'))) H) ∨
      ∃ i j, x = .str i ∧ y = .str j ∧ Q (.bl (if neg then !(!(Builtin.Str.occurrences j i 0 j.length 1).isEmpty) else (!(Builtin.Str.occurrences j i 0 j.length 1).isEmpty))) H := by
  cases e with
  | lst l =>
    have h' : (if (isFlat d && flatAll l) = true then some (inL d l) else if (okD d && okD (.lst l)) = true then some (inL d l) else none) = some b := by cases d <;> exact h
    obtain ⟨p, vs, rfl, h1, h2, h3⟩ := ry.lst sb
    by_cases hf : (isFlat d && flatAll l) = true
    · rw [if_pos hf] at h'
      cases h'
      have hf' := Bool.and_eq_true_iff.mp hf
      have rx' := rx.up sb
      have h2' := h2.mono sb
      exact .inl ⟨p, vs, rfl, .inl (.of h1), flat_v rx' hf'.1, flat_all h2' hf'.2, by rw [inV_eq rx' hf'.1 h2' hf'.2]; exact k⟩
    · rw [if_neg hf] at h'
      by_cases hk : (okD d && okD (.lst l)) = true
      · rw [if_pos hk] at h'
        cases h'
        have hk' := Bool.and_eq_true_iff.mp hk
        obtain ⟨q1, q2⟩ := okD_shaped (rx.up sb) hk'.1
        obtain ⟨q3, q4⟩ := okD_shaped (ry.up sb) hk'.2
        exact .inr (.inl ⟨_, toPyL l, q1, q3, q2, q4, by rw [any_eq]; exact k⟩)
      · rw [if_neg hk] at h'; cases h'
  | tup l =>
    have h' : (if (isFlat d && flatAll l) = true then some (inL d l) else none) = some b := by cases d <;> exact h
    obtain ⟨p, vs, rfl, h1, h2, h3⟩ := ry.tup
    by_cases hf : (isFlat d && flatAll l) = true
    · rw [if_pos hf] at h'
      cases h'
      have hf' := Bool.and_eq_true_iff.mp hf
      have rx' := rx.up sb
      have h2' := h2.mono sb
      exact .inl ⟨p, vs, rfl, .inr (sb.sqt h1.sqt), flat_v rx' hf'.1, flat_all h2' hf'.2, by rw [inV_eq rx' hf'.1 h2' hf'.2]; exact k⟩
    · rw [if_neg hf] at h'; cases h'
  | str t =>
    cases d <;> first | (cases h; done) | skip
    cases h
    exact .inr (.inr ⟨_, _, rx.str.1, ry.str.1, k⟩)
  | _ => cases d <;> cases h
theorem os_in : OpS K ct (rInU K) inV1 := fun mu F H x y d e val Q sb rx ry h k => by
  unfold inV1 at h
  cases e1 : inD d e with
  | none => rw [e1] at h; cases h
  | some b =>
    rw [e1] at h
    cases h
    exact in_core (neg := false) sb rx ry e1 (k _ _ (.same (.bl _)))
theorem os_notIn : OpS K ct (rNotInU K) ninV1 := fun mu F H x y d e val Q sb rx ry h k => by
  unfold ninV1 at h
  cases e1 : inD d e with
  | none => rw [e1] at h; cases h
  | some b =>
    rw [e1] at h
    cases h
    exact in_core (neg := true) sb rx ry e1 (k _ _ (.same (.bl _)))
/-! ### items and slices -/
def ixD : D → D → Option Val
  | .lst l, .int i => (atI l i).map .d
  | .tup l, .int i => (atI l i).map .d
  | .scr l, .int i => (atI l i).map fun n => .d (.int n)
  | .str s, .int i => (atI s.cps.toList i).map fun c => .d (chD c)
  | _, _ => none
theorem RpAll.atI {F : Hp} {vs : List V} {l : List D} {i : Int} {d : D} (r : RpAll Γ F vs l) (h : L2.atI l i = some d) : ∃ v, L2.atI vs i = some v ∧ Rp Γ F v d := by
  unfold L2.atI at h ⊢
  rw [r.length]
  cases e : ixN l.length i with
  | none => rw [e] at h; cases h
  | some j =>
    rw [e] at h
    obtain ⟨v, q1, q2⟩ := r.get (show l[j]? = some d from h)
    exact ⟨v, q1, q2⟩
theorem os_ix : OpS K ct (rIx K) ixD := fun mu F H x y d e val Q sb rx ry h k => by
  cases e <;> first | (cases d <;> (cases h; done)) | skip
  rename_i i
  rw [ry.int]
  cases d <;> first | (cases h; done) | skip
  · rename_i s
    have h' : ((L2.atI s.cps.toList i).map fun c => Val.d (chD c)) = some val := h
    cases e1 : L2.atI s.cps.toList i with
    | none => rw [e1] at h'; cases h'
    | some c =>
      rw [e1] at h'
      cases h'
      obtain ⟨rfl, hs⟩ := rx.str
      have hc : c ∈ s.cps.toList := by
        obtain ⟨j, _, hj, _⟩ := atI_get e1
        exact List.mem_of_getElem? hj
      exact .inr (.inr ⟨s, i, c, rfl, rfl, sz16 (sOk_len hs), e1, k _ _ (.same (.str _ (sOk_ch ((sOk_all hs).1 c hc))))⟩)
  · rename_i l
    have h' : ((L2.atI l i).map Val.d) = some val := h
    cases e1 : L2.atI l i with
    | none => rw [e1] at h'; cases h'
    | some z =>
      rw [e1] at h'
      cases h'
      obtain ⟨p, vs, rfl, h1, h2, h3⟩ := rx.tup
      obtain ⟨v, q1, q2⟩ := h2.atI e1
      exact .inr (.inl ⟨p, vs, i, v, rfl, rfl, (sb.tupR h1).sqt, q1, k _ _ (.same q2)⟩)
  · rename_i l
    have h' : ((L2.atI l i).map Val.d) = some val := h
    cases e1 : L2.atI l i with
    | none => rw [e1] at h'; cases h'
    | some z =>
      rw [e1] at h'
      cases h'
      obtain ⟨p, vs, rfl, h1, h2, h3⟩ := rx.lst sb
      obtain ⟨v, q1, q2⟩ := h2.atI e1
      exact .inl ⟨p, vs, i, v, rfl, rfl, .of h1, q1, k _ _ (.same q2)⟩
  · rename_i l
    have h' : ((L2.atI l i).map fun n => Val.d (.int n)) = some val := h
    cases e1 : L2.atI l i with
    | none => rw [e1] at h'; cases h'
    | some z =>
      rw [e1] at h'
      cases h'
      obtain ⟨p, rfl, h1, h3⟩ := rx.scr
      have q1 : L2.atI (l.map V.int) i = some (.int z) := by
        unfold L2.atI at e1 ⊢
        rw [List.length_map]
        cases e2 : ixN l.length i with
        | none => rw [e2] at e1; cases e1
        | some j =>
          rw [e2] at e1
          have e3 : l[j]? = some z := e1
          show (l.map V.int)[j]? = _
          rw [List.getElem?_map, e3]; rfl
      exact .inl ⟨p, _, i, .int z, rfl, rfl, sb.sql h1, q1, k _ _ (.same (.int _))⟩
def cutD (l : List D) (lo hi : Option Int) : List D := (l.drop (HT.sIx l.length 0 lo)).take (HT.sIx l.length l.length hi - HT.sIx l.length 0 lo)
def sliceD (d : D) (lo hi : Option Int) : Option Val := match d with
  | .lst l => some (.new (.lst (cutD l lo hi)))
  | .tup l => some (.d (.tup (cutD l lo hi)))
  | .str s => some (.d (.str (cutS s lo hi)))
  | .scr l => some (.new (.lst (cutD (l.map .int) lo hi)))
  | _ => none
theorem cutD_len {l : List D} {lo hi : Option Int} : (cutD l lo hi).length ≤ l.length := by
  unfold cutD
  rw [List.length_take, List.length_drop]
  omega
theorem rp_cut {F : Hp} {vs : List V} {l : List D} (r : RpAll Γ F vs l) (lo hi : Option Int) : RpAll Γ F (cutV vs lo hi) (cutD l lo hi) := by
  unfold cutV cutD
  rw [r.length]
  exact (r.drop _).take _
theorem sOk_cut {s : Str} (h : sOk s = true) (lo hi : Option Int) : sOk (cutS s lo hi) = true := by
  obtain ⟨h1, h2⟩ := sOk_all h
  unfold sOk cutS
  rw [Bool.and_eq_true]
  refine ⟨?_, decide_eq_true ?_⟩
  · rw [List.all_toArray, List.all_eq_true]
    intro c hc
    exact decide_eq_true (h1 c (List.mem_of_mem_drop (List.mem_of_mem_take hc)))
  · simp only [List.size_toArray, List.length_take, List.length_drop]
    omega
def rSlU (K : PySem.W.Frag) : V → Option Int → Option Int → Hp → VK → Prop := fun x lo hi H Q => rSlL K x lo hi H Q ∨ rSlF K x lo hi H Q ∨ rSlS x lo hi H Q
theorem sl_U : SlR X (rSlU X.K) := sl_list.or (sl_tupF.or sl_str)
theorem slice_core {F H : Hp} {x : V} {d : D} {lo hi : Option Int} {val : Val} {Q : VK} (sb : Sub F H) (rx : RpO Γ F H x d) (h : sliceD d lo hi = some val) (k : ∀ v H', Fresh Γ F H v H' val → Q v H') : rSlU Γ.K x lo hi H Q := by
  cases d <;> first | (cases h; done) | skip
  · cases h
    obtain ⟨rfl, hs⟩ := rx.str
    exact .inr (.inr ⟨_, rfl, sz16 (sOk_len hs), k _ _ (.same (.str _ (sOk_cut hs lo hi)))⟩)
  · rename_i l
    cases h
    obtain ⟨p, vs, rfl, h1, h2, h3⟩ := rx.tup
    have e := h2.length
    refine .inr (.inl ⟨p, vs, rfl, (sb.tupR h1).sqt, fun z => k _ _ (.same ?_), fun _ q o hq ho => k _ _ (.tup hq ho (rp_cut h2 lo hi) (Nat.le_trans cutD_len h3))⟩)
    have : cutD l lo hi = l := by
      unfold cutD
      rw [← e, z.1, z.2, List.drop_zero, Nat.sub_zero]
      exact List.take_of_length_le (Nat.le_of_eq e.symm)
    rw [this]
    exact .tup h1 h2 h3
  · cases h
    obtain ⟨p, vs, rfl, h1, h2, h3⟩ := rx.lst sb
    exact .inl ⟨p, vs, rfl, .of h1, fun q hq => k _ _ (.lst hq (rp_cut h2 lo hi) (Nat.le_trans cutD_len h3))⟩
  · rename_i l
    cases h
    obtain ⟨p, rfl, h1, h3⟩ := rx.scr
    exact .inl ⟨p, _, rfl, sb.sql h1, fun q hq => k _ _ (.lst hq (rp_cut (rp_ints l) lo hi) (Nat.le_trans cutD_len (by rw [List.length_map]; exact h3)))⟩
abbrev OM := SE → Option (Option Int × SE)
def tO (K : PySem.W.Frag) (ct : Nat → Addr) (f : OM) : TO := fun σ H Q => ∃ mu ow ε o ε', Sim ⟨K, ct, mu⟩ ow ε σ H ∧ f ε = some (o, ε') ∧ ∀ H' ow', Sim ⟨K, ct, mu⟩ ow' ε' σ H' → Fr ow H ow' H' → Q o H'
def oNone : OM := fun ε => some (none, ε)
def oSome (f : EM) : OM := fun ε => (fzE f ε).bind fun r => (r.1.res r.2).bind fun d => match d with | .int i => some (some i, r.2) | _ => none
theorem _root_.L2.PO.imp {e : Option Expr} {t t' : TO} (h : PO X e t) (i : ∀ σ H Q, t' σ H Q → t σ H Q) : PO X e t' := ⟨fun pins s σ H Q I q => h.run pins s σ H Q I (i σ H Q q)⟩
theorem do_none : PO X none (tO X.K ct oNone) := po_none.imp fun σ H Q ⟨mu, ow, ε, o, ε', S, hf, k⟩ => by
  cases hf
  exact k H ow S Fr.refl
theorem do_some {e : Expr} {f : EM} (h : PE X e (tE X.K ct f)) : PO X (some e) (tO X.K ct (oSome f)) := (po_some (de_fz h)).imp fun σ H Q ⟨mu, ow, ε, o, ε', S, hf, k⟩ => by
  unfold oSome at hf
  cases e1 : fzE f ε with
  | none => simp [e1] at hf
  | some r =>
    simp only [e1, Option.bind_some] at hf
    cases e2 : r.1.res r.2 with
    | none => simp [e2] at hf
    | some d =>
      simp only [e2, Option.bind_some] at hf
      split at hf
      · cases hf
        exact ⟨mu, ow, ε, r.1, r.2, S, e1, fun v H1 ow1 S1 fr1 r1 => ⟨_, (VR.res S1 r1 e2).int, k H1 ow1 S1 fr1⟩⟩
      · cases hf
def eSlice (fe : EM) (fl fh : OM) : EM := fun ε => (fzE fe ε).bind fun r => (fl r.2).bind fun l => (fh l.2).bind fun h => (r.1.res h.2).bind fun d => (sliceD d l.1 h.1).map fun v => (v, h.2)
theorem de_slice {e : Expr} {lo hi : Option Expr} {p2 pos : Pos} {fe : EM} {fl fh : OM} (h : PE X e (tE X.K ct fe)) (hl : PO X lo (tO X.K ct fl)) (hh : PO X hi (tO X.K ct fh)) : PE X (.Subscript e (.Slice lo hi none p2) pos) (tE X.K ct (eSlice fe fl fh)) :=
  (pe_slice sl_U (de_fz h) hl hh).imp fun σ H Q ⟨mu, ow, ε, val, ε', S, hf, k⟩ => by
    unfold eSlice at hf
    cases e1 : fzE fe ε with
    | none => simp [e1] at hf
    | some r =>
      simp only [e1, Option.bind_some] at hf
      cases e2 : fl r.2 with
      | none => simp [e2] at hf
      | some l =>
        simp only [e2, Option.bind_some] at hf
        cases e3 : fh l.2 with
        | none => simp [e3] at hf
        | some h =>
          simp only [e3, Option.bind_some] at hf
          cases e4 : r.1.res h.2 with
          | none => simp [e4] at hf
          | some d =>
            simp only [e4, Option.bind_some] at hf
            cases e5 : sliceD d l.1 h.1 with
            | none => simp [e5] at hf
            | some v =>
              simp only [e5, Option.map_some, Option.some.injEq, Prod.mk.injEq] at hf
              obtain ⟨rfl, rfl⟩ := hf
              refine ⟨mu, ow, ε, r.1, r.2, S, e1, fun x H1 ow1 S1 fr1 r1 => ⟨mu, ow1, r.2, l.1, l.2, S1, e2, fun H2 ow2 S2 fr2 => ⟨mu, ow2, l.2, h.1, h.2, S2, e3, fun H3 ow3 S3 fr3 => ?_⟩⟩⟩
              obtain ⟨va, ha, hv⟩ := fzE_some e1
              have r1' : VR ⟨X.K, ct, mu⟩ ow3 H3 σ H3 x r.1 := by
                rw [hv] at r1 ⊢
                exact r1.carry (fr2.trans fr3)
              refine slice_core (Γ := ⟨X.K, ct, mu⟩) cut_sub (VR.res S3 r1' e4) e5 fun w H' hw => ?_
              obtain ⟨ow4, S4, fr4, v4⟩ := Fresh.sim S3 hw
              exact k w H' ow4 S4 (((fr1.trans fr2).trans fr3).trans fr4) (v4.back fun p hp => ((fr1.trans fr2).trans fr3).none hp)
end
end KD

set_option maxHeartbeats 4000000
namespace KD
open PySem PySem.Spec PyProof.Rows L2
/-! ### defs that may show data: no display is under way where they run -/
structure FnG (P : Program) (w : World) (K : PySem.W.Frag) (mg : Str → Option Value) (base : Heap) (k : Nat) (f : Addr) (fd : FuncData) (ps : List Str) (sp : Sp) : Prop where
  len : ∀ vs H Q E, sp vs H Q E → vs.length = ps.length
  run : ∀ (A : Around) (outer : List Env) (s : Shared) (H : Hp) (args : Args) (us : List Value) (vs : List V) (Q : VK) (E : XK), A.guards = some [] → Room k A → Env0 P w K mg base A outer s H → BindsTo s fd args (ps.zip us) → Vals vs us → sp vs H Q E →
    codeAny (model P w) A (.call (.ref f) args) (CR CX0 outer P w H s Q E) s
theorem FnG.of {P : Program} {w : World} {K : PySem.W.Frag} {mg : Str → Option Value} {base : Heap} {k : Nat} {f : Addr} {fd : FuncData} {ps : List Str} {sp : Sp} (F : FnOk P w K mg base CX0 k f fd ps sp) : FnG P w K mg base k f fd ps sp :=
  ⟨F.len, fun A outer s H args us vs Q E _ hr => F.run A outer s H args us vs Q E hr⟩
section
variable {X : Cx} {k : Nat} {f : Addr} {fd : FuncData} {ps : List Str} {sp : Sp} {dvs : List V} {ds : List Value} {E : XK} {x : Str} {p pos : Pos} {e : Expr} {es : List Expr} {t : TA}
theorem run_fnG {pins : List (Addr × Obj)} {σ : L2.St} {H : Hp} {s : Shared} {Q : VK} {us : List Value} {vs : List V} (F : FnG X.prog X.w X.K X.mg X.base k f fd ps sp) (hgd : X.A.guards = some []) (hr : Room k X.A) (hb : Binds X.K fd ps ds) (hd : Vals dvs ds)
    (I : L2.Inv X pins σ H s) (r : Vals vs us) (h : sp (vs ++ dvs) H Q E) : wpAny (model X.prog X.w) X.A (call (.ref f) us) (EP X pins σ Q) X.xe s := by
  have r2 : Vals (vs ++ dvs) (us ++ ds) := r.append hd
  have hl : (us ++ ds).length = ps.length := r2.length.symm.trans (F.len _ _ _ _ h)
  refine wpAny_call (codeAny_mono (F.run X.A X.stack s H ⟨us, []⟩ (us ++ ds) (vs ++ dvs) Q E hgd hr I.env0 (hb s us I.kIn hl) r2 h) fun res s' hq => ?_)
  match res, hq with
  | .ok (.ret u), hq => exact I.after hq
theorem pe_callG (F : FnG X.prog X.w X.K X.mg X.base k f fd ps sp) (hgd : X.A.guards = some []) (hr : Room k X.A) (hg : Gl X x) (hm : X.mg x = some (.ref f)) (hk : PySem.W.keepIn X.K (.ref f) = true) (hb : Binds X.K fd ps ds) (hd : Vals dvs ds)
    (ha : PA X (e :: es) t) (hdb : (x == ("__debug__" : Str)) = false := by decide) (he : starEach (e :: es) X.env = (false, eval e X.env) :: starEach es X.env := by rfl) (hpl : (backTo pos (starEach es X.env)).any (·.1) = false := by rfl) :
    PE X (.Call (.Name x p) (e :: es) [] pos) (tCall sp dvs E t) :=
  ⟨fun pins s σ H Q I h => wpAny_Call_Name_kw (ld_glob I hg hm (PySem.W.callWith_K (h₀ := X.base) I.ok.mod.kin hk (thn (ha.run pos pins s σ H _ I h) fun _ _ ⟨_, _, I1, r, q⟩ => ⟨I1.kIn, run_fnG F hgd hr hb hd I1 r q⟩) he hpl) hdb)⟩
end
theorem fn_ofG {P : Program} {w : World} {K : PySem.W.Frag} {mg : Str → Option Value} {base : Heap} {k : Nat} {f : Addr} {name qual : Str} {params : Arguments} {body : List Stmt} {scope : Scope} {dV kV doc pm cdv ct oc : Value} {an od : Option Addr}
    {osl : Array (Option Value)} {N ps : List Str} {sp : Sp} (lk : K.lookup f = some ⟨oc, od, .func (PySem.W.fnOf name qual params body scope dV kV doc pm an cdv ct), osl⟩) (hcd : PySem.W.codeIn K cdv qual = true) (S : FnScope N ps scope)
    (len : ∀ vs H Q E, sp vs H Q E → vs.length = ps.length)
    (hbody : ∀ (A : Around) (outer : List Env) (s : Shared) (H : Hp) (vs : List V) (Q : VK) (E : XK), A.guards = some [] → Room k (A.deeper (envOfC qual scope s.heap.objs.size f cdv)) → sp vs H Q E →
      ∃ t, PSs (cxOf CX0 P w K mg base N qual scope f cdv A outer s H E) body t ∧ t { nx := fun _ H' => Q .non H', rt := Q } (L2.start N vs) H) :
    FnG P w K mg base (k + 1) f (PySem.W.fnOf name qual params body scope dV kV doc pm an cdv ct) ps sp := by
  refine ⟨len, fun A outer s H args us vs Q E hgd hr e0 hb r hsp => ?_⟩
  have keepB : ∀ b o, base.get? b = some o → s.heap.get? b = some o := fun b o e => (e0.bs b o e).1
  have KX : K.In s.heap := e0.mod.kin.keeps keepB
  refine codeAny_call_function hr.depth (KX _ _ lk) rfl S.co S.gen rfl (PySem.W.codeRec_of KX hcd) (hb _ _ _ _ ?_)
  refine wpAny_newFunctionEnv_cells S.kind (fun y hy => ?_) fun env he s1 x => ?_
  · have hp := S.par y.1 (List.of_mem_zip hy).1
    exact hp.imp id fun q => ⟨q, PySem.W.cellsFrom_some _ _ _ (.inl q)⟩
  subst he
  refine ⟨(e0.mod.nolimit.keeps keepB).keeps x.toInCall.keep, codeAny_func ?_⟩
  obtain ⟨t, ht, hq⟩ := hbody A outer s H vs Q E hgd (hr.deeper _) hsp
  have I := inv_start (CX := CX0) (E := E) S hr.hd e0 (len _ _ _ _ hsp) r x
  refine wpAny_mono (ht.run [] s1 (L2.start N vs) H _ I hq) (fun fl s' hs => ?_) fun _ _ hs => hs
  match fl, hs with
  | .ret u, ⟨v, σ', H', J, rv, q⟩ => exact ⟨v, H', J.os, J.bare, J.base, J.hok, rv, q⟩
  | .next, ⟨σ', H', J, q⟩ => exact ⟨V.non, H', J.os, J.bare, J.base, J.hok, rfl, q⟩
  | .brk, ⟨_, _, _, q⟩ => exact q.elim
  | .cont, ⟨_, _, _, q⟩ => exact q.elim
theorem Fun.okG {P : Program} {w : World} {K : PySem.W.Frag} {mg : Str → Option Value} {base : Heap} {x qual : Str} {st : Stmt} {f : Addr} {fd : FuncData} {N ps : List Str} {k : Nat} {sp : Sp} (F : Fun K x qual st f fd) (S : FnScope N ps (defScope st)) (len : ∀ vs H Q E, sp vs H Q E → vs.length = ps.length)
    (hbody : ∀ (cdv : Value) (A : Around) (outer : List Env) (s : Shared) (H : Hp) (vs : List V) (Q : VK) (E : XK), A.guards = some [] → Room k (A.deeper (envOfC qual (defScope st) s.heap.objs.size f cdv)) → sp vs H Q E →
      ∃ t, PSs (cxOf CX0 P w K mg base N qual (defScope st) f cdv A outer s H E).nox (defBody st) t ∧ t { nx := fun _ H' => Q .non H', rt := Q } (L2.start N vs) H) : FnG P w K mg base (k + 1) f fd ps sp := by
  obtain ⟨oc, od, kV, doc, pm, an, cdv, ct, osl, rfl, lk, hcd⟩ := F.ex
  exact fn_ofG lk hcd S len fun A outer s H vs Q E hgd hr hsp => let ⟨t, h, q⟩ := hbody cdv A outer s H vs Q E hgd hr hsp; ⟨t, h.nox, q⟩
end KD

set_option maxHeartbeats 4000000
namespace KD
open PySem PySem.Spec PyProof.Rows L2
section
variable {X : Cx} {ct : Nat → Addr} {Γ : Gam} {K : PySem.W.Frag}
/-! ### built-in functions over data -/
def lenD : List D → Option Val
  | [.lst l] => some (.d (.int (l.length : Nat)))
  | [.tup l] => some (.d (.int (l.length : Nat)))
  | [.scr l] => some (.d (.int (l.length : Nat)))
  | [.str s] => some (.d (.int (s.length : Nat)))
  | _ => none
theorem pair1 {α β : Type} {R : α → β → Prop} {xs : List α} {d : β} (h : Paired R xs [d]) : ∃ x, xs = [x] ∧ R x d := by
  cases h with
  | cons h t => cases t; exact ⟨_, rfl, h⟩
theorem pair2 {α β : Type} {R : α → β → Prop} {xs : List α} {d e : β} (h : Paired R xs [d, e]) : ∃ x y, xs = [x, y] ∧ R x d ∧ R y e := by
  cases h with
  | cons h t => cases t with
    | cons h2 t => cases t; exact ⟨_, _, rfl, h, h2⟩
theorem sOk_len' {s : Str} (h : sOk s = true) : s.length ≤ sizeLine := sz16 (sOk_len h)
theorem cs_len : CallS K ct (fun xs H Q => ∃ x n, xs = [x] ∧ LenV K x H n ∧ Q (.int n) H) lenD := fun mu F H xs ds val Q sb r h k => by
  unfold lenD at h
  split at h
  · rename_i l
    cases h
    obtain ⟨x, rfl, rx⟩ := pair1 r
    obtain ⟨a, vs, rfl, h1, h2, h3⟩ := rx.lst sb
    exact ⟨_, l.length, rfl, .inl ⟨vs, .of h1, h2.length.symm⟩, k _ _ (.same (.int _))⟩
  · rename_i l
    cases h
    obtain ⟨x, rfl, rx⟩ := pair1 r
    obtain ⟨a, vs, rfl, h1, h2, h3⟩ := rx.tup
    exact ⟨_, l.length, rfl, .inr ⟨vs, (sb.tupR h1).sqt, h2.length.symm⟩, k _ _ (.same (.int _))⟩
  · rename_i l
    cases h
    obtain ⟨x, rfl, rx⟩ := pair1 r
    obtain ⟨a, rfl, h1, h3⟩ := rx.scr
    exact ⟨_, l.length, rfl, .inl ⟨_, sb.sql h1, by rw [List.length_map]⟩, k _ _ (.same (.int _))⟩
  · rename_i s
    cases h
    obtain ⟨x, rfl, rx⟩ := pair1 r
    obtain ⟨rfl, hs⟩ := rx.str
    exact ⟨_, s.length, rfl, ⟨sOk_len' hs, rfl⟩, k _ _ (.same (.int _))⟩
  · cases h
def intD : List D → Option Val
  | [.int i] => some (.d (.int i))
  | [.bl b] => some (.d (.int (if b then 1 else 0)))
  | _ => none
theorem cs_int : CallS K ct (fun xs H Q => (∃ i, xs = [.int i] ∧ Q (.int i) H) ∨ ∃ k, xs = [.bl k] ∧ Q (.int (if k then 1 else 0)) H) intD := fun mu F H xs ds val Q sb r h k => by
  unfold intD at h
  split at h
  · cases h
    obtain ⟨x, rfl, rx⟩ := pair1 r
    rw [rx.int]
    exact .inl ⟨_, rfl, k _ _ (.same (.int _))⟩
  · cases h
    obtain ⟨x, rfl, rx⟩ := pair1 r
    rw [rx.bl]
    exact .inr ⟨_, rfl, k _ _ (.same (.int _))⟩
  · cases h
def boolD : List D → Option Val
  | [.int i] => some (.d (.bl (i != 0)))
  | [.bl b] => some (.d (.bl b))
  | _ => none
theorem cs_bool : CallS K ct (fun xs H Q => (∃ i, xs = [.int i] ∧ Q (.bl (i != 0)) H) ∨ ∃ k, xs = [.bl k] ∧ Q (.bl k) H) boolD := fun mu F H xs ds val Q sb r h k => by
  unfold boolD at h
  split at h
  · cases h
    obtain ⟨x, rfl, rx⟩ := pair1 r
    rw [rx.int]
    exact .inl ⟨_, rfl, k _ _ (.same (.bl _))⟩
  · cases h
    obtain ⟨x, rfl, rx⟩ := pair1 r
    rw [rx.bl]
    exact .inr ⟨_, rfl, k _ _ (.same (.bl _))⟩
  · cases h
def absD : List D → Option Val
  | [.int i] => some (.d (.int (if i < 0 then -i else i)))
  | _ => none
theorem cs_abs : CallS K ct (fun xs H Q => ∃ i, xs = [.int i] ∧ Q (.int (if i < 0 then -i else i)) H) absD := fun mu F H xs ds val Q sb r h k => by
  unfold absD at h
  split at h
  · cases h
    obtain ⟨x, rfl, rx⟩ := pair1 r
    rw [rx.int]
    exact ⟨_, rfl, k _ _ (.same (.int _))⟩
  · cases h
def max2D : List D → Option Val
  | [.int i, .int j] => some (.d (.int (if j > i then j else i)))
  | _ => none
theorem cs_max2 : CallS K ct (fun xs H Q => ∃ i j, xs = [.int i, .int j] ∧ Q (.int (if j > i then j else i)) H) max2D := fun mu F H xs ds val Q sb r h k => by
  unfold max2D at h
  split at h
  · cases h
    obtain ⟨x, y, rfl, rx, ry⟩ := pair2 r
    rw [rx.int, ry.int]
    exact ⟨_, _, rfl, k _ _ (.same (.int _))⟩
  · cases h
def min2D : List D → Option Val
  | [.int i, .int j] => some (.d (.int (if j < i then j else i)))
  | _ => none
theorem cs_min2 : CallS K ct (fun xs H Q => ∃ i j, xs = [.int i, .int j] ∧ Q (.int (if j < i then j else i)) H) min2D := fun mu F H xs ds val Q sb r h k => by
  unfold min2D at h
  split at h
  · cases h
    obtain ⟨x, y, rfl, rx, ry⟩ := pair2 r
    rw [rx.int, ry.int]
    exact ⟨_, _, rfl, k _ _ (.same (.int _))⟩
  · cases h

/-! ### tuple(x), list(x) -/
/-- what walks over a sequence of data meet: the items as values -/
def seqV (K : PySem.W.Frag) (v : V) (H : Hp) (vs : List V) : Prop := (∃ p, v = .ref p ∧ (SqL K H p vs ∨ SqT K H p vs)) ∨ ∃ s : Str, v = .str s ∧ s.cps.size ≤ sizeLine ∧ vs = s.cps.toList.map fun c => V.str ⟨#[c]⟩
theorem seq_of {F H : Hp} {v : V} {d : D} {l : List D} (sb : Sub F H) (r : RpO Γ F H v d) (e : seqD d = some l) : ∃ vs, seqV Γ.K v H vs ∧ RpAll Γ F vs l ∧ l.length ≤ 16777216 := by
  cases d with
  | lst l' =>
    cases e
    obtain ⟨a, vs, rfl, h1, h2, h3⟩ := r.lst sb
    exact ⟨vs, .inl ⟨a, rfl, .inl (.of h1)⟩, h2, h3⟩
  | tup l' =>
    cases e
    obtain ⟨a, vs, rfl, h1, h2, h3⟩ := r.tup
    exact ⟨vs, .inl ⟨a, rfl, .inr (sb.tupR h1).sqt⟩, h2, h3⟩
  | scr l' =>
    cases e
    obtain ⟨a, rfl, h1, h3⟩ := r.scr
    exact ⟨_, .inl ⟨a, rfl, .inl (sb.sql h1)⟩, rp_ints l', by rw [List.length_map]; exact h3⟩
  | str s =>
    cases e
    obtain ⟨rfl, hs⟩ := r.str
    obtain ⟨h1, h2⟩ := sOk_all hs
    exact ⟨_, .inr ⟨s, rfl, sz16 (by simpa using h2), rfl⟩, rp_chars _ h1, by rw [List.length_map]; exact h2⟩
  | _ => cases e
def rListU (K : PySem.W.Frag) : List V → Hp → VK → Prop := fun xs H Q => ∃ v vs, xs = [v] ∧ seqV K v H vs ∧ ∀ l, H l = none → Q (.ref l) (upd H l (.lst vs))
theorem signs_vals {x : Str} {acc : Array Value} (h : ItemsOf (SignAt x) acc x.cps.size) : Vals (x.cps.toList.map fun c => V.str ⟨#[c]⟩) acc.toList := by
  obtain ⟨h1, h2⟩ := h
  have gen : ∀ (cs : List Nat) (us : List Value), us.length = cs.length → (∀ (j : Nat) (v : Value), us[j]? = some v → ∃ (c : Nat) (u : Tok), cs[j]? = some c ∧ v = Value.str ⟨#[c]⟩ u) → Vals (cs.map fun c => V.str ⟨#[c]⟩) us := by
    intro cs
    induction cs with
    | nil => intro us hl _; cases us with
      | nil => exact .nil
      | cons _ _ => cases hl
    | cons c cs ih =>
      intro us hl hj
      cases us with
      | nil => cases hl
      | cons u us =>
        refine .cons ?_ (ih us (by simpa using hl) fun j v hv => by simpa using hj (j + 1) v (by simpa using hv))
        obtain ⟨c', t, q1, q2⟩ := hj 0 u rfl
        simp only [List.getElem?_cons_zero, Option.some.injEq] at q1
        subst q1
        exact ⟨t, q2⟩
  refine gen _ _ (by simpa using h1) fun j v hv => ?_
  obtain ⟨c, u, q1, q2⟩ := h2 j v (by simpa using hv)
  exact ⟨c, u, by simpa using q1, q2⟩
theorem call_listU (hc : X.calm = true) : CallR X (.type "list") (rListU X.K) := by
  intro pins s σ H xs us Q I r h
  obtain ⟨v, vs, rfl, hv, q⟩ := h
  rcases hv with ⟨p, rfl, hp⟩ | ⟨x, rfl, hz, rfl⟩
  · exact call_list_of pins s σ H _ us Q I r ⟨p, vs, rfl, hp, q⟩
  · obtain ⟨u, rfl, t, rfl⟩ := vals1 r
    refine call_list_str (I.ok.hd hc) x t (fun h' tk acc c hk hl hi => ?_) hz
    have hlen : (x.cps.toList.map fun c => V.str ⟨#[c]⟩).length ≤ sizeLine := by simpa using hz
    exact ⟨.ref _, _, I.laid (t' := tk) (o := .lst (x.cps.toList.map fun c => V.str ⟨#[c]⟩)) hk (Nat.le_refl _) ⟨hlen, acc.toList, c, signs_vals hi, by rw [Array.toArray_toList]; exact hl⟩, rfl, q _ (I.hok.fresh (Nat.le_refl _))⟩
def listD : List D → Option Val
  | [d] => (seqD d).map fun l => .new (.lst l)
  | _ => none
theorem cs_list : CallS K ct (rListU K) listD := fun mu F H xs ds val Q sb r h k => by
  unfold listD at h
  split at h
  · rename_i d
    cases e : seqD d with
    | none => rw [e] at h; cases h
    | some l =>
      rw [e] at h
      cases h
      obtain ⟨x, rfl, rx⟩ := pair1 r
      obtain ⟨vs, h1, h2, h3⟩ := seq_of sb rx e
      exact ⟨x, vs, rfl, h1, fun p hp => k _ _ (.lst hp h2 h3)⟩
  · cases h
def rTupU (K : PySem.W.Frag) : List V → Hp → VK → Prop := fun xs H Q => rTupOf K xs H Q ∨ ∃ x : Str, xs = [.str x] ∧ x.cps.size ≤ sizeLine ∧ ∀ l o, H l = none → o.dict = none → Q (.ref l) (upd H l (.frz o (.tup (x.cps.toList.map fun c => V.str ⟨#[c]⟩))))
theorem call_tupU (hc : X.calm = true) : CallR X (.type "tuple") (rTupU X.K) := by
  intro pins s σ H xs us Q I r h
  rcases h with h | ⟨x, rfl, hz, q⟩
  · exact call_tupleF pins s σ H xs us Q I r h
  · obtain ⟨u, rfl, t, rfl⟩ := vals1 r
    refine call_tuple_str (I.ok.hd hc) x t (fun h' tk acc hk hi => ?_) hz
    have I1 : Inv X pins σ H { s with heap := h', toks := tk } := I.kept hk
    have := newTup I1 (its := acc.toList) (signs_vals hi) (by simpa using hz) q
    rw [Array.toArray_toList] at this
    exact this
def tupD : List D → Option Val
  | [.tup l] => some (.d (.tup l))
  | [.lst l] => some (.d (.tup l))
  | [.scr l] => some (.d (.tup (l.map .int)))
  | [.str s] => some (.d (.tup (s.cps.toList.map chD)))
  | _ => none
theorem cs_tup : CallS K ct (rTupU K) tupD := fun mu F H xs ds val Q sb r h k => by
  unfold tupD at h
  split at h
  · rename_i l
    cases h
    obtain ⟨x, rfl, rx⟩ := pair1 r
    have rx' := rx.up (Sub.refl _ |>.trans sb)
    obtain ⟨a, vs, rfl, h1, h2, h3⟩ := rx.tup
    exact .inl ⟨a, vs, rfl, .inr ⟨(sb.tupR h1).sqt, k _ _ (.same (.tup h1 h2 h3))⟩⟩
  · rename_i l
    cases h
    obtain ⟨x, rfl, rx⟩ := pair1 r
    obtain ⟨a, vs, rfl, h1, h2, h3⟩ := rx.lst sb
    exact .inl ⟨a, vs, rfl, .inl ⟨.of h1, fun p o hp ho => k _ _ (.tup hp ho h2 h3)⟩⟩
  · rename_i l
    cases h
    obtain ⟨x, rfl, rx⟩ := pair1 r
    obtain ⟨a, rfl, h1, h3⟩ := rx.scr
    exact .inl ⟨a, _, rfl, .inl ⟨sb.sql h1, fun p o hp ho => k _ _ (.tup hp ho (rp_ints l) (by rw [List.length_map]; exact h3))⟩⟩
  · rename_i s
    cases h
    obtain ⟨x, rfl, rx⟩ := pair1 r
    obtain ⟨rfl, hs⟩ := rx.str
    obtain ⟨h1, h2⟩ := sOk_all hs
    exact .inr ⟨s, rfl, sz16 (by simpa using h2), fun p o hp ho => k _ _ (.tup hp ho (rp_chars _ h1) (by rw [List.length_map]; exact h2))⟩
  · cases h

/-! ### all, any, sum, max, min of a list -/
def blsD : List D → Option (List Bool)
  | [] => some []
  | .bl b :: r => (blsD r).map fun l => b :: l
  | _ => none
theorem blsD_map : ∀ {l : List D} {r : List Bool}, blsD l = some r → l = r.map .bl
  | [], r, h => by cases h; rfl
  | .bl b :: l, r, h => by
    have h' : ((blsD l).map fun l => b :: l) = some r := h
    cases e : blsD l with
    | none => rw [e] at h'; cases h'
    | some r' => rw [e] at h'; cases h'; rw [blsD_map e]; rfl
  | .non :: _, _, h => by cases h
  | .int _ :: _, _, h => by cases h
  | .str _ :: _, _, h => by cases h
  | .tup _ :: _, _, h => by cases h
  | .pair _ :: _, _, h => by cases h
  | .lst _ :: _, _, h => by cases h
  | .scr _ :: _, _, h => by cases h
  | .ins _ _ _ :: _, _, h => by cases h
  | .dct _ _ :: _, _, h => by cases h
  | .dcl _ _ :: _, _, h => by cases h
  | .ptr _ :: _, _, h => by cases h
  | .cls _ :: _, _, h => by cases h
  | .rng _ _ :: _, _, h => by cases h
  | .exc _ _ _ :: _, _, h => by cases h
theorem rp_blsV {F : Hp} : ∀ {r : List Bool} {vs : List V}, RpAll Γ F vs (r.map D.bl) → vs = r.map V.bl
  | [], _, .nil => rfl
  | b :: r, _, .cons h t => by cases h; rw [rp_blsV t]; rfl
def allD : List D → Option Val
  | [.lst l] => (blsD l).map fun b => .d (.bl (b.all id))
  | _ => none
def anyD : List D → Option Val
  | [.lst l] => (blsD l).map fun b => .d (.bl (b.any id))
  | _ => none
theorem cs_all : CallS K ct (rAll K) allD := fun mu F H xs ds val Q sb r h k => by
  unfold allD at h
  split at h
  · rename_i l
    cases e : blsD l with
    | none => rw [e] at h; cases h
    | some b =>
      rw [e] at h
      cases h
      obtain ⟨x, rfl, rx⟩ := pair1 r
      obtain ⟨a, vs, rfl, h1, h2, h3⟩ := rx.lst sb
      rw [blsD_map e] at h2
      rw [rp_blsV h2] at h1
      exact ⟨a, b, rfl, .of h1, k _ _ (.same (.bl _))⟩
  · cases h
theorem cs_any : CallS K ct (rAny K) anyD := fun mu F H xs ds val Q sb r h k => by
  unfold anyD at h
  split at h
  · rename_i l
    cases e : blsD l with
    | none => rw [e] at h; cases h
    | some b =>
      rw [e] at h
      cases h
      obtain ⟨x, rfl, rx⟩ := pair1 r
      obtain ⟨a, vs, rfl, h1, h2, h3⟩ := rx.lst sb
      rw [blsD_map e] at h2
      rw [rp_blsV h2] at h1
      exact ⟨a, b, rfl, .of h1, k _ _ (.same (.bl _))⟩
  · cases h
def sumD : List D → Option Val
  | [.lst l] => (intsD l).map fun b => .d (.int b.sum)
  | _ => none
theorem cs_sum : CallS K ct (rSum K) sumD := fun mu F H xs ds val Q sb r h k => by
  unfold sumD at h
  split at h
  · rename_i l
    cases e : intsD l with
    | none => rw [e] at h; cases h
    | some b =>
      rw [e] at h
      cases h
      obtain ⟨x, rfl, rx⟩ := pair1 r
      obtain ⟨a, vs, rfl, h1, h2, h3⟩ := rx.lst sb
      rw [intsD_map e] at h2
      rw [rp_intsV h2] at h1
      exact ⟨a, b, rfl, .of h1, k _ _ (.same (.int _))⟩
  · cases h
def maxI : List Int → Option Int
  | [] => none
  | a :: r => some (r.foldl max a)
def minI : List Int → Option Int
  | [] => none
  | a :: r => some (r.foldl min a)
theorem foldl_max : ∀ (r : List Int) (a : Int), (r.foldl max a = a ∨ r.foldl max a ∈ r) ∧ a ≤ r.foldl max a ∧ ∀ y ∈ r, y ≤ r.foldl max a
  | [], a => ⟨.inl rfl, Int.le_refl _, fun _ h => by cases h⟩
  | b :: r, a => by
    obtain ⟨h1, h2, h3⟩ := foldl_max r (max a b)
    refine ⟨?_, by simp only [List.foldl_cons]; omega, fun y hy => ?_⟩
    · simp only [List.foldl_cons]
      rcases h1 with h1 | h1
      · rw [h1]
        by_cases h : a ≤ b
        · right; rw [Int.max_eq_right h]; exact List.mem_cons_self
        · left; rw [Int.max_eq_left (by omega)]
      · exact .inr (List.mem_cons_of_mem _ h1)
    · simp only [List.foldl_cons]
      rcases List.mem_cons.mp hy with rfl | hy
      · omega
      · exact h3 y hy
theorem foldl_min : ∀ (r : List Int) (a : Int), (r.foldl min a = a ∨ r.foldl min a ∈ r) ∧ r.foldl min a ≤ a ∧ ∀ y ∈ r, r.foldl min a ≤ y
  | [], a => ⟨.inl rfl, Int.le_refl _, fun _ h => by cases h⟩
  | b :: r, a => by
    obtain ⟨h1, h2, h3⟩ := foldl_min r (min a b)
    refine ⟨?_, by simp only [List.foldl_cons]; omega, fun y hy => ?_⟩
    · simp only [List.foldl_cons]
      rcases h1 with h1 | h1
      · rw [h1]
        by_cases h : b ≤ a
        · right; rw [Int.min_eq_right h]; exact List.mem_cons_self
        · left; rw [Int.min_eq_left (by omega)]
      · exact .inr (List.mem_cons_of_mem _ h1)
    · simp only [List.foldl_cons]
      rcases List.mem_cons.mp hy with rfl | hy
      · omega
      · exact h3 y hy
theorem maxI_is {l : List Int} {m n : Int} (h : maxI l = some m) (h1 : n ∈ l) (h2 : ∀ y, y ∈ l → y ≤ n) : n = m := by
  cases l with
  | nil => cases h
  | cons a r =>
    cases h
    obtain ⟨q1, q2, q3⟩ := foldl_max r a
    have z1 : n ≤ r.foldl max a := by
      rcases List.mem_cons.mp h1 with rfl | h
      · exact q2
      · exact q3 n h
    have z2 : r.foldl max a ≤ n := by
      rcases q1 with q | q
      · rw [q]; exact h2 a List.mem_cons_self
      · exact h2 _ (List.mem_cons_of_mem _ q)
    omega
theorem minI_is {l : List Int} {m n : Int} (h : minI l = some m) (h1 : n ∈ l) (h2 : ∀ y, y ∈ l → n ≤ y) : n = m := by
  cases l with
  | nil => cases h
  | cons a r =>
    cases h
    obtain ⟨q1, q2, q3⟩ := foldl_min r a
    have z1 : r.foldl min a ≤ n := by
      rcases List.mem_cons.mp h1 with rfl | h
      · exact q2
      · exact q3 n h
    have z2 : n ≤ r.foldl min a := by
      rcases q1 with q | q
      · rw [q]; exact h2 a List.mem_cons_self
      · exact h2 _ (List.mem_cons_of_mem _ q)
    omega
def max1D : List D → Option Val
  | [.lst l] => (intsD l).bind fun b => (maxI b).map fun m => .d (.int m)
  | _ => none
def min1D : List D → Option Val
  | [.lst l] => (intsD l).bind fun b => (minI b).map fun m => .d (.int m)
  | _ => none
theorem cs_max1 : CallS K ct (rMax K) max1D := fun mu F H xs ds val Q sb r h k => by
  unfold max1D at h
  split at h
  · rename_i l
    cases e : intsD l with
    | none => simp [e] at h
    | some b =>
      simp only [e, Option.bind_some] at h
      cases e2 : maxI b with
      | none => simp [e2] at h
      | some m =>
        rw [e2] at h
        cases h
        obtain ⟨x, rfl, rx⟩ := pair1 r
        obtain ⟨a, vs, rfl, h1, h2, h3⟩ := rx.lst sb
        rw [intsD_map e] at h2
        rw [rp_intsV h2] at h1
        refine ⟨a, b, rfl, .of h1, ?_, fun n q1 q2 => ?_⟩
        · cases b with
          | nil => cases e2
          | cons _ _ => exact Nat.succ_pos _
        · rw [maxI_is e2 q1 q2]
          exact k _ _ (.same (.int _))
  · cases h
theorem cs_min1 : CallS K ct (rMin K) min1D := fun mu F H xs ds val Q sb r h k => by
  unfold min1D at h
  split at h
  · rename_i l
    cases e : intsD l with
    | none => simp [e] at h
    | some b =>
      simp only [e, Option.bind_some] at h
      cases e2 : minI b with
      | none => simp [e2] at h
      | some m =>
        rw [e2] at h
        cases h
        obtain ⟨x, rfl, rx⟩ := pair1 r
        obtain ⟨a, vs, rfl, h1, h2, h3⟩ := rx.lst sb
        rw [intsD_map e] at h2
        rw [rp_intsV h2] at h1
        refine ⟨a, b, rfl, .of h1, ?_, fun n q1 q2 => ?_⟩
        · cases b with
          | nil => cases e2
          | cons _ _ => exact Nat.succ_pos _
        · rw [minI_is e2 q1 q2]
          exact k _ _ (.same (.int _))
  · cases h

/-! ### lists: append, extend, pop -/
def isL : MO → Bool
  | .lst _ => true
  | _ => false
theorem tym_list : TyM K ct "list" isL := fun mu F H a m ho hp => by
  cases m with
  | lst l => obtain ⟨vs, h1, _⟩ := ho; exact .inl ⟨rfl, vs, SqL.of h1⟩
  | _ => cases hp
def appM : MO → List D → Option (MO × D)
  | .lst l, [d] => if l.length < 16777216 then some (.lst (l ++ [d]), .non) else none
  | _, _ => none
theorem ms_append : MutS K ct rAppend appM := fun mu F H p m vs ds m' d Q sb ho r h k => by
  unfold appM at h
  split at h
  · rename_i l x
    split at h
    · rename_i hl
      cases h
      obtain ⟨us, h1, h2, h3⟩ := ho
      cases r with
      | cons rx rt =>
        cases rt
        refine ⟨p, us, _, rfl, rfl, h1, by rw [h2.length, sizeLine_eq]; exact hl, k _ _ ⟨_, upd_same, h2.append (.one rx), ?_⟩ .non⟩
        rw [List.length_append, List.length_singleton]; omega
    · cases h
  · cases h
noncomputable def popM : MO → List D → Option (MO × D)
  | .lst l, [.int i] => if bnd i = true then (ixN l.length i).bind fun j => (l[j]?).map fun x => (.lst (l.eraseIdx j), x) else none
  | .lst l, [] => (l[l.length - 1]?).map fun x => (.lst l.dropLast, x)
  | _, _ => none
def rPopU : V → List V → Hp → VK → Prop := fun x vs H Q => rPopAt x vs H Q ∨ rPop x vs H Q
theorem mt_popU : MtR X "list.pop" rPopU := MtR.or mt_popAt mt_pop
theorem RpAll.dropLast {F : Hp} : ∀ {vs : List V} {ds : List D}, RpAll Γ F vs ds → RpAll Γ F vs.dropLast ds.dropLast
  | _, _, .nil => .nil
  | _, _, .cons h .nil => .nil
  | _, _, .cons h (.cons h2 r) => .cons h (RpAll.dropLast (.cons h2 r))
theorem ms_pop : MutS K ct rPopU popM := fun mu F H p m vs ds m' d Q sb ho r h k => by
  unfold popM at h
  split at h
  · rename_i l i
    split at h
    · rename_i hb
      cases e : ixN l.length i with
      | none => simp [e] at h
      | some j =>
        simp only [e, Option.bind_some] at h
        cases e2 : l[j]? with
        | none => simp [e2] at h
        | some x =>
          simp only [e2, Option.map_some, Option.some.injEq, Prod.mk.injEq] at h
          obtain ⟨rfl, rfl⟩ := h
          obtain ⟨us, h1, h2, h3⟩ := ho
          cases r with
          | cons rx rt =>
            cases rt
            cases rx
            obtain ⟨hb1, hb2⟩ := bnd_of hb
            obtain ⟨v, q1, q2⟩ := h2.get e2
            refine .inl ⟨p, us, i, j, v, rfl, rfl, h1, by omega, by omega, by rw [h2.length]; exact (ixN_seq e).1, q1, k _ _ ⟨_, upd_same, h2.erase j, ?_⟩ q2⟩
            exact Nat.le_trans (len_erase l j) h3
    · cases h
  · rename_i l
    cases e2 : l[l.length - 1]? with
    | none => simp [e2] at h
    | some x =>
      simp only [e2, Option.map_some, Option.some.injEq, Prod.mk.injEq] at h
      obtain ⟨rfl, rfl⟩ := h
      obtain ⟨us, h1, h2, h3⟩ := ho
      cases r
      obtain ⟨v, q1, q2⟩ := h2.get e2
      refine .inr ⟨p, us, v, rfl, rfl, h1, by rw [h2.length]; exact q1, k _ _ ⟨_, upd_same, h2.dropLast, ?_⟩ q2⟩
      rw [List.length_dropLast]; omega
  · cases h
end
end KD

set_option maxHeartbeats 4000000
namespace KD
open PySem PySem.Spec PyProof.Rows L2
section
variable {X : Cx} {ct : Nat → Addr} {Γ : Gam} {K : PySem.W.Frag}
/-! ### repr of data -/
def rRepr (K : PySem.W.Frag) : List V → Hp → VK → Prop := fun xs H Q => (∃ a d, xs = [.ref a] ∧ Dp K H (.ref a) d ∧ d.showable = true ∧ d.hasDict = false ∧ d.depth ≤ 64 ∧ d.shown.length ≤ sizeLine ∧ Q (.str d.shown) H) ∨
  ∃ i, xs = [.int i] ∧ i.natAbs.log2 < 1920 ∧ Q (.str (toString i)) H
theorem call_reprU (hg : X.A.guards = some []) (hu : X.A.units + 80 < cLine) : CallR X (.builtin "repr") (rRepr X.K) := by
  intro pins s σ H xs us Q I r h
  rcases h with ⟨a, d, rfl, hd, h1, h2, h3, h4, q⟩ | h
  · obtain ⟨u, rfl, rx⟩ := vals1 r
    obtain ⟨as, rd⟩ := Dp.reads I d _ _ hd rx
    cases rx
    exact repr_of_reads' rd h1 (PySem.PyData.noDict_hsm h2) hg (by omega) (fun _ _ e => e) (fun h' u tk hk => ⟨.str _, H, I.kept hk, ⟨u, rfl⟩, q⟩) h4
  · exact SkE.call_repr_int pins s σ H xs us Q I r h
def okR (d : D) : Bool := okD d && (toPy d).showable && sOk (toPy d).shown
def reprD : List D → Option Val
  | [.int i] => if i.natAbs.log2 < 1920 ∧ sOk (toString i) = true then some (.d (.str (toString i))) else none
  | [.lst l] => if okR (.lst l) = true then some (.d (.str (toPy (.lst l)).shown)) else none
  | [.tup l] => if okR (.tup l) = true then some (.d (.str (toPy (.tup l)).shown)) else none
  | _ => none
theorem repr_core {F H : Hp} {v : V} {d : D} {Q : VK} (sb : Sub F H) (rx : RpO Γ F H v d) (h : okR d = true) (hr : ∀ w, Rp Γ H v d → v = w → ∃ a, w = .ref a) (k : Q (.str (toPy d).shown) H) : rRepr Γ.K [v] H Q := by
  unfold okR at h
  rw [Bool.and_eq_true, Bool.and_eq_true] at h
  obtain ⟨⟨h1, h2⟩, h3⟩ := h
  have rx' := rx.up sb
  have hp : plain d = true := by unfold okD at h1; rw [Bool.and_eq_true] at h1; exact h1.1
  have hdp : (toPy d).depth ≤ 64 := by unfold okD at h1; rw [Bool.and_eq_true] at h1; exact of_decide_eq_true h1.2
  obtain ⟨a, rfl⟩ := hr v rx' rfl
  exact .inl ⟨a, toPy d, rfl, rx'.dp hp, h2, PySem.PyData.hasDict_of_canLay _ (rx'.lay hp), hdp, sOk_len' h3, k⟩
theorem cs_repr : CallS K ct (rRepr K) reprD := fun mu F H xs ds val Q sb r h k => by
  unfold reprD at h
  split at h
  · rename_i i
    split at h
    · rename_i hz
      cases h
      obtain ⟨x, rfl, rx⟩ := pair1 r
      rw [rx.int]
      exact .inr ⟨i, rfl, hz.1, k _ _ (.same (.str _ hz.2))⟩
    · cases h
  · rename_i l
    split at h
    · rename_i hz
      cases h
      obtain ⟨x, rfl, rx⟩ := pair1 r
      have hs : sOk (toPy (.lst l)).shown = true := by unfold okR at hz; rw [Bool.and_eq_true] at hz; exact hz.2
      exact repr_core sb rx hz (fun w r e => by subst e; cases r; exact ⟨_, rfl⟩) (k _ _ (.same (.str _ hs)))
    · cases h
  · rename_i l
    split at h
    · rename_i hz
      cases h
      obtain ⟨x, rfl, rx⟩ := pair1 r
      have hs : sOk (toPy (.tup l)).shown = true := by unfold okR at hz; rw [Bool.and_eq_true] at hz; exact hz.2
      exact repr_core sb rx hz (fun w r e => by subst e; cases r; exact ⟨_, rfl⟩) (k _ _ (.same (.str _ hs)))
    · cases h
  · cases h

/-! ### isinstance -/
inductive Kd | ty (n : String) | cl (c : Nat)
def kindM : MO → Kd
  | .lst _ => .ty "list"
  | .ins c _ _ => .cl c
  | .dct _ _ => .ty "dict"
def kindD (ε : SE) : D → Option Kd
  | .non => some (.ty "NoneType")
  | .bl _ => some (.ty "bool")
  | .int _ => some (.ty "int")
  | .str _ => some (.ty "str")
  | .tup _ => some (.ty "tuple")
  | .pair _ => some (.ty "tuple")
  | .lst _ => some (.ty "list")
  | .scr _ => some (.ty "list")
  | .dct _ _ => some (.ty "dict")
  | .dcl _ _ => none
  | .cls _ => none
  | .rng _ _ => none
  | .exc _ _ _ => none
  | .ins c _ _ => some (.cl c)
  | .ptr n => (ε.M[n]?).map kindM
structure IsC (K : PySem.W.Frag) (C : Addr) : Prop where
  cl : Cls K C
  ha : PySem.W.findIn K (.ref C) "__class__" = some (some (.builtin "object.__class__"))
  hn : PySem.W.specialIn K (.builtin "object.__class__") "__get__" = some (some (.builtin "getset_descriptor.__get__"))
  htk : PySem.W.takesIn K (.builtin "object.__class__") = some true
  hm : PySem.W.mroIn K C (.type "object") = some true
def kdV (ct : Nat → Addr) : Kd → Value
  | .ty n => .type n
  | .cl c => .ref (ct c)
theorem tyx_sql {H : Hp} {a : Addr} {xs : List V} (h : SqL K H a xs) : TyX K H (.ref a) (.type "list") := by
  rcases h with (h | ⟨o, h⟩) | ⟨o, its, n, hk, hc, _⟩
  · exact .base (.lst h)
  · exact .base (.frz h)
  · exact .kList hk hc
theorem tyx_sqt {H : Hp} {a : Addr} {xs : List V} (h : SqT K H a xs) : TyX K H (.ref a) (.type "tuple") := by
  rcases h with (h | ⟨o, h⟩) | ⟨o, its, n, hk, hc, _⟩
  · exact .base (.tup h)
  · exact .fTuple h
  · exact .kTuple hk hc
theorem tyx_of {mu : Nat → Option Addr} {ow : OwF} {ε : SE} {σ : L2.St} {H : Hp} {v : V} {d : D} {kd : Kd} (S : Sim ⟨K, ct, mu⟩ ow ε σ H) (r : RpO ⟨K, ct, mu⟩ (cut H ow) H v d) (hk : kindD ε d = some kd) (hc : ∀ c, kd = .cl c → IsC K (ct c)) : TyX K H v (kdV ct kd) := by
  have obj : ∀ (p : Addr) (m : MO), ObjR ⟨K, ct, mu⟩ (cut H ow) H p m → kindM m = kd → TyX K H (.ref p) (kdV ct kd) := by
    intro p m ho e
    cases m with
    | lst l => cases e; obtain ⟨vs, h1, _⟩ := ho; exact .base (.lst h1)
    | ins c ns l => cases e; obtain ⟨dx, vs, h1, _⟩ := ho; have q := hc c rfl; exact .base (.ins h1 q.cl q.ha q.hn q.htk q.hm)
    | dct ks l => cases e; obtain ⟨vs, h1, _⟩ := ho; exact .base (.dK h1)
  rcases r with r | ⟨p, m, rfl, ho, rfl⟩
  · cases r with
    | non => cases hk; exact .base .non
    | bl b => cases hk; exact .base (.bl b)
    | int b => cases hk; exact .base (.int b)
    | str b h => cases hk; exact .base (.str b)
    | tup h _ _ => cases hk; exact tyx_sqt (cut_sub.tupR h).sqt
    | pair h _ => cases hk; exact tyx_sqt (cut_sub.sqt h)
    | lst h _ _ => cases hk; exact .base (.lst (cut_sub _ _ h))
    | scr h _ => cases hk; exact tyx_sql (cut_sub.sql h)
    | dct h _ _ => cases hk; exact .base (.dK (cut_sub _ _ h))
    | dcl h _ _ => cases hk
    | cls _ => cases hk
    | rng _ => cases hk
    | exc _ _ _ _ => cases hk
    | ins h _ _ => cases hk; have q := hc _ rfl; exact .base (.ins (cut_sub _ _ h) q.cl q.ha q.hn q.htk q.hm)
    | ptr h =>
      have hk' : (ε.M[_]?).map kindM = some kd := hk
      obtain ⟨m, hm, e⟩ := Option.map_eq_some_iff.mp hk'
      obtain ⟨p, q1, q2, q3⟩ := S.mo _ m hm
      rw [q1] at h
      cases h
      exact obj _ m q3 e
  · cases m with
    | lst l => cases hk; exact obj p _ ho rfl
    | ins c ns l => cases hk; exact obj p _ ho rfl
    | dct ks l => cases hk; exact obj p _ ho rfl
def eIsi (tab : Kd → Option Bool) (fe : EM) : EM := fun ε => (fzE fe ε).bind fun r => (r.1.res r.2).bind fun d => (kindD r.2 d).bind fun kd => (tab kd).map fun b => (.d (.bl b), r.2)
theorem de_isi {tab : Kd → Option Bool} {c : V} {u : Value} {fe : EM} {e ce : Expr} {p pos : Pos} (hc : PE X ce (tC c)) (cv : ClsV c u) (hI : ∀ n, tab (.cl n) ≠ none → IsC X.K (ct n)) (hk : ∀ kd b, tab kd = some b → PySem.W.kitOne X.K (kdV ct kd) u = some b)
    (hm : X.mg "isinstance" = none) (he : PE X e (tE X.K ct fe)) (hg : Gl X "isinstance" := by rfl) (hs : starEach [e, ce] X.env = (false, eval e X.env) :: starEach [ce] X.env := by rfl) (hs2 : starEach [ce] X.env = (false, eval ce X.env) :: starEach [] X.env := by rfl)
    (hpl : (backTo pos (starEach [ce] X.env)).any (·.1) = false := by rfl) : PE X (.Call (.Name "isinstance" p) [e, ce] [] pos) (tE X.K ct (eIsi tab fe)) :=
  (pe_callB call_isi hg hm (by decide +kernel) (pa_cons (de_fz he) (pa_cons hc pa_nil hs2) hs) (by decide) (by decide) hs hpl).imp fun σ H Q ⟨mu, ow, ε, val, ε', S, hf, k⟩ => by
    unfold eIsi at hf
    cases e1 : fzE fe ε with
    | none => simp [e1] at hf
    | some r =>
      simp only [e1, Option.bind_some] at hf
      cases e2 : r.1.res r.2 with
      | none => simp [e2] at hf
      | some d =>
        simp only [e2, Option.bind_some] at hf
        cases e3 : kindD r.2 d with
        | none => simp [e3] at hf
        | some kd =>
          simp only [e3, Option.bind_some] at hf
          cases e4 : tab kd with
          | none => simp [e4] at hf
          | some b =>
            simp only [e4, Option.map_some, Option.some.injEq, Prod.mk.injEq] at hf
            obtain ⟨rfl, rfl⟩ := hf
            refine ⟨mu, ow, ε, r.1, r.2, S, e1, fun v H1 ow1 S1 fr1 r1 => ?_⟩
            have ty := tyx_of S1 (VR.res S1 r1 e2) e3 fun n e => hI n (by rw [← e, e4]; simp)
            exact ⟨v, c, _, u, b, rfl, cv, ty, hk kd b e4, k _ H1 ow1 S1 fr1 (.bl b)⟩
/-- built-in classes -/
def tyNames : List String := ["NoneType", "bool", "int", "str", "tuple", "list", "dict"]
def isTy (T n : String) : Bool := n == T || (T == "int" && n == "bool")
def tabT (T : String) : Kd → Option Bool
  | .ty n => if tyNames.contains n = true then some (isTy T n) else none
  | .cl _ => none
theorem kit_tab {T : String} (h : tyNames.all (fun n => decide (kitB n T = some (isTy T n))) = true) (kd : Kd) (b : Bool) (e : tabT T kd = some b) : PySem.W.kitOne K (kdV ct kd) (.type T) = some b := by
  cases kd with
  | ty n =>
    unfold tabT at e
    dsimp only at e
    split at e
    · rename_i hn
      cases e
      exact kit_ty (of_decide_eq_true (List.all_eq_true.mp h n (by simpa using hn)))
    · cases e
  | cl c => cases e
theorem tab_str : tyNames.all (fun n => decide (kitB n "str" = some (isTy "str" n))) = true := by decide +kernel
theorem tab_int : tyNames.all (fun n => decide (kitB n "int" = some (isTy "int" n))) = true := by decide +kernel
theorem tab_bool : tyNames.all (fun n => decide (kitB n "bool" = some (isTy "bool" n))) = true := by decide +kernel
theorem tab_tuple : tyNames.all (fun n => decide (kitB n "tuple" = some (isTy "tuple" n))) = true := by decide +kernel
theorem tab_list : tyNames.all (fun n => decide (kitB n "list" = some (isTy "list" n))) = true := by decide +kernel
theorem tab_dict : tyNames.all (fun n => decide (kitB n "dict" = some (isTy "dict" n))) = true := by decide +kernel
theorem de_isT {T : String} {x : Str} {fe : EM} {e : Expr} {p q pos : Pos} (ht : tyNames.all (fun n => decide (kitB n T = some (isTy T n))) = true) (hv : bootBuiltins x = some (.type T)) (hm : X.mg "isinstance" = none) (hx : X.mg x = none) (he : PE X e (tE X.K ct fe)) (hg : Gl X "isinstance" := by rfl) (hgx : Gl X x := by rfl)
    (hn : x ≠ "__name__" := by decide) (hd : (x == ("__debug__" : Str)) = false := by decide) (hs : starEach [e, .Name x q] X.env = (false, eval e X.env) :: starEach [.Name x q] X.env := by rfl) (hs2 : starEach [.Name x q] X.env = (false, eval (.Name x q) X.env) :: starEach [] X.env := by rfl)
    (hpl : (backTo pos (starEach [.Name x q] X.env)).any (·.1) = false := by rfl) : PE X (.Call (.Name "isinstance" p) [e, .Name x q] [] pos) (tE X.K ct (eIsi (tabT T) fe)) :=
  de_isi (c := .ty T) (u := .type T) (pe_bltn hgx hx hv rfl hn hd) (.ty T) (fun n h => absurd rfl h) (kit_tab ht) hm he hg hs hs2 hpl
/-- an own class: what a thing of each kind answers -/
def tabC (l : List (Nat × Bool)) : Kd → Option Bool
  | .ty n => if tyNames.contains n = true then some false else none
  | .cl c => l.lookup c
theorem lookup_memL {β : Type} {c : Nat} {b : β} : ∀ {l : List (Nat × β)}, l.lookup c = some b → (c, b) ∈ l
  | (x, y) :: l, h => by
    rw [List.lookup_cons] at h
    by_cases e : (c == x) = true
    · rw [e] at h
      cases h
      rw [beq_iff_eq.mp e]
      exact List.mem_cons_self
    · rw [Bool.not_eq_true] at e
      rw [e] at h
      exact List.mem_cons_of_mem _ (lookup_memL h)
theorem de_isC {l : List (Nat × Bool)} {C : Addr} {x : Str} {fe : EM} {e : Expr} {p q pos : Pos} (hI : ∀ q ∈ l, IsC X.K (ct q.1)) (hK : ∀ q ∈ l, PySem.W.kitOne X.K (.ref (ct q.1)) (.ref C) = some q.2) (hT : tyNames.all (fun n => decide (PySem.W.kitOne X.K (.type n) (.ref C) = some false)) = true)
    (hm : X.mg "isinstance" = none) (hx : X.mg x = some (.ref C)) (he : PE X e (tE X.K ct fe)) (hg : Gl X "isinstance" := by rfl) (hgx : Gl X x := by rfl)
    (hd : (x == ("__debug__" : Str)) = false := by decide) (hs : starEach [e, .Name x q] X.env = (false, eval e X.env) :: starEach [.Name x q] X.env := by rfl) (hs2 : starEach [.Name x q] X.env = (false, eval (.Name x q) X.env) :: starEach [] X.env := by rfl)
    (hpl : (backTo pos (starEach [.Name x q] X.env)).any (·.1) = false := by rfl) : PE X (.Call (.Name "isinstance" p) [e, .Name x q] [] pos) (tE X.K ct (eIsi (tabC l) fe)) :=
  de_isi (c := .ref C) (u := .ref C) (pe_glob hgx hx rfl hd) (.own C) (fun n h => by
    cases e : l.lookup n with
    | none => exact absurd e h
    | some b => exact hI _ (lookup_memL e)) (fun kd b e => by
    cases kd with
    | ty n =>
      unfold tabC at e
      dsimp only at e
      split at e
      · rename_i hn
        cases e
        exact of_decide_eq_true (List.all_eq_true.mp hT n (by simpa using hn))
      · cases e
    | cl c => exact hK _ (lookup_memL e)) hm he hg hs hs2 hpl

/-! ### t.index(x), t.count(x): a plain tuple of texts -/
def strsD : List D → Option (List Str)
  | [] => some []
  | .str s :: r => (strsD r).map fun l => s :: l
  | _ => none
theorem strsD_map : ∀ {l : List D} {r : List Str}, strsD l = some r → l = r.map .str
  | [], r, h => by cases h; rfl
  | .str b :: l, r, h => by
    have h' : ((strsD l).map fun l => b :: l) = some r := h
    cases e : strsD l with
    | none => rw [e] at h'; cases h'
    | some r' => rw [e] at h'; cases h'; rw [strsD_map e]; rfl
  | .non :: _, _, h => by cases h
  | .int _ :: _, _, h => by cases h
  | .bl _ :: _, _, h => by cases h
  | .tup _ :: _, _, h => by cases h
  | .pair _ :: _, _, h => by cases h
  | .lst _ :: _, _, h => by cases h
  | .scr _ :: _, _, h => by cases h
  | .ins _ _ _ :: _, _, h => by cases h
  | .dct _ _ :: _, _, h => by cases h
  | .dcl _ _ :: _, _, h => by cases h
  | .ptr _ :: _, _, h => by cases h
  | .cls _ :: _, _, h => by cases h
  | .rng _ _ :: _, _, h => by cases h
  | .exc _ _ _ :: _, _, h => by cases h
theorem rp_strsV {F : Hp} : ∀ {r : List Str} {vs : List V}, RpAll Γ F vs (r.map D.str) → vs = r.map V.str
  | [], _, .nil => rfl
  | b :: r, _, .cons h t => by cases h; rw [rp_strsV t]; rfl
theorem rp_strsOk {F : Hp} : ∀ {r : List Str} {vs : List V}, RpAll Γ F vs (r.map D.str) → ∀ s ∈ r, sOk s = true
  | [], _, .nil, _, h => by cases h
  | b :: r, _, .cons h t, s, hs => by
    cases h with
    | str _ hb =>
      rcases List.mem_cons.mp hs with rfl | hs
      · exact hb
      · exact rp_strsOk t s hs
def tixD : D → List D → Option Val
  | .tup l, [.str z] => (strsD l).bind fun ss => (ss.findIdx? (· == z)).map fun j => .d (.int (j : Nat))
  | _, _ => none
/-- a method of a plain tuple -/
def isTupD : D → Bool
  | .tup _ => true
  | _ => false
theorem de_tm {id : String} {name : Str} {o e : Expr} {es : List Expr} {apos cpos : Pos} {fo : EM} {f : AM} {r : V → List V → Hp → VK → Prop} {g : D → List D → Option Val}
    (hs : MtS X.K ct "tuple" r g) (pa : PlainAttrs "tuple") (slot : Slot "tuple" name id) (hty : typeOf (.builtin id) = pure (.type "method_descriptor")) (hm : MtR X id r) (ho : PE X o (tE X.K ct fo)) (ha : PA X (e :: es) (tA X.K ct f))
    (hbase : attributeBase o name X.env (eval o X.env) = eval o X.env := by rfl)
    (hfew : ((backTo cpos (starEach (e :: es) X.env)).all (fun x => !x.1) && (backToKw cpos (keywordEach [] X.env)).all (fun x => x.1.isSome)
      && decide ((e :: es).length + ([] : List Keyword).length + (if ([] : List Keyword).isEmpty then 0 else 1) < 30)) = true := by rfl)
    (hline : (apos.endLine == cpos.line) = true := by rfl) (hss : starEach (e :: es) X.env = (false, eval e X.env) :: starEach es X.env := by rfl) (hplain : (backTo cpos (starEach es X.env)).any (·.1) = false := by rfl) :
    PE X (.Call (.Attribute o name apos) (e :: es) [] cpos) (tE X.K ct (eBM isTupD g fo f)) :=
  (pe_tm pa slot hty hm (de_fz ho) ha hbase hfew hline hss hplain).imp fun σ H Q ⟨mu, ow, ε, val, ε', S, hf, k⟩ => by
    obtain ⟨ro, d0, ra, d, ds, e1, e2, e3, e4, e5, e6, e7, e8⟩ := eBM_some hf
    dsimp only at e7 e8
    subst e8
    refine ⟨mu, ow, ε, ro.1, ro.2, S, e1, fun x H1 ow1 S1 fr1 r1 => ⟨?_, mu, ow1, ro.2, ra.1, ra.2, S1, e4, fun xs H2 ow2 S2 fr2 r2 => ?_⟩⟩
    · cases d0 <;> first | (cases e3; done) | skip
      obtain ⟨a, vs, rfl, h1, _⟩ := (VR.res S1 r1 e2).tup
      exact ⟨a, vs, rfl, cut_sub.tupR h1⟩
    · obtain ⟨va, ha, hv⟩ := fzE_some e1
      have r1' : VR ⟨X.K, ct, mu⟩ ow2 H2 σ H2 x ro.1 := by
        rw [hv] at r1 ⊢
        exact r1.carry fr2
      refine hs mu (cut H2 ow2) H2 x xs d ds val Q cut_sub (VR.res S2 r1' e5) (VRs.res S2 r2 e6) e7 fun v H' hv => ?_
      obtain ⟨ow3, S3, fr3, v3⟩ := Fresh.sim S2 hv
      exact k v H' ow3 S3 ((fr1.trans fr2).trans fr3) (v3.back fun p hp => (fr1.trans fr2).none hp)
theorem ms_tix : MtS K ct "tuple" (fun x xs H Q => ∃ p, ∃ ys : List Str, ∃ z j, x = .ref p ∧ xs = [.str z] ∧ SqT K H p (ys.map V.str) ∧ ys[j]? = some z ∧ (∀ m, m < j → ys[m]? ≠ some z) ∧ Q (.int (j : Nat)) H) tixD := fun mu F H x xs d ds val Q sb rx r h k => by
  unfold tixD at h
  split at h
  · rename_i l z
    cases e : strsD l with
    | none => simp [e] at h
    | some ss =>
      simp only [e, Option.bind_some] at h
      cases e2 : ss.findIdx? (· == z) with
      | none => simp [e2] at h
      | some j =>
        rw [e2] at h
        cases h
        obtain ⟨y, rfl, ry⟩ := pair1 r
        obtain ⟨rfl, hz⟩ := ry.str
        obtain ⟨a, vs, rfl, h1, h2, h3⟩ := rx.tup
        rw [strsD_map e] at h2
        have hv := rp_strsV h2
        subst hv
        obtain ⟨q1, q2⟩ := List.findIdx?_eq_some_iff_findIdx_eq.mp e2
        have q3 := List.findIdx?_eq_some_iff_getElem.mp e2
        obtain ⟨hj, hz1, hz2⟩ := q3
        refine ⟨a, ss, z, j, rfl, rfl, (sb.tupR h1).sqt, ?_, fun m hm q => ?_, k _ _ (.same (.int _))⟩
        · rw [List.getElem?_eq_getElem hj]; exact congrArg some (beq_iff_eq.mp hz1)
        · have hml : m < ss.length := by omega
          rw [List.getElem?_eq_getElem hml] at q
          have := hz2 m hm
          rw [Option.some.inj q] at this
          simp at this
  · cases h
end
end KD

set_option maxHeartbeats 4000000
namespace KD
open PySem PySem.Spec PyProof.Rows L2
section
variable {P : Program} {w : World} {K : PySem.W.Frag} {mg : Str → Option Value} {base : Heap} {ct : Nat → Addr}
/-! ### defs by their data (FunD) -/
theorem pre_le {N ps : List Str} {sc : Scope} (S : FnScope N ps sc) : ps.length ≤ N.length := by
  have := congrArg List.length S.pre
  rw [List.length_take] at this
  omega
theorem fd_ok {x qual : Str} {params : Arguments} {body : List Stmt} {scope : Scope} {dvs : List V} {kws : List (Str × V)} {f : Addr} {fd : FuncData} {N ps : List Str} {k : Nat} {fm : SM} (F : FunD K x qual params body scope dvs kws f fd) (S : FnScope N ps scope)
    (hb : ∀ cdv A outer s H E, Room k (A.deeper (envOfC qual scope s.heap.objs.size f cdv)) → PSs (cxOf CX0 P w K mg base N qual scope f cdv A outer s H E).nox body (tS K ct fm)) :
    FnOk P w K mg base CX0 (k + 1) f fd ps (FnS K ct ps.length (runF ps.length N.length fm)) :=
  F.ok S (fun vs H Q E h => h.1) fun cdv A outer s H vs Q E hr h => ⟨tS K ct fm, (hb cdv A outer s H E hr).nox, fnS_start (pre_le S) h⟩
theorem fd_okG {x qual : Str} {params : Arguments} {body : List Stmt} {scope : Scope} {kws : List (Str × V)} {f : Addr} {fd : FuncData} {N ps : List Str} {k : Nat} {fm : SM} {dvs : List V} (F : FunD K x qual params body scope dvs kws f fd) (S : FnScope N ps scope)
    (hb : ∀ cdv A outer s H E, A.guards = some [] → Room k (A.deeper (envOfC qual scope s.heap.objs.size f cdv)) → PSs (cxOf CX0 P w K mg base N qual scope f cdv A outer s H E).nox body (tS K ct fm)) :
    FnG P w K mg base (k + 1) f fd ps (FnS K ct ps.length (runF ps.length N.length fm)) := by
  obtain ⟨oc, od, dV, kV, doc, pm, an, cdv, ct', osl, rfl, lk, hcd, _, _⟩ := F.ex
  refine ⟨fun vs H Q E h => h.1, fun A outer s H args us vs Q E hgd hr e0 hb' r hsp => ?_⟩
  have old : ∀ b o, base.get? b = some o → s.heap.get? b = some o := fun b o e => (e0.bs b o e).1
  have KX : K.In s.heap := e0.mod.kin.keeps old
  refine codeAny_call_function hr.depth (KX _ _ lk) rfl S.co S.gen rfl (PySem.W.codeRec_of KX hcd) (hb' _ _ _ _ ?_)
  refine wpAny_newFunctionEnv_cells S.kind (fun y hy => (S.par y.1 (List.of_mem_zip hy).1).imp id fun q => ⟨q, PySem.W.cellsFrom_some _ _ _ (.inl q)⟩) fun env he s1 x => ?_
  subst he
  refine ⟨(e0.mod.nolimit.keeps old).keeps x.toInCall.keep, codeAny_func ?_⟩
  have I := inv_start (CX := CX0) (E := E) S hr.hd e0 hsp.1 r x
  refine wpAny_mono ((hb cdv A outer s H E hgd (hr.deeper _)).nox.run [] s1 (L2.start N vs) H { nx := fun _ H' => Q .non H', rt := Q } I (fnS_start (pre_le S) hsp)) (fun fl s' hs => ?_) fun _ _ hs => hs
  match fl, hs with
  | .ret u, ⟨v, σ', H', J, rv, q⟩ => exact ⟨v, H', J.os, J.bare, J.base, J.hok, rv, q⟩
  | .next, ⟨σ', H', J, q⟩ => exact ⟨V.non, H', J.os, J.bare, J.base, J.hok, rfl, q⟩
  | .brk, ⟨_, _, _, q⟩ => exact q.elim
  | .cont, ⟨_, _, _, q⟩ => exact q.elim
end
section
variable {X : Cx} {ct : Nat → Addr} {k n : Nat} {f : Addr} {fd : FuncData} {ps : List Str} {fm : FM} {dvs : List V} {dd : List D} {ds : List Value} {E : XK} {x : Str} {p pos : Pos} {e : Expr} {es : List Expr} {fa : AM}
theorem de_callG (F : FnG X.prog X.w X.K X.mg X.base k f fd ps (FnS X.K ct n fm)) (hgd : X.A.guards = some []) (hr : Room k X.A) (hm : X.mg x = some (.ref f)) (hk : PySem.W.keepIn X.K (.ref f) = true) (hb : Binds X.K fd ps ds) (hd : Vals dvs ds)
    (hdd : ∀ mu F, RpAll ⟨X.K, ct, mu⟩ F dvs dd) (hn : ∀ ds M o, fm ds M = some o → ds.length = n) (ha : PA X (e :: es) (tA X.K ct fa)) (hg : Gl X x := by rfl)
    (hdb : (x == ("__debug__" : Str)) = false := by decide) (he : starEach (e :: es) X.env = (false, eval e X.env) :: starEach es X.env := by rfl) (hpl : (backTo pos (starEach es X.env)).any (·.1) = false := by rfl) :
    PE X (.Call (.Name x p) (e :: es) [] pos) (tE X.K ct (eCall fm dd fa)) := (pe_callG (E := E0) F hgd hr hg hm hk hb hd ha hdb he hpl).imp (call_imp hdd hn)
theorem pe_callG0 {sp : Sp} (F : FnG X.prog X.w X.K X.mg X.base k f fd ps sp) (hgd : X.A.guards = some []) (hr : Room k X.A) (hg : Gl X x) (hm : X.mg x = some (.ref f)) (hk : PySem.W.keepIn X.K (.ref f) = true) (hb : Binds X.K fd ps ds) (hd : Vals dvs ds)
    (hdb : (x == ("__debug__" : Str)) = false := by decide) : PE X (.Call (.Name x p) [] [] pos) (tCall sp dvs E tNil) :=
  ⟨fun pins s σ H Q I h => wpAny_Call_Name_kw (ld_glob I hg hm (PySem.W.callWith_K0 I.kIn hk (run_fnG F hgd hr hb hd I .nil h)) hdb)⟩
theorem de_callG0 (F : FnG X.prog X.w X.K X.mg X.base k f fd ps (FnS X.K ct n fm)) (hgd : X.A.guards = some []) (hr : Room k X.A) (hm : X.mg x = some (.ref f)) (hk : PySem.W.keepIn X.K (.ref f) = true) (hb : Binds X.K fd ps ds) (hd : Vals dvs ds)
    (hdd : ∀ mu F, RpAll ⟨X.K, ct, mu⟩ F dvs dd) (hn : ∀ ds M o, fm ds M = some o → ds.length = n) (hg : Gl X x := by rfl) (hdb : (x == ("__debug__" : Str)) = false := by decide) :
    PE X (.Call (.Name x p) [] [] pos) (tE X.K ct (eCall fm dd aNil)) := (pe_callG0 (E := E0) F hgd hr hg hm hk hb hd hdb).imp fun σ H Q h => tA_nil_imp σ H _ (call_imp (E := E0) hdd hn σ H Q h)

/-! ### f(g(..), ..): the new list is a shared object while f runs -/
def eBag (fm : FM) (dd : List D) (ge : EM) (fa : AM) : EM := fun ε => (ge ε).bind fun g => match g.1 with
  | .new m => (fa g.2).bind fun r => (escL r.2 r.1).bind fun q => if noPM q.2.M.length m = true ∧ noPL q.2.M.length (q.1 ++ dd) = true ∧ q.2.M.all (noPM q.2.M.length) = true then
      (fm (.ptr q.2.M.length :: (q.1 ++ dd)) (q.2.M ++ [m])).bind fun o => match o.1 with
        | .d x => if noP q.2.M.length x = true ∧ o.2.length = q.2.M.length + 1 ∧ (o.2.take q.2.M.length).all (noPM q.2.M.length) = true then some (.d x, { q.2 with M := o.2.take q.2.M.length }) else none
        | _ => none
      else none
  | _ => none
theorem eBag_some {ge : EM} {ε : SE} {r : Val × SE} (h : eBag fm dd ge fa ε = some r) :
    ∃ m ε1 ra q x o, ge ε = some (.new m, ε1) ∧ fa ε1 = some ra ∧ escL ra.2 ra.1 = some q ∧ noPM q.2.M.length m = true ∧ noPL q.2.M.length (q.1 ++ dd) = true ∧ q.2.M.all (noPM q.2.M.length) = true ∧
      fm (.ptr q.2.M.length :: (q.1 ++ dd)) (q.2.M ++ [m]) = some (.d x, o) ∧ noP q.2.M.length x = true ∧ o.length = q.2.M.length + 1 ∧ (o.take q.2.M.length).all (noPM q.2.M.length) = true ∧ r = (.d x, { q.2 with M := o.take q.2.M.length }) := by
  unfold eBag at h
  cases e1 : ge ε with
  | none => simp [e1] at h
  | some g =>
    obtain ⟨g1, ε1⟩ := g
    simp only [e1, Option.bind_some] at h
    cases g1 with
    | d _ => cases h
    | old _ => cases h
    | new m =>
      dsimp only at h
      cases e2 : fa ε1 with
      | none => simp [e2] at h
      | some ra =>
        simp only [e2, Option.bind_some] at h
        cases e3 : escL ra.2 ra.1 with
        | none => simp [e3] at h
        | some q =>
          simp only [e3, Option.bind_some] at h
          split at h
          · rename_i hc
            cases e4 : fm (.ptr q.2.M.length :: (q.1 ++ dd)) (q.2.M ++ [m]) with
            | none => simp [e4] at h
            | some o =>
              obtain ⟨o1, o2⟩ := o
              simp only [e4, Option.bind_some] at h
              cases o1 with
              | new _ => cases h
              | old _ => cases h
              | d x =>
                dsimp only at h
                split at h
                · rename_i hc2
                  cases h
                  exact ⟨m, ε1, ra, q, x, o2, rfl, e2, e3, hc.1, hc.2.1, hc.2.2, e4, hc2.1, hc2.2.1, hc2.2.2, rfl⟩
                · cases h
          · cases h
theorem bag_imp {K : PySem.W.Frag} {ge : EM} (hd : ∀ mu F, RpAll ⟨K, ct, mu⟩ F dvs dd) (hn : ∀ ds M o, fm ds M = some o → ds.length = n) (σ : L2.St) (H : Hp) (Q : VK)
    (h : tE K ct (eBag fm dd ge fa) σ H Q) : tCall (FnS K ct n fm) dvs E (tCons (tE K ct ge) (tA K ct fa)) σ H Q := by
  obtain ⟨mu, ow, ε, val, ε', S, hf, k⟩ := h
  obtain ⟨m, ε1, ra, q, xd, o, e1, e2, e3, e4, e5, e6, e7, e8, e9, e10, e11⟩ := eBag_some hf
  cases e11
  refine ⟨mu, ow, ε, .new m, ε1, S, e1, fun v H1 ow1 S1 fr1 r1 => ⟨mu, ow1, ε1, ra.1, ra.2, S1, e2, fun vs H2 ow2 S2 fr2 r2 => ?_⟩⟩
  obtain ⟨a, rfl, ht1, h0, ho1⟩ := r1
  obtain ⟨oa, hoa⟩ := ObjR.has ho1
  obtain ⟨ht2, hoa2⟩ := fr2.ke a oa _ hoa ht1 (.inl rfl)
  obtain ⟨ow3, S3, fr3, r3⟩ := VRs.esc S2 r2 e3
  obtain ⟨ht3, _⟩ := fr3.ke a oa _ hoa2 ht2 (.inl rfl)
  have ho3 : ObjR ⟨K, ct, mu⟩ (cut H2 ow3) H2 a m := ObjR.mono ho1 (fr2.trans fr3).sub fun o' e => by rw [hoa] at e; cases e; exact hoa2
  let nn := q.2.M.length
  let ow4 : OwF := setO ow3 a (some (.obj nn))
  have c4 : cut H2 ow4 = cut H2 ow3 := by
    funext b
    by_cases hb : b = a
    · subst hb
      unfold cut
      rw [show ow4 b = some (.obj nn) from setO_same, ht3]
    · unfold cut
      rw [show ow4 b = ow3 b from setO_ne hb]
  have S4 : Sim ⟨K, ct, mu⟩ ow4 q.2 σ H2 := S3.move (by rw [c4]; exact Sub.refl _) fun b o' w hb ew hw => by
    have nb : b ≠ a := by
      rintro rfl
      rw [ht3] at ew; cases ew
      rcases hw with ⟨_, z⟩ | ⟨_, z⟩ <;> cases z
    exact ⟨by rw [show ow4 b = ow3 b from setO_ne nb]; exact ew, hb⟩
  have r4 : RpAll ⟨K, ct, mu⟩ (cut H2 ow3) (vs ++ dvs) (q.1 ++ dd) := RpAll.sub0 hd r3
  let mu' : Nat → Option Addr := fun j => if j = nn then some a else mu j
  have hmu : ∀ j, j ≠ nn → mu j = mu' j := fun j hj => by show mu j = if j = nn then some a else mu j; rw [if_neg hj]
  have hmu2 : ∀ j, j ≠ nn → mu' j = mu j := fun j hj => (hmu j hj).symm
  have hmn : mu' nn = some a := if_pos rfl
  have frA : Fr ow H ow4 H2 := by
    have fr := (fr1.trans fr2).trans fr3
    have ne : ∀ b o', H b = some o' → ow4 b = ow3 b := fun b o' hb => setO_ne (ne_of_none hb h0)
    exact ⟨fun b o' hb e => by rw [ne b o' hb]; exact fr.fz b o' hb e, fun b o' w hb e z => by rw [ne b o' hb]; exact fr.ke b o' w hb e z, fr.tr, fun b o' j hb e => by rw [ne b o' hb]; exact fr.ob b o' j hb e⟩
  have e7' := hn _ _ _ e7
  refine ⟨?_, mu', extO ow4, .ptr nn :: (q.1 ++ dd), q.2.M ++ [m], (.d xd, o), extO_noLoc _, ?_, ?_, e7, fun v H' ow' M' fr rv => ?_⟩
  · rw [List.length_cons] at e7'
    rw [List.cons_append, List.length_cons, r4.length]; exact e7'
  · rw [cut_ext, c4]
    exact .cons (.ptr hmn) (r4.mu hmu e5)
  · intro j mm hj
    by_cases hjl : j < q.2.M.length
    · rw [List.getElem?_append_left hjl] at hj
      obtain ⟨p', h1, h2, h3⟩ := S4.mo j mm hj
      have hjn : j ≠ nn := Nat.ne_of_lt hjl
      refine ⟨p', (hmu j hjn).symm.trans h1, extO_obj.mpr h2, ?_⟩
      rw [cut_ext]
      exact ObjR.mu hmu h3 (List.all_eq_true.mp e6 mm (List.mem_of_getElem? hj))
    · rw [List.getElem?_append_right (by omega)] at hj
      have hj0 : j = nn := by
        have := (List.getElem?_eq_some_iff.mp hj).1
        simp only [List.length_singleton] at this
        omega
      subst hj0
      simp only [nn, Nat.sub_self, List.getElem?_cons_zero, Option.some.injEq] at hj
      subst hj
      refine ⟨a, hmn, extO_obj.mpr setO_same, ?_⟩
      rw [cut_ext, c4]
      exact ObjR.mu hmu ho3 e4
  · have M5 : MSim ⟨K, ct, mu⟩ ow' (o.take nn) H' := fun j mm hj => by
      have hjl : j < nn := by
        have := (List.getElem?_eq_some_iff.mp hj).1
        rw [List.length_take] at this
        omega
      have hj2 : o[j]? = some mm := by rw [List.getElem?_take_of_lt hjl] at hj; exact hj
      obtain ⟨p', h1, h2, h3⟩ := M' j mm hj2
      exact ⟨p', (hmu j (Nat.ne_of_lt hjl)).trans h1, h2, ObjR.mu hmu2 h3 (List.all_eq_true.mp e10 mm (List.mem_of_getElem? hj))⟩
    obtain ⟨S6, fr6, s6⟩ := call_back S4 (by rw [List.length_take]; omega) M5 fr
    exact k v H' _ S6 (frA.trans fr6) (Rp.mono s6 (Rp.mu hmu2 rv e8))
theorem de_bagG {ge : EM} (F : FnG X.prog X.w X.K X.mg X.base k f fd ps (FnS X.K ct n fm)) (hgd : X.A.guards = some []) (hr : Room k X.A) (hm : X.mg x = some (.ref f)) (hk : PySem.W.keepIn X.K (.ref f) = true) (hb : Binds X.K fd ps ds) (hd : Vals dvs ds)
    (hdd : ∀ mu F, RpAll ⟨X.K, ct, mu⟩ F dvs dd) (hn : ∀ ds M o, fm ds M = some o → ds.length = n) (hge : PE X e (tE X.K ct ge)) (ha : PA X es (tA X.K ct fa)) (hg : Gl X x := by rfl)
    (hdb : (x == ("__debug__" : Str)) = false := by decide) (he : starEach (e :: es) X.env = (false, eval e X.env) :: starEach es X.env := by rfl) (hpl : (backTo pos (starEach es X.env)).any (·.1) = false := by rfl) :
    PE X (.Call (.Name x p) (e :: es) [] pos) (tE X.K ct (eBag fm dd ge fa)) := (pe_callG (E := E0) F hgd hr hg hm hk hb hd (pa_cons hge ha he) hdb he hpl).imp (bag_imp hdd hn)
theorem de_bag {ge : EM} (F : FnOk X.prog X.w X.K X.mg X.base CX0 k f fd ps (FnS X.K ct n fm)) (hr : Room k X.A) (hm : X.mg x = some (.ref f)) (hk : PySem.W.keepIn X.K (.ref f) = true) (hb : Binds X.K fd ps ds) (hd : Vals dvs ds)
    (hdd : ∀ mu F, RpAll ⟨X.K, ct, mu⟩ F dvs dd) (hn : ∀ ds M o, fm ds M = some o → ds.length = n) (hge : PE X e (tE X.K ct ge)) (ha : PA X es (tA X.K ct fa)) (hg : Gl X x := by rfl)
    (hdb : (x == ("__debug__" : Str)) = false := by decide) (he : starEach (e :: es) X.env = (false, eval e X.env) :: starEach es X.env := by rfl) (hpl : (backTo pos (starEach es X.env)).any (·.1) = false := by rfl) :
    PE X (.Call (.Name x p) (e :: es) [] pos) (tE X.K ct (eBag fm dd ge fa)) := (pe_call (E := E0) F hr hg hm hk hb hd pass0 (pa_cons hge ha he) hdb he hpl).imp (bag_imp hdd hn)
end
end KD

set_option maxHeartbeats 4000000
namespace KD
open PySem PySem.Spec PyProof.Rows L2
/-! ### calls with keywords -/
def pick {α : Type} (is : List Nat) (l : List α) : List α := is.filterMap fun i => l[i]?
theorem RpAll.pick {Γ : Gam} {F : Hp} {vs : List V} {ds : List D} (r : RpAll Γ F vs ds) : ∀ is : List Nat, RpAll Γ F (KD.pick is vs) (KD.pick is ds)
  | [] => .nil
  | i :: is => by
    unfold KD.pick
    cases e : ds[i]? with
    | none =>
      have e2 : vs[i]? = none := by rw [List.getElem?_eq_none_iff] at e ⊢; rw [r.length]; exact e
      rw [List.filterMap_cons_none e2, List.filterMap_cons_none e]
      exact RpAll.pick r is
    | some d =>
      obtain ⟨v, q1, q2⟩ := r.get e
      rw [List.filterMap_cons_some q1, List.filterMap_cons_some e]
      exact .cons q2 (RpAll.pick r is)
theorem vals_at : ∀ {vs : List V} {us : List Value} (i : Nat), Vals vs us → (vs[i]? = none ∧ us[i]? = none) ∨ ∃ v u, vs[i]? = some v ∧ us[i]? = some u ∧ RelV v u
  | _, _, _, .nil => .inl ⟨rfl, rfl⟩
  | _, _, 0, .cons r _ => .inr ⟨_, _, rfl, rfl, r⟩
  | _, _, i + 1, .cons _ t => by simpa using vals_at i t
theorem vals_pick {vs : List V} {us : List Value} (r : Vals vs us) : ∀ is : List Nat, Vals (KD.pick is vs) (KD.pick is us)
  | [] => .nil
  | i :: is => by
    unfold KD.pick
    rcases vals_at i r with ⟨q1, q2⟩ | ⟨v, u, q1, q2, q3⟩
    · rw [List.filterMap_cons_none q1, List.filterMap_cons_none q2]
      exact vals_pick r is
    · rw [List.filterMap_cons_some q1, List.filterMap_cons_some q2]
      exact .cons q3 (vals_pick r is)
section
variable {X : Cx} {ct : Nat → Addr} {Γ : Gam}
theorem _root_.L2.PK.imp {kws : List Keyword} {t t' : TA} (h : PK X kws t) (i : ∀ σ H Q, t' σ H Q → t σ H Q) : PK X kws t' := ⟨fun pos pins s σ H Q I q => h.run pos pins s σ H Q I (i σ H Q q)⟩
theorem dk_nil : PK X [] (tA X.K ct aNil) := pk_nil.imp fun σ H Q h => tA_nil_imp σ H Q h
theorem cons_imp {K : PySem.W.Frag} {f : EM} {g : AM} (σ : L2.St) (H : Hp) (Q : List V → Hp → Prop) (h : tA K ct (aCons f g) σ H Q) : tCons (tE K ct (fzE f)) (tA K ct g) σ H Q := by
  obtain ⟨mu, ow, ε, vals, ε', S, hf, k⟩ := h
  obtain ⟨ra, rb, e1, e2, e3⟩ := aCons_some hf
  cases e3
  refine ⟨mu, ow, ε, ra.1, ra.2, S, e1, fun x H1 ow1 S1 fr1 r1 => ⟨mu, ow1, ra.2, rb.1, rb.2, S1, e2, fun xs H2 ow2 S2 fr2 r2 => k (x :: xs) H2 ow2 S2 (fr1.trans fr2) ⟨?_, r2⟩⟩⟩
  obtain ⟨va, ha, hv⟩ := fzE_some e1
  rw [hv] at r1 ⊢
  rw [fzv_fzv]
  exact r1.carry fr2
theorem dk_cons {nm : Option Str} {kpos : Pos} {e : Expr} {kws : List Keyword} {f : EM} {g : AM} (h : PE X e (tE X.K ct f)) (h2 : PK X kws (tA X.K ct g)) : PK X (⟨nm, e, kpos⟩ :: kws) (tA X.K ct (aCons f g)) := (pk_cons (de_fz h) h2).imp cons_imp
/-- n positional values, m by names; is: the places, in the parameters' order, in the row of all three -/
def eKw (n m : Nat) (is : List Nat) (fm : FM) (dd : List D) (fa fk : AM) : EM := fun ε => (fa ε).bind fun r => (fk r.2).bind fun q => if r.1.length = n ∧ q.1.length = m then
  (escL q.2 (r.1 ++ q.1)).bind fun z => (fm (pick is (z.1 ++ dd)) z.2.M).bind fun o => if o.2.length = z.2.M.length then some (o.1, { z.2 with M := o.2 }) else none else none
theorem eKw_some {n m : Nat} {is : List Nat} {fm : FM} {dd : List D} {fa fk : AM} {ε : SE} {w : Val × SE} (h : eKw n m is fm dd fa fk ε = some w) : ∃ r q z o, fa ε = some r ∧ fk r.2 = some q ∧ r.1.length = n ∧ q.1.length = m ∧ escL q.2 (r.1 ++ q.1) = some z ∧
    fm (pick is (z.1 ++ dd)) z.2.M = some o ∧ o.2.length = z.2.M.length ∧ w = (o.1, { z.2 with M := o.2 }) := by
  unfold eKw at h
  cases e1 : fa ε with
  | none => simp [e1] at h
  | some r =>
    simp only [e1, Option.bind_some] at h
    cases e2 : fk r.2 with
    | none => simp [e2] at h
    | some q =>
      simp only [e2, Option.bind_some] at h
      split at h
      · rename_i hc
        cases e3 : escL q.2 (r.1 ++ q.1) with
        | none => simp [e3] at h
        | some z =>
          simp only [e3, Option.bind_some] at h
          cases e4 : fm (pick is (z.1 ++ dd)) z.2.M with
          | none => simp [e4] at h
          | some o =>
            simp only [e4, Option.bind_some] at h
            split at h
            · rename_i hl
              cases h
              exact ⟨r, q, z, o, rfl, e2, hc.1, hc.2, e3, e4, hl, rfl⟩
            · cases h
      · cases h
theorem VRs.append {ow : OwF} {σ : L2.St} {H H0 : Hp} : ∀ {vs zs : List V} {as bs : List Val}, VRs Γ ow H0 σ H vs as → VRs Γ ow H0 σ H zs bs → VRs Γ ow H0 σ H (vs ++ zs) (as ++ bs)
  | [], _, [], _, _, h => h
  | _ :: _, _, _ :: _, _, h, q => ⟨h.1, VRs.append h.2 q⟩
  | [], _, _ :: _, _, h, _ => h.elim
  | _ :: _, _, [], _, h, _ => h.elim
theorem VRs.len {ow : OwF} {σ : L2.St} {H H0 : Hp} : ∀ {vs : List V} {as : List Val}, VRs Γ ow H0 σ H vs as → vs.length = as.length
  | [], [], _ => rfl
  | _ :: _, _ :: _, h => congrArg Nat.succ (VRs.len h.2)
  | [], _ :: _, h => h.elim
  | _ :: _, [], h => h.elim
theorem kw_imp {K : PySem.W.Frag} {n m j : Nat} {is : List Nat} {fm : FM} {dvs : List V} {dd : List D} {fa fk : AM} {E : XK} (hd : ∀ mu F, RpAll ⟨K, ct, mu⟩ F dvs dd) (hn : ∀ ds M o, fm ds M = some o → ds.length = j) (σ : L2.St) (H : Hp) (Q : VK)
    (h : tE K ct (eKw n m is fm dd fa fk) σ H Q) : (tA K ct fa) σ H fun vs H1 => (tA K ct fk) σ H1 fun zs H2 => vs.length = n ∧ zs.length = m ∧ FnS K ct j fm (pick is (vs ++ zs ++ dvs)) H2 Q E := by
  obtain ⟨mu, ow, ε, val, ε', S, hf, k⟩ := h
  obtain ⟨r, q, z, o, e1, e2, e3, e4, e5, e6, e7, e8⟩ := eKw_some hf
  cases e8
  refine ⟨mu, ow, ε, r.1, r.2, S, e1, fun vs H1 ow1 S1 fr1 r1 => ⟨mu, ow1, r.2, q.1, q.2, S1, e2, fun zs H2 ow2 S2 fr2 r2 => ⟨by rw [VRs.len r1]; exact e3, by rw [VRs.len r2]; exact e4, ?_⟩⟩⟩
  have r1' : VRs ⟨K, ct, mu⟩ ow2 H2 σ H2 vs r.1 := VRs.carry fr2 r1
  obtain ⟨ow3, S3, fr3, r3⟩ := VRs.esc S2 (VRs.append r1' r2) e5
  have r4 := (RpAll.sub0 hd r3).pick is
  exact fn_use S3 ((fr1.trans fr2).trans fr3) r4 (by rw [r4.length]; exact hn _ _ _ e6) e6 e7 k
section
variable {CX : CXT} {k n j : Nat} {f : Addr} {fd : FuncData} {ps ks : List Str} {fm : FM} {dvs : List V} {dd : List D} {ds : List Value} {E : XK} {x : Str} {p pos : Pos} {e : Expr} {es : List Expr} {kws : List Keyword} {fa fk : AM} {is : List Nat}
/-- how such a call binds -/
def KB (K : PySem.W.Frag) (fd : FuncData) (ps : List Str) (n : Nat) (ks : List Str) (is : List Nat) (ds : List Value) (dvs : List V) : Prop := KBn K fd ps n ks (fun us ws => pick is (us ++ ws ++ ds)) (fun vs zs => pick is (vs ++ zs ++ dvs))
theorem kb_of {K : PySem.W.Frag} (hd : Vals dvs ds) (h : ∀ (s : Shared) (us ws : List Value), K.In s.heap → us.length = n → ws.length = ks.length → BindsTo s fd ⟨us, ks.zip ws⟩ (ps.zip (pick is (us ++ ws ++ ds)))) : KB K fd ps n ks is ds dvs :=
  ⟨h, fun r q => vals_pick ((r.append q).append hd) is⟩
theorem de_kw (F : FnOk X.prog X.w X.K X.mg X.base CX k f fd ps (FnS X.K ct j fm)) (hr : Room k X.A) (hm : X.mg x = some (.ref f)) (hk : PySem.W.keepIn X.K (.ref f) = true) (hb : KB X.K fd ps n ks is ds dvs) (hx : Passes CX X E)
    (hdd : ∀ mu F, RpAll ⟨X.K, ct, mu⟩ F dvs dd) (hn : ∀ ds M o, fm ds M = some o → ds.length = j) (ha : PA X (e :: es) (tA X.K ct fa)) (hkw : PK X kws (tA X.K ct fk)) (hg : Gl X x := by rfl)
    (hall : (backToKw pos (keywordEach kws X.env)).all (·.1.isSome) = true := by rfl) (hks : (backToKw pos (keywordEach kws X.env)).filterMap (·.1) = ks := by rfl)
    (hdb : (x == ("__debug__" : Str)) = false := by decide) (he : starEach (e :: es) X.env = (false, eval e X.env) :: starEach es X.env := by rfl)
    (hpl : ((backTo pos (starEach (e :: es) X.env)).any (·.1) || (backToKw pos (keywordEach kws X.env)).any (·.1.isNone)) = false := by rfl) :
    PE X (.Call (.Name x p) (e :: es) kws pos) (tE X.K ct (eKw n ks.length is fm dd fa fk)) := (pe_callN F hr hg hm hk hb hx ha hkw hall hks hdb he hpl).imp (kw_imp hdd hn)
theorem pe_callK0 {sp : Sp} {tk : TA} {g : List Value → List Value → List Value} {gV : List V → List V → List V} (F : FnOk X.prog X.w X.K X.mg X.base CX k f fd ps sp) (hr : Room k X.A) (hg : Gl X x) (hm : X.mg x = some (.ref f)) (hk : PySem.W.keepIn X.K (.ref f) = true) (hb : KBn X.K fd ps 0 ks g gV) (hx : Passes CX X E)
    (hkw : PK X kws tk) (hall : (backToKw pos (keywordEach kws X.env)).all (·.1.isSome) = true) (hks : (backToKw pos (keywordEach kws X.env)).filterMap (·.1) = ks)
    (hdb : (x == ("__debug__" : Str)) = false) (hpl : ((backTo pos (starEach [] X.env)).any (·.1) || (backToKw pos (keywordEach kws X.env)).any (·.1.isNone)) = false) :
    PE X (.Call (.Name x p) [] kws pos) (fun σ H Q => tk σ H fun zs H1 => zs.length = ks.length ∧ sp (gV [] zs) H1 Q E) := by
  refine ⟨fun pins s σ H Q I h => wpAny_Call_Name_kw (ld_glob I hg hm (PySem.W.callWith_KW0 (h₀ := X.base) I.ok.mod.kin hk hall (thn (hkw.run pos pins s σ H _ I h) fun ws s1 ⟨zs, H1, I1, rz, l1, q⟩ => ⟨I1.kIn, ?_⟩) hpl) hdb)⟩
  rw [hks]
  exact run_fnN F hr hb hx I1 .nil rz rfl l1 q
theorem de_kw0 (F : FnOk X.prog X.w X.K X.mg X.base CX k f fd ps (FnS X.K ct j fm)) (hr : Room k X.A) (hm : X.mg x = some (.ref f)) (hk : PySem.W.keepIn X.K (.ref f) = true) (hb : KB X.K fd ps 0 ks is ds dvs) (hx : Passes CX X E)
    (hdd : ∀ mu F, RpAll ⟨X.K, ct, mu⟩ F dvs dd) (hn : ∀ ds M o, fm ds M = some o → ds.length = j) (hkw : PK X kws (tA X.K ct fk)) (hg : Gl X x := by rfl)
    (hall : (backToKw pos (keywordEach kws X.env)).all (·.1.isSome) = true := by rfl) (hks : (backToKw pos (keywordEach kws X.env)).filterMap (·.1) = ks := by rfl)
    (hdb : (x == ("__debug__" : Str)) = false := by decide) (hpl : ((backTo pos (starEach [] X.env)).any (·.1) || (backToKw pos (keywordEach kws X.env)).any (·.1.isNone)) = false := by rfl) :
    PE X (.Call (.Name x p) [] kws pos) (tE X.K ct (eKw 0 ks.length is fm dd aNil fk)) := (pe_callK0 F hr hg hm hk hb hx hkw hall hks hdb hpl).imp fun σ H Q h => by
  have q := tA_nil_imp σ H _ (kw_imp (E := E) hdd hn σ H Q h)
  obtain ⟨mu, ow, ε, vals, ε', S, hf, k⟩ := q
  exact ⟨mu, ow, ε, vals, ε', S, hf, fun zs H1 ow1 S1 fr1 r1 => (k zs H1 ow1 S1 fr1 r1).2⟩
end
/-- C(..): a new instance -/
theorem de_make {CX : CXT} {k n c : Nat} {f : Addr} {fd : FuncData} {ps : List Str} {fm : FM} {dvs : List V} {dd : List D} {ds : List Value} {E : XK} {x : Str} {p pos : Pos} {e : Expr} {es : List Expr} {fa : AM}
    (M : Mk X.K (ct c) f) (F : FnOk X.prog X.w X.K X.mg X.base CX k f fd ps (FnS X.K ct n fm)) (hr : Room (k + 1) X.A) (hm : X.mg x = some (.ref (ct c))) (hb : Binds X.K fd ps ds) (hd : Vals dvs ds) (hx : Passes CX X E)
    (hdd : ∀ mu F, RpAll ⟨X.K, ct, mu⟩ F dvs dd) (hn : ∀ ds M o, fm ds M = some o → ds.length = n) (ha : PA X (e :: es) (tA X.K ct fa)) (hg : Gl X x := by rfl)
    (hdb : (x == ("__debug__" : Str)) = false := by decide) (he : starEach (e :: es) X.env = (false, eval e X.env) :: starEach es X.env := by rfl) (hpl : (backTo pos (starEach es X.env)).any (·.1) = false := by rfl) :
    PE X (.Call (.Name x p) (e :: es) [] pos) (tE X.K ct (eMake c fm dd fa)) := (pe_make M F hr hg hm hb hd hx ha hdb he hpl).imp (make_imp hdd hn)
end

/-! ### the law's end -/
section
variable {P : Program} {w : World} {K : PySem.W.Frag} {mg mb : Str → Option Value} {k : Nat} {fa a : Addr} {fd : FuncData} {x : Str} {sp : Sp} {s1 : Shared} {vs : List Value} {ns : List Int}
/-- the heap that tracks the script alone (or nothing, if it is the module's own) -/
def scrH (K : PySem.W.Frag) (a : Addr) (vs : List Value) (ns : List Int) : Hp := fun b => if b = a ∧ K.lookup a = none then some (.frz { cls := .type "list", data := .seq vs.toArray } (.lst (ns.map V.int))) else none
theorem scrH_some {b : Addr} {u : HO} (h : scrH K a vs ns b = some u) : b = a ∧ K.lookup a = none ∧ u = .frz { cls := .type "list", data := .seq vs.toArray } (.lst (ns.map V.int)) := by
  unfold scrH at h
  split at h
  · rename_i z; cases h; exact ⟨z.1, z.2, rfl⟩
  · cases h
theorem law_endG (KX : K.In s1.heap) (hns : s1.heap.Ns mainGlobals mg) (hb : s1.heap.Ns builtinsNs mb) (hbb : ∀ x : Str, x ≠ "__name__" → mb x = bootBuiltins x) (hlim : s1.heap.NoLimit) (hg : s1.gens = #[])
    (ha : s1.heap.get? a = some { cls := .type "list", data := .seq vs.toArray }) (hi : IntsAre vs ns) (hl : ns.length ≤ sizeLine) (hr : Room k callerA)
    (F : ∀ base : Heap, K.In base → base.Ns mainGlobals mg → FnG P w K mg base k fa fd [x] sp) (hbind : ∀ (s : Shared) (u : Value), BindsTo s fd ⟨[u], []⟩ [(x, u)])
    (hsp : ∀ H : Hp, Only H → SqL K H a (ns.map V.int) → sp [.ref a] H (fun v _ => v = .bl true) E0) :
    codeAny (model P w) callerA (.call (.ref fa) ⟨[.ref a], []⟩) (fun r s' => r = .ok (.ret (.bool true)) ∧ OldK s1.heap s'.heap ∧ s'.os = s1.os ∧ AllBare s'.gens) s1 := by
  have rv := vals_ints hi
  have lenV := hi.length
  let H : Hp := scrH K a vs ns
  have onlyH : Only H := fun b => by
    cases q : H b with
    | none => exact .inl rfl
    | some u => exact .inr ⟨_, _, congrArg some (scrH_some q).2.2⟩
  have seqH : SqL K H a (ns.map V.int) := by
    cases q : K.lookup a with
    | some o =>
      have e := KX a o q
      rw [ha] at e
      cases e
      exact .inr ⟨_, vs.toArray, _, q, rfl, rfl, rfl, by rw [List.size_toArray, lenV]; exact hl, by simpa using rv⟩
    | none => exact .inl (.inr ⟨_, if_pos ⟨rfl, q⟩⟩)
  have okH : HOk P w H s1.heap := fun b u q => by
    obtain ⟨rfl, _, rfl⟩ := scrH_some q
    exact ⟨ha, by rw [List.length_map]; exact hl, vs, _, rv, ha⟩
  have hid : ∀ {b : Addr} {o : Obj}, s1.heap.get? b = some o → (b = a → K.lookup a ≠ none ∨ ∃ es ep, o.data = .dict es ep) → (hidT s1.heap H).get? b = some o := fun {b o} e n => hidT_get e (by
    cases q : H b with
    | none => rfl
    | some u =>
      obtain ⟨rfl, z, _⟩ := scrH_some q
      rcases n rfl with n | ⟨es, ep, d⟩
      · exact absurd z n
      · rw [ha] at e
        cases e
        cases d)
  have ns' : ∀ {b : Addr} {m : Str → Option Value}, s1.heap.Ns b m → (hidT s1.heap H).Ns b m := fun ⟨o, es, ep, e, d, r⟩ => ⟨o, es, ep, hid e fun _ => .inr ⟨es, ep, d⟩, d, r⟩
  have kIn' : K.In (hidT s1.heap H) := fun b o e => hid (KX b o e) fun z => .inl (by rw [← z, e]; simp)
  have e0 : Env0 P w K mg (hidT s1.heap H) callerA [] s1 H := ⟨rfl, ⟨kIn', ns' hns, ⟨mb, ns' hb, hbb⟩, hlim.elim fun mc h => ⟨mc, ns' h.1, h.2⟩⟩, fun b o e => of_hidT e, Nat.le_of_eq (hidT_size _ _), trivial, fun b z => (nomatch (show b ∈ ([] : List Addr) from z)), okH, .of_eq hg⟩
  refine codeAny_mono ((F _ kIn' (ns' hns)).run callerA [] s1 H ⟨[.ref a], []⟩ [.ref a] [.ref a] _ _ rfl hr e0 (hbind s1 (.ref a)) (.cons rfl .nil) (hsp H onlyH seqH)) fun r s' h => ?_
  match r, h with
  | .ok (.ret u), ⟨v, H', os, bare, un, hok', r', q⟩ =>
    cases (show v = .bl true from q)
    cases (show u = Value.bool true from r')
    refine ⟨rfl, OldK.of_keep fun b o e => ?_, os, bare⟩
    cases z : H b with
    | none => exact un.keep b o e z (fun y => (nomatch (show b ∈ ([] : List Addr) from y))) (by simp)
    | some u =>
      obtain ⟨rfl, _, rfl⟩ := scrH_some z
      obtain ⟨e1, _⟩ := okH b _ z
      obtain ⟨e2, _⟩ := hok' b _ (un.frzs b _ _ z)
      rw [e] at e1
      cases e1
      exact e2
end
/-- the goal that the head leaves -/
theorem walk_endG {l : PySem.W.OpenLaw} {n k : Nat} {q : Program} {loose : List Str} {XP : (Str → Option Value) → Heap → Prop} {YP : World → Heap → Prop} {d : DefRec} {x : Str} (hn : l.most = some n) (hn2 : n ≤ sizeLine) (hdf : d.params.defaults = []) (hr : Room k callerA)
    (F : ∀ (w : World) (mg : Str → Option Value) (fa : Addr) (h : Heap), YP w h → h.Ns mainGlobals mg → mg d.name = some (.ref fa) →
      ∃ (K : PySem.W.Frag) (fd : FuncData) (sp : Sp), K.In h ∧ (∀ (s : Shared) (u : Value), BindsTo s fd ⟨[u], []⟩ [(x, u)]) ∧
        (∀ (H : Hp) (a : Addr) (ns : List Int), ns.length ≤ n → Only H → SqL K H a (ns.map V.int) → sp [.ref a] H (fun v _ => v = .bl true) E0) ∧
        ∀ base : Heap, K.In base → base.Ns mainGlobals mg → FnG l.prog w K mg base k fa fd [x] sp) :
    PySem.W.WalkO q loose XP YP l.row.toRowW d [] (fun f vs => PySem.call f vs) := Att.attach_call hn hdf fun w s₀ s1 mg mb fa o pm cd doc a vs ns G Y ho hd hcd hmg hobj hints hlen hg => by
  obtain ⟨K, fd, sp, KX, hb, hsp, hF⟩ := F w mg fa _ Y G.T.g hmg
  exact law_endG KX G.T.g G.T.b G.T.builtins G.T.nolimit hg hobj hints (Nat.le_trans hlen hn2) hr hF hb fun H hO hS => hsp H a ns hlen hO hS
/-- the law's promise, from what its mirror answers -/
theorem law_sp {K : PySem.W.Frag} {ct : Nat → Addr} {fm : FM} {H : Hp} {a : Addr} {ns : List Int} (hl : ns.length ≤ 63) (hS : SqL K H a (ns.map V.int)) (h : fm [.scr ns] [] = some (.d (.bl true), [])) :
    FnS K ct 1 fm [.ref a] H (fun v _ => v = .bl true) E0 := by
  refine ⟨rfl, fun _ => none, fun _ => none, [.scr ns], [], _, (fun a w z => by cases z), .cons (.scr ?_ (by omega)) .nil, (fun n m z => by simp at z), h, fun v H' ow' M' fr rv => ?_⟩
  · have e : cut H (fun _ => none) = H := by funext b; rfl
    rw [e]; exact hS
  · cases rv; rfl
end KD

set_option maxHeartbeats 4000000
namespace KD
open PySem PySem.Spec PyProof.Rows L2
section
variable {X : Cx} {ct : Nat → Addr} {Γ : Gam} {K : PySem.W.Frag}
/-! ### list displays with a walk -/
theorem yes_imp (σ : L2.St) (H : Hp) (Q : Bool → Hp → Prop) (h : tT K ct yesB σ H Q) : tYes σ H Q := by
  obtain ⟨mu, ow, ε, b, ε', S, hf, k⟩ := h
  cases hf
  exact k H ow S Fr.refl
theorem _root_.L2.PTs.imp {X : Cx} {e : List Expr} {t t' : TT} (h : PTs X e t) (i : ∀ σ H Q, t' σ H Q → t σ H Q) : PTs X e t' :=
  ⟨fun pins s σ H Q I q => h.run pins s σ H Q I (i σ H Q q)⟩
theorem dts_nil : PTs X [] (tT X.K ct yesB) := pts_nil.imp yes_imp
theorem de_lc {elt tg iter : Expr} {ifs : List Expr} {scope : Scope} {own : List (Str × Nat)} {pos : Pos} {us : List Nat} {fi : IM} {g : TG} {gD : GM} {tt : BM} {te : EM} (hc : X.calm = true) (hN : X.N.Nodup) (hi : PI X tg iter (tI X.K ct fi)) (ok : BlkOk X.N X.env.scope scope own)
    (ht0 : TgS X.K ct us g gD) (hus : ∀ i ∈ us, i ∈ own.map (·.2))
    (hg : ∀ (s : Shared) (H : Hp) (C : Addr) (cl : List (Str × Addr)) (fp : List Addr), PG (X.blk s H scope (compEnvC scope cl C X.env) fp) tg g) (ht : ∀ (s : Shared) (H : Hp) (C : Addr) (cl : List (Str × Addr)) (fp : List Addr), PTs (X.blk s H scope (compEnvC scope cl C X.env) fp) ifs (tT X.K ct tt))
    (he : ∀ (s : Shared) (H : Hp) (C : Addr) (cl : List (Str × Addr)) (fp : List Addr), PE (X.blk s H scope (compEnvC scope cl C X.env) fp) elt (tE X.K ct te)) (hs : ∀ x, foldedSetIterable iter X.env x = pure x := by intro _; rfl) :
    PE X (.ListComp elt [⟨tg, iter, ifs, 0⟩] scope pos) (tE X.K ct (eLc fi gD tt te (own.map (·.2)))) :=
  (pe_lc hc hN hi ok hg ht (fun s H C cl fp => de_fz (X := X.blk s H scope (compEnvC scope cl C X.env) fp) (he s H C cl fp)) hs).imp (lc_imp ht0 hus)
theorem _root_.KD.asg_imp {t t' : TE} {g : TG} (i : ∀ σ H Q, t' σ H Q → t σ H Q) (E : Ends) (σ : L2.St) (H : Hp) (h : tAsg t' g E σ H) : tAsg t g E σ H := i _ _ _ h
theorem dsp_lc {i : Nat} {y : Str} {py : Pos} {elt tg iter : Expr} {ifs : List Expr} {scope : Scope} {own : List (Str × Nat)} {pos spos : Pos} {us : List Nat} {fi : IM} {g : TG} {gD : GM} {tt : BM} {te : EM} (hy : X.N[i]? = some y) (hyl : X.env.scope.names.lookup y = some .local)
    (hsw : swapsWith (.ListComp elt [⟨tg, iter, ifs, 0⟩] scope pos) (some (.Name y py)) spos.line X.env = pure true) (hc : X.calm = true) (hN : X.N.Nodup) (hi : PI X tg iter (tI X.K ct fi)) (ok : BlkOk X.N X.env.scope scope own)
    (ht0 : TgS X.K ct us g gD) (hus : ∀ i ∈ us, i ∈ own.map (·.2))
    (hg : ∀ (s : Shared) (H : Hp) (C : Addr) (cl : List (Str × Addr)) (fp : List Addr), PG (X.blk s H scope (compEnvC scope cl C X.env) fp) tg g) (ht : ∀ (s : Shared) (H : Hp) (C : Addr) (cl : List (Str × Addr)) (fp : List Addr), PTs (X.blk s H scope (compEnvC scope cl C X.env) fp) ifs (tT X.K ct tt))
    (he : ∀ (s : Shared) (H : Hp) (C : Addr) (cl : List (Str × Addr)) (fp : List Addr), PE (X.blk s H scope (compEnvC scope cl C X.env) fp) elt (tE X.K ct te)) (hs : ∀ x, foldedSetIterable iter X.env x = pure x := by intro _; rfl) :
    PS X (.Assign [.Name y py] (.ListComp elt [⟨tg, iter, ifs, 0⟩] scope pos) spos) (tAsg (tE X.K ct (eLc fi gD tt te (own.map (·.2)))) (gName i)) :=
  (ps_setLc hc hN hy hyl hsw hi ok hg ht (fun s H C cl fp => de_fz (X := X.blk s H scope (compEnvC scope cl C X.env) fp) (he s H C cl fp)) hs).imp (asg_imp (lc_imp ht0 hus))
/-! ### x += e -/
def iaddD : D → D → Option D
  | .int i, .int j => some (.int (i + j))
  | _, _ => none
theorem is_add : IpS K ct (ipI fun i j => i + j) iaddD := fun mu F H x y d e z Q sb rx ry h k => by
  unfold iaddD at h
  split at h
  · cases h
    cases rx
    rw [ry.int]
    exact ⟨_, _, rfl, rfl, k _ (.int _)⟩
  · cases h
end
/-! ### the head's facts by names -/
section
variable {fa : List He.Fa} {fn : List He.DefD} {ts : List He.Tab} {tf : List He.Defn} {ex : PySem.W.Frag → Bool} {w : World} {h : Heap} {K : PySem.W.Frag} {mg : Str → Option Value}
theorem sx_fact (c : He.SaysX fa fn ts tf ex w h K) {f : He.Fa} (hf : f ∈ fa) : f.ok K = true := c.t.d.facts hf
noncomputable def fdOf (K : PySem.W.Frag) (d : He.DefD) : FuncData := open Classical in
  if e : ∃ fd, FunD K d.name d.qual d.params d.body d.scope (d.dvs K) (d.kws K) (He.fAd K d.at_) fd then e.choose else PySem.W.fnOf d.name d.qual d.params d.body d.scope .none .none .none .none none .none .none
theorem sx_def (c : He.SaysX fa fn ts tf ex w h K) {d : He.DefD} (hd : d ∈ fn) : FunD K d.name d.qual d.params d.body d.scope (d.dvs K) (d.kws K) (He.fAd K d.at_) (fdOf K d) := by
  have e := c.t.d.defs hd
  unfold fdOf
  rw [dif_pos e]
  exact e.choose_spec
end
end KD

set_option maxHeartbeats 4000000
namespace KD
open PySem PySem.Spec PyProof.Rows L2
section
variable {K : PySem.W.Frag}
/-! ### how calls bind -/
theorem fd_kb {x qual : Str} {params : Arguments} {body : List Stmt} {scope : Scope} {kws : List (Str × V)} {f : Addr} {fd : FuncData} {ps ks : List Str} {n : Nat} {is : List Nat} (F : FunD K x qual params body scope [] kws f fd)
    (h : ∀ (kV doc pm : Value) (an : Option Addr) (cdv ct : Value) (us ws : List Value), us.length = n → ws.length = ks.length → bindArgs (PySem.W.fnOf x qual params body scope .none kV doc pm an cdv ct) ⟨us, ks.zip ws⟩ = pure (ps.zip (pick is (us ++ ws ++ [])))) : KB K fd ps n ks is [] [] := by
  obtain ⟨oc, od, dV, kV, doc, pm, an, cdv, ct, osl, rfl, lk, hcd, hD, hK⟩ := F.ex
  rcases hD with ⟨_, rfl⟩ | ⟨e, _⟩
  · exact kb_of .nil fun s us ws X hu hw => .of_eq (h kV doc pm an cdv ct us ws hu hw)
  · exact absurd rfl e
/-! ### classes -/
def clsB (K : PySem.W.Frag) (x : Str) : Bool := He.eqO (PySem.W.findIn K (.ref (He.ga K x)) "__class__") (some (some (.builtin "object.__class__"))) && (He.eqO (PySem.W.specialIn K (.builtin "object.__class__") "__get__") (some (some (.builtin "getset_descriptor.__get__")))
  && (decide (PySem.W.takesIn K (.builtin "object.__class__") = some true) && decide (PySem.W.mroIn K (He.ga K x) (.type "object") = some true)))
theorem clsB_ok {x : Str} (h : clsB K x = true) (c : Cls K (He.ga K x)) : IsC K (He.ga K x) := by
  unfold clsB at h
  simp only [Bool.and_eq_true] at h
  exact ⟨c, He.eqO_ok h.1, He.eqO_ok h.2.1, of_decide_eq_true h.2.2.1, of_decide_eq_true h.2.2.2⟩
def kit2B (K : PySem.W.Frag) (x y : Str) (b : Bool) : Bool := decide (PySem.W.kitOne K (.ref (He.ga K x)) (.ref (He.ga K y)) = some b)
theorem kit2B_ok {x y : Str} {b : Bool} (h : kit2B K x y b = true) : PySem.W.kitOne K (.ref (He.ga K x)) (.ref (He.ga K y)) = some b := of_decide_eq_true h
def kitTB (K : PySem.W.Frag) (y : Str) : Bool := tyNames.all (fun n => decide (PySem.W.kitOne K (.type n) (.ref (He.ga K y)) = some false))
end
end KD
namespace KD
open PySem PySem.Spec PyProof.Rows L2
def blkB (N : List Str) (sc scope : Scope) (own : List (Str × Nat)) : Bool := (match scope.kind with | .function => true | _ => false) && (scope.names.all (fun y => decide (scope.names.lookup y.1 = some y.2)) && (own.all (fun p => decide (N[p.2]? = some p.1)) &&
  (scope.names.all (fun y => !decide (y.2 = .free) || (decide (sc.names.lookup y.1 = some .cell) || decide (sc.names.lookup y.1 = some .free))) && scope.names.all (fun y => !(decide (y.2 = .local) || decide (y.2 = .cell)) || ((own.map (·.1)).contains y.1 || !N.contains y.1)))))
theorem blk_of {N : List Str} {sc scope : Scope} {own : List (Str × Nat)} (h : blkB N sc scope own = true) : BlkOk N sc scope own := by
  unfold blkB at h
  simp only [Bool.and_eq_true, List.all_eq_true, Bool.or_eq_true, Bool.not_eq_true', decide_eq_true_eq, decide_eq_false_iff_not, Bool.or_eq_false_iff] at h
  obtain ⟨h1, h2, h3, h4, h5⟩ := h
  refine ⟨?_, h2, h3, fun y hy e => (h4 y hy).elim (fun z => absurd e z) id, fun y hy e => ?_⟩
  · cases z : scope.kind <;> first | rfl | (rw [z] at h1; cases h1)
  · rcases h5 y hy with z | z | z
    · rcases e with e | e
      · exact absurd e z.1
      · exact absurd e z.2
    · exact .inl (by simpa using z)
    · exact .inr (by simpa using z)
end KD

set_option maxHeartbeats 4000000
namespace KD
open PySem PySem.Spec PyProof.Rows L2
section
variable {X : Cx} {ct : Nat → Addr} {Γ : Gam} {K : PySem.W.Frag}
/-! ### a op b op c -/
def blV : Val → Option Bool
  | .d (.bl b) => some b
  | _ => none
theorem blV_some {v : Val} {b : Bool} (h : blV v = some b) : v = .d (.bl b) := by
  cases v with
  | d x => cases x <;> first | (cases h; rfl) | cases h
  | _ => cases h
def eChain (g g' : D → D → Option Val) (fa fb fc : EM) : EM := fun ε => (fzE fa ε).bind fun ra => (fzE fb ra.2).bind fun rb => (ra.1.res rb.2).bind fun d => (rb.1.res rb.2).bind fun e => (g d e).bind fun v => (blV v).bind fun k =>
  if k = true then (fzE fc rb.2).bind fun rc => (rb.1.res rc.2).bind fun e' => (rc.1.res rc.2).bind fun f => (g' e' f).map fun r => (r, rc.2) else some (.d (.bl false), rb.2)
theorem eChain_some {g g' : D → D → Option Val} {fa fb fc : EM} {ε : SE} {r : Val × SE} (h : eChain g g' fa fb fc ε = some r) : ∃ ra rb d e k, fzE fa ε = some ra ∧ fzE fb ra.2 = some rb ∧ ra.1.res rb.2 = some d ∧ rb.1.res rb.2 = some e ∧ g d e = some (.d (.bl k)) ∧
    ((k = true ∧ ∃ rc e' f, fzE fc rb.2 = some rc ∧ rb.1.res rc.2 = some e' ∧ rc.1.res rc.2 = some f ∧ g' e' f = some r.1 ∧ r.2 = rc.2) ∨ (k = false ∧ r = (.d (.bl false), rb.2))) := by
  unfold eChain at h
  cases e1 : fzE fa ε with
  | none => simp [e1] at h
  | some ra =>
    simp only [e1, Option.bind_some] at h
    cases e2 : fzE fb ra.2 with
    | none => simp [e2] at h
    | some rb =>
      simp only [e2, Option.bind_some] at h
      cases e3 : ra.1.res rb.2 with
      | none => simp [e3] at h
      | some d =>
        simp only [e3, Option.bind_some] at h
        cases e4 : rb.1.res rb.2 with
        | none => simp [e4] at h
        | some e =>
          simp only [e4, Option.bind_some] at h
          cases e5 : g d e with
          | none => simp [e5] at h
          | some v =>
            simp only [e5, Option.bind_some] at h
            cases e6 : blV v with
            | none => simp [e6] at h
            | some k =>
              have := blV_some e6
              subst this
              simp only [e6, Option.bind_some] at h
              refine ⟨ra, rb, d, e, k, rfl, e2, e3, e4, e5, ?_⟩
              cases k with
              | false =>
                rw [if_neg Bool.false_ne_true] at h
                exact .inr ⟨rfl, (Option.some.inj h).symm⟩
              | true =>
                rw [if_pos rfl] at h
                refine .inl ⟨rfl, ?_⟩
                cases e7 : fzE fc rb.2 with
                | none => simp [e7] at h
                | some rc =>
                  simp only [e7, Option.bind_some] at h
                  cases e8 : rb.1.res rc.2 with
                  | none => simp [e8] at h
                  | some e' =>
                    simp only [e8, Option.bind_some] at h
                    cases e9 : rc.1.res rc.2 with
                    | none => simp [e9] at h
                    | some f =>
                      simp only [e9, Option.bind_some] at h
                      cases e10 : g' e' f with
                      | none => simp [e10] at h
                      | some w =>
                        simp only [e10, Option.map_some, Option.some.injEq] at h
                        exact ⟨rc, e', f, rfl, e8, e9, by rw [← h]; exact e10, by rw [← h]⟩
theorem fresh_bl {F H H' : Hp} {v : V} {b : Bool} (h : Fresh Γ F H v H' (.d (.bl b))) : v = .bl b ∧ H' = H := by
  cases h with
  | same r => cases r; exact ⟨rfl, rfl⟩
theorem chain_imp {r r' : R2} {g g' : D → D → Option Val} (hs : OpS K ct r g) (hs' : OpS K ct r' g') {fa fb fc : EM} (σ : L2.St) (H : Hp) (Q : VK) (h : tE K ct (eChain g g' fa fb fc) σ H Q) :
    tChain r r' (tE K ct (fzE fa)) (tE K ct (fzE fb)) (tE K ct (fzE fc)) σ H Q := by
  obtain ⟨mu, ow, ε, val, ε', S, hf, k⟩ := h
  obtain ⟨ra, rb, d, e, b, e1, e2, e3, e4, e5, e6⟩ := eChain_some hf
  refine ⟨mu, ow, ε, ra.1, ra.2, S, e1, fun x H1 ow1 S1 fr1 r1 => ⟨mu, ow1, ra.2, rb.1, rb.2, S1, e2, fun y H2 ow2 S2 fr2 r2 => ?_⟩⟩
  obtain ⟨va, ha, hv⟩ := fzE_some e1
  obtain ⟨vb, hb, hvb⟩ := fzE_some e2
  have r1' : VR ⟨K, ct, mu⟩ ow2 H1 σ H2 x ra.1 := by
    rw [hv] at r1 ⊢
    exact r1.carry fr2
  refine hs mu (cut H2 ow2) H2 x y d e _ _ cut_sub (VR.res S2 r1' e3) (VR.res S2 r2 e4) e5 fun z H3 hz => ?_
  obtain ⟨rfl, eH⟩ := fresh_bl hz
  have eH' := eH.symm
  subst eH'
  refine ⟨b, rfl, ?_⟩
  rcases e6 with ⟨rfl, rc, e', f, e7, e8, e9, e10, e11⟩ | ⟨rfl, e7⟩
  · rw [if_pos rfl]
    dsimp only at e10 e11
    subst e11
    refine ⟨mu, ow2, rb.2, rc.1, rc.2, S2, e7, fun u H4 ow4 S4 fr4 r4 => ?_⟩
    have r2' : VR ⟨K, ct, mu⟩ ow4 H2 σ H4 y rb.1 := by
      rw [hvb] at r2 ⊢
      exact r2.carry fr4
    refine hs' mu (cut H4 ow4) H4 y u e' f val Q cut_sub (VR.res S4 r2' e8) (VR.res S4 r4 e9) e10 fun v H' hv' => ?_
    obtain ⟨ow5, S5, fr5, v5⟩ := Fresh.sim S4 hv'
    exact k v H' ow5 S5 (((fr1.trans fr2).trans fr4).trans fr5) (v5.back fun p hp => ((fr1.trans fr2).trans fr4).none hp)
  · rw [if_neg Bool.false_ne_true]
    cases e7
    exact k _ H2 ow2 S2 (fr1.trans fr2) (.bl false)
theorem de_chain {op op' : CmpOp} {r r' : R2} {g g' : D → D → Option Val} {a b c : Expr} {pos : Pos} {fa fb fc : EM} (ho : OpR X (compareOp op) r) (hs : OpS X.K ct r g) (ho' : OpR X (compareOp op') r') (hs' : OpS X.K ct r' g') (ha : PE X a (tE X.K ct fa)) (hb : PE X b (tE X.K ct fb)) (hc : PE X c (tE X.K ct fc))
    (hm : lastMarks [op, op'] [b, c] = false := by with_unfolding_all rfl) : PE X (.Compare a [op, op'] [b, c] pos) (tE X.K ct (eChain g g' fa fb fc)) := (pe_chain ho ho' (de_fz ha) (de_fz hb) (de_fz hc) hm).imp (chain_imp hs hs')
theorem dt_chain {op op' : CmpOp} {r r' : R2} {g g' : D → D → Option Val} {a b c : Expr} {pos : Pos} {fa fb fc : EM} (ho : OpR X (compareOp op) r) (hs : OpS X.K ct r g) (ho' : OpR X (compareOp op') r') (hs' : OpS X.K ct r' g') (ha : PE X a (tE X.K ct fa)) (hb : PE X b (tE X.K ct fb)) (hc : PE X c (tE X.K ct fc))
    (hm : lastMarks [op, op'] [b, c] = false := by with_unfolding_all rfl) : PT X (.Compare a [op, op'] [b, c] pos) (tT X.K ct (eB (eChain g g' fa fb fc))) := (pt_chain ho ho' (de_fz ha) (de_fz hb) (de_fz hc) hm).imp (test_imp (chain_imp hs hs'))

/-! ### sep.join(texts) -/
def isStrD : D → Bool
  | .str _ => true
  | _ => false
theorem ty_str : TyS K ct "str" isStrD := fun mu F H x d sb r h => by
  cases d <;> first | (cases h; done) | skip
  obtain ⟨rfl, _⟩ := r.str
  exact (rfl : "str" = "str")
def joinOf : D → Option (List Str)
  | .lst l => strsD l
  | .tup l => strsD l
  | _ => none
def joinD : D → List D → Option Val
  | .str a, [d] => (joinOf d).bind fun ys => if (ys.map (·.length)).sum + ys.length * a.length ≤ 16777216 ∧ sOk (Txt.join a ys) = true then some (.d (.str (Txt.join a ys))) else none
  | _, _ => none
def rJoin (K : PySem.W.Frag) : V → List V → Hp → VK → Prop := fun x xs H Q => ∃ a p, ∃ ys : List Str, x = .str a ∧ xs = [.ref p] ∧ (SqL K H p (ys.map V.str) ∨ SqT K H p (ys.map V.str)) ∧ (ys.map (·.length)).sum + ys.length * a.length ≤ 16777216 ∧ Q (.str (Txt.join a ys)) H
theorem ms_join : MtS K ct "str" (rJoin K) joinD := fun mu F H x xs d ds val Q sb rx r h k => by
  unfold joinD at h
  split at h
  · rename_i a e
    cases e1 : joinOf e with
    | none => simp [e1] at h
    | some ys =>
      simp only [e1, Option.bind_some] at h
      split at h
      · rename_i hc
        cases h
        obtain ⟨rfl, _⟩ := rx.str
        obtain ⟨y, rfl, ry⟩ := pair1 r
        cases e with
        | lst l =>
          obtain ⟨p, vs, rfl, h1, h2, h3⟩ := ry.lst sb
          rw [strsD_map (show strsD l = some ys from e1)] at h2
          rw [rp_strsV h2] at h1
          exact ⟨a, p, ys, rfl, rfl, .inl (.of h1), hc.1, k _ _ (.same (.str _ hc.2))⟩
        | tup l =>
          obtain ⟨p, vs, rfl, h1, h2, h3⟩ := ry.tup
          rw [strsD_map (show strsD l = some ys from e1)] at h2
          have := rp_strsV h2
          subst this
          exact ⟨a, p, ys, rfl, rfl, .inr (sb.tupR h1).sqt, hc.1, k _ _ (.same (.str _ hc.2))⟩
        | _ => cases e1
      · cases h
  · cases h
/-! ### xs.extend(ys) -/
def extM : MO → List D → Option (MO × D)
  | .lst l, [.lst m] => if l.length + m.length ≤ 16777216 then some (.lst (l ++ m), .non) else none
  | _, _ => none
theorem ms_extend : MutS K ct rExtend extM := fun mu F H p m vs ds m' d Q sb ho r h k => by
  unfold extM at h
  split at h
  · rename_i l x
    split at h
    · rename_i hl
      cases h
      obtain ⟨us, h1, h2, h3⟩ := ho
      cases r with
      | cons rx rt =>
        cases rt
        cases rx with
        | lst hb rb lb =>
          refine ⟨p, _, us, _, rfl, rfl, h1, sb _ _ hb, by rw [h2.length, rb.length, sizeLine_eq]; exact hl, k _ _ ⟨_, upd_same, h2.append rb, ?_⟩ .non⟩
          rw [List.length_append]; exact hl
    · cases h
  · cases h
end
end KD

set_option maxHeartbeats 4000000
namespace KD
open PySem PySem.Spec PyProof.Rows L2
section
variable {X : Cx} {ct : Nat → Addr} {Γ : Gam} {K : PySem.W.Frag}
/-! ### xs.index(x) of a list -/
def isLstD : D → Bool
  | .lst _ => true
  | _ => false
theorem ty_list : TyS K ct "list" isLstD := fun mu F H x d sb r h => by
  cases d <;> first | (cases h; done) | skip
  obtain ⟨a, vs, rfl, h1, _⟩ := r.lst sb
  exact .inl ⟨rfl, vs, SqL.of h1⟩
def lixD : D → List D → Option Val
  | .lst l, [d] => if (okD (.lst l) && okD d) = true then (l.findIdx? fun z => eqd z d).map fun j => .d (.int (j : Nat)) else none
  | _, _ => none
theorem toPyL_get : ∀ (l : List D) (i : Nat), (toPyL l)[i]? = (l[i]?).map toPy
  | [], _ => by simp [toPyL]
  | d :: l, 0 => rfl
  | d :: l, i + 1 => by
    show (toPyL l)[i]? = _
    rw [toPyL_get l i]
    rfl
theorem ms_lix : MtS K ct "list" (rIndexD K) lixD := fun mu F H x xs d ds val Q sb rx r h k => by
  unfold lixD at h
  split at h
  · rename_i l e
    split at h
    · rename_i hc
      rw [Bool.and_eq_true] at hc
      cases e2 : l.findIdx? (fun z => eqd z e) with
      | none => rw [e2] at h; cases h
      | some j =>
        rw [e2] at h
        cases h
        obtain ⟨y, rfl, ry⟩ := pair1 r
        obtain ⟨q1, q2⟩ := okD_shaped (rx.up sb) hc.1
        obtain ⟨q3, q4⟩ := okD_shaped (ry.up sb) hc.2
        obtain ⟨a, vs, rfl, _⟩ := rx.lst sb
        obtain ⟨hj, hz, hno⟩ := List.findIdx?_eq_some_iff_getElem.mp e2
        refine ⟨a, y, toPy e, toPyL l, j, toPy l[j], rfl, rfl, q1, q3, q2, q4, by rw [toPyL_get, List.getElem?_eq_getElem hj]; rfl, hz, fun m z' hm hz' => ?_, k _ _ (.same (.int _))⟩
        have hml : m < l.length := by omega
        rw [toPyL_get, List.getElem?_eq_getElem hml] at hz'
        cases hz'
        have := hno m hm
        simpa [eqd] using this
    · cases h
  · cases h
/-! ### divmod, str, int of a text -/
def divmodD : List D → Option Val
  | [.int i, .int j] => if 0 < j ∧ j < 1073741824 then some (.d (.pair [.int (i / j), .int (i % j)])) else none
  | _ => none
theorem cs_divmod : CallS K ct (fun xs H Q => ∃ i j, xs = [.int i, .int j] ∧ CDiv i j ∧ ∀ p, H p = none → Q (.ref p) (upd H p (.tup [.int (i / j), .int (i % j)]))) divmodD := fun mu F H xs ds val Q sb r h k => by
  unfold divmodD at h
  split at h
  · split at h
    · rename_i hc
      cases h
      obtain ⟨x, y, rfl, rx, ry⟩ := pair2 r
      rw [rx.int, ry.int]
      exact ⟨_, _, rfl, hc, fun p hp => k _ _ (.pair hp (.cons (.int _) (.cons (.int _) .nil)))⟩
    · cases h
  · cases h
def strD : List D → Option Val
  | [.int i] => if i.natAbs.log2 < 1920 ∧ sOk (toString i) = true then some (.d (.str (toString i))) else none
  | [.str s] => some (.d (.str s))
  | _ => none
def rStrU : List V → Hp → VK → Prop := fun xs H Q => (∃ i, xs = [.int i] ∧ i.natAbs.log2 < 1920 ∧ Q (.str (toString i)) H) ∨ ∃ a, xs = [.str a] ∧ Q (.str a) H
theorem call_strU : CallR X (.type "str") rStrU := CallR.or call_str_int SkE.call_str_str
theorem cs_str : CallS K ct rStrU strD := fun mu F H xs ds val Q sb r h k => by
  unfold strD at h
  split at h
  · split at h
    · rename_i hz
      cases h
      obtain ⟨x, rfl, rx⟩ := pair1 r
      rw [rx.int]
      exact .inl ⟨_, rfl, hz.1, k _ _ (.same (.str _ hz.2))⟩
    · cases h
  · cases h
    obtain ⟨x, rfl, rx⟩ := pair1 r
    obtain ⟨rfl, hs⟩ := rx.str
    exact .inr ⟨_, rfl, k _ _ (.same (.str _ hs))⟩
  · cases h
def rIntU : List V → Hp → VK → Prop := fun xs H Q => ((∃ i, xs = [.int i] ∧ Q (.int i) H) ∨ ∃ k, xs = [.bl k] ∧ Q (.int (if k then 1 else 0)) H) ∨ ∃ x n, xs = [.str x] ∧ PySem.intText? x = some n ∧ x.length ≤ 640 ∧ Q (.int n) H
theorem call_intU : CallR X (.type "int") rIntU := by
  intro pins s σ H xs us Q I r h
  rcases h with h | ⟨x, n, rfl, hn, hl, q⟩
  · exact call_int1 pins s σ H xs us Q I r h
  · obtain ⟨u, rfl, t, rfl⟩ := vals1 r
    exact PySem.W.KIN.call_text hn hl ⟨.int n, H, I.tok _, ⟨_, rfl⟩, q⟩
def intD' : List D → Option Val
  | [.int i] => some (.d (.int i))
  | [.bl b] => some (.d (.int (if b then 1 else 0)))
  | [.str s] => if s.length ≤ 640 then (PySem.intText? s).map fun n => .d (.int n) else none
  | _ => none
theorem cs_intU : CallS K ct rIntU intD' := fun mu F H xs ds val Q sb r h k => by
  unfold intD' at h
  split at h
  · cases h
    obtain ⟨x, rfl, rx⟩ := pair1 r
    rw [rx.int]
    exact .inl (.inl ⟨_, rfl, k _ _ (.same (.int _))⟩)
  · cases h
    obtain ⟨x, rfl, rx⟩ := pair1 r
    rw [rx.bl]
    exact .inl (.inr ⟨_, rfl, k _ _ (.same (.int _))⟩)
  · split at h
    · rename_i s hl
      cases e : PySem.intText? s with
      | none => rw [e] at h; cases h
      | some n =>
        rw [e] at h
        cases h
        obtain ⟨x, rfl, rx⟩ := pair1 r
        obtain ⟨rfl, hs⟩ := rx.str
        exact .inr ⟨_, n, rfl, e, hl, k _ _ (.same (.int _))⟩
    · cases h
  · cases h
end
end KD

set_option maxHeartbeats 4000000
namespace KD
open PySem PySem.Spec PyProof.Rows L2
section
variable {X : Cx} {ct : Nat → Addr} {Γ : Gam}
/-! ### a list is lent: walked or handed on, then owned again -/
theorem Rp.flat {F F' : Hp} {v : V} {d : D} (h : Rp Γ F v d) (q : isFlat d = true) : Rp Γ F' v d := by
  cases h <;> first | exact .non | exact .bl _ | exact .int _ | (rename_i h; exact .str _ h) | cases q
theorem RpAll.flat {F F' : Hp} : ∀ {vs : List V} {ds : List D}, RpAll Γ F vs ds → flatAll ds = true → RpAll Γ F' vs ds
  | _, _, .nil, _ => .nil
  | _, _, .cons h r, q => by
    have q' : (isFlat _ && flatAll _) = true := q
    rw [Bool.and_eq_true] at q'
    exact .cons (Rp.flat h q'.1) (RpAll.flat r q'.2)
def flatMO : MO → Bool
  | .lst l => flatAll l
  | _ => false
theorem ObjR.flat {F F' H : Hp} {p : Addr} {m : MO} (h : ObjR Γ F H p m) (q : flatMO m = true) : ObjR Γ F' H p m := by
  cases m with
  | lst l => obtain ⟨vs, h1, h2, h3⟩ := h; exact ⟨vs, h1, h2.flat q, h3⟩
  | _ => cases q
def flatVal : Val → Bool
  | .d d => isFlat d
  | .new m => flatMO m
  | .old _ => false
def flatSl : Sl → Bool
  | .own m => flatMO m
  | _ => true
noncomputable def eBor (i : Nat) (f : EM) : EM := fun ε => match ε.sl[i]? with
  | some (.own m) => (f (setS ε i (.d m.toD))).bind fun r => @ite _ (flatVal r.1 = true ∧ r.2.M.all flatMO = true ∧ (setS ε i (.d m.toD)).sl.all flatSl = true ∧ r.2.sl = (setS ε i (.d m.toD)).sl) (Classical.propDecidable _) (some (r.1, { ε with M := r.2.M })) none
  | _ => f ε
theorem bor_imp {K : PySem.W.Frag} {i : Nat} {f : EM} (σ : L2.St) (H : Hp) (Q : VK) (h : tE K ct (eBor i f) σ H Q) : tE K ct f σ H Q := by
  obtain ⟨mu, ow, ε, val, ε', S, hf, k⟩ := h
  unfold eBor at hf
  split at hf
  · rename_i m hm
    cases e : f (setS ε i (.d m.toD)) with
    | none => simp [e] at hf
    | some r =>
      simp only [e, Option.bind_some] at hf
      split at hf
      · rename_i hc
        obtain ⟨c1, c2, c3, c4⟩ := hc
        cases hf
        obtain ⟨p, s1, s2, s3⟩ := S.so i m hm
        obtain ⟨o, ho⟩ := ObjR.has s3
        obtain ⟨Sf, rf, _⟩ := S.freezeSlot hm s1
        refine ⟨mu, setO ow p none, setS ε i (.d m.toD), r.1, r.2, Sf, e, fun v H' ow' S' fr r' => ?_⟩
        obtain ⟨op, hp'⟩ := fr.fz p o ho setO_same
        have frz : ∀ a o, H a = some o → ow a = none → ow' a = none ∧ H' a = some o := fun a o' ha ea => by
          have n : a ≠ p := by rintro rfl; rw [s2] at ea; cases ea
          exact fr.fz a o' ha (by rw [setO_ne n]; exact ea)
        let ow2 : OwF := setO ow' p (some (.slot i))
        have ne2 : ∀ a w, ow' a = some w → ow2 a = some w := fun a w ea => by
          have n : a ≠ p := by rintro rfl; rw [op] at ea; cases ea
          rw [show ow2 a = ow' a from setO_ne n]; exact ea
        have sb : Sub (cut H ow) (cut H' ow2) := fun a o' h => by
          obtain ⟨q1, q2⟩ := cut_of h
          obtain ⟨q3, q4⟩ := frz a o' q2 q1
          have n : a ≠ p := by rintro rfl; rw [s2] at q1; cases q1
          exact cut_mk (by rw [show ow2 a = ow' a from setO_ne n]; exact q3) q4
        have fr2 : Fr ow H ow2 H' := by
          refine ⟨fun a o' ha ea => ?_, fun a o' w ha ea hw => ?_, fr.tr, fun a o' n ha ea => ?_⟩
          · have n : a ≠ p := by rintro rfl; rw [s2] at ea; cases ea
            obtain ⟨q3, q4⟩ := frz a o' ha ea
            exact ⟨by rw [show ow2 a = ow' a from setO_ne n]; exact q3, q4⟩
          · have n : a ≠ p := by
              rintro rfl; rw [s2] at ea; cases ea
              rcases hw with z | z <;> cases z
            obtain ⟨q3, q4⟩ := fr.ke a o' w ha (by rw [setO_ne n]; exact ea) hw
            exact ⟨ne2 a w q3, q4⟩
          · have n' : a ≠ p := by rintro rfl; rw [s2] at ea; cases ea
            exact ne2 a _ (fr.ob a o' n ha (by rw [setO_ne n']; exact ea))
        have hil : i < ε.sl.length := (List.getElem?_eq_some_iff.mp hm).1
        refine k v H' ow2 ⟨S.len, fun j d eq => ?_, fun j m' eq => ?_, fun n mm eq => ?_⟩ fr2 ?_
        · obtain ⟨u, q1, q2⟩ := S.sd j d eq
          exact ⟨u, q1, q2.mono sb⟩
        · by_cases hj : j = i
          · subst hj
            have e' : ε.sl[j]? = some (.own m') := eq
            rw [hm] at e'
            cases e'
            exact ⟨p, s1, setO_same, ObjR.mono s3 sb fun o' ho' => by rw [ho] at ho'; cases ho'; exact hp'⟩
          · have e2 : r.2.sl[j]? = some (.own m') := by
              rw [c4]
              show (ε.sl.set i _)[j]? = _
              rw [List.getElem?_set_ne (fun z => hj z.symm)]
              exact eq
            obtain ⟨q, q1, q2, q3⟩ := S'.so j m' e2
            have fl : flatSl (.own m') = true := List.all_eq_true.mp c3 _ (by rw [← c4]; exact List.mem_of_getElem? e2)
            exact ⟨q, q1, ne2 q _ q2, q3.flat fl⟩
        · obtain ⟨q, q1, q2, q3⟩ := S'.mo n mm eq
          exact ⟨q, q1, ne2 q _ q2, q3.flat (List.all_eq_true.mp c2 mm (List.mem_of_getElem? eq))⟩
        · cases hv : r.1 with
          | d x => rw [hv] at r' c1; exact Rp.flat r' c1
          | new m' => rw [hv] at r' c1; obtain ⟨q, q1, q2, q3, q4⟩ := r'; exact ⟨q, q1, ne2 q _ q2, q3, q4.flat c1⟩
          | old j => rw [hv] at c1; cases c1
      · cases hf
  · exact ⟨mu, ow, ε, val, ε', S, hf, k⟩
theorem de_bor {i : Nat} {f : EM} {e : Expr} (h : PE X e (tE X.K ct f)) : PE X e (tE X.K ct (eBor i f)) := h.imp bor_imp
end
end KD

set_option maxHeartbeats 4000000
namespace KD
open PySem PySem.Spec PyProof.Rows L2
section
variable {X : Cx} {ct : Nat → Addr} {Γ : Gam} {K : PySem.W.Frag}
theorem fz_imp {f : EM} (σ : L2.St) (H : Hp) (Q : VK) (h : tE K ct (fzE f) σ H Q) : tE K ct f σ H Q := by
  obtain ⟨mu, ow, ε, val, ε', S, hf, k⟩ := h
  obtain ⟨val0, h0, rfl⟩ := fzE_some hf
  refine ⟨mu, ow, ε, val0, ε', S, h0, fun v H' ow' S' fr r => ?_⟩
  obtain ⟨ow2, S2, fr2, r2⟩ := r.fz S' fr
  exact k v H' ow2 S2 fr2 r2
end
end KD

set_option maxHeartbeats 4000000
namespace KD
open PySem L2
/-! ### dict(zip(a, b)) over lists, tuples, texts in any mix: the zip's own tuple stays out while the dict is filled -/
section
variable {prog : Program} {w : World} {A : Around} {E : Value → Shared → Prop} {s : Shared} {zp tI tO T j1 j2 : Addr} {fp1 fp2 : List Addr} {n1 n2 i : Nat} {P1 P2 : Nat → Value → Prop} {St1 St2 : Nat → Heap → Prop}
theorem zipH_item {f : Bool} {oT : Obj} {Q : Value → Shared → Prop} (S : ZipSep2 zp tI tO j1 j2 fp1 fp2) (D1 : Draws prog w A j1 fp1 n1 P1 St1) (D2 : Draws prog w A j2 fp2 n2 P2 St2)
    (zz : IsZipHeld s.heap zp tI tO T f) (zT : s.heap.get? T = some oT) (zI : IsTupOf2 s.heap tI (.ref j1) (.ref j2)) (q1 : St1 i s.heap) (q2 : St2 i s.heap) (l1 : i < n1) (l2 : i < n2)
    (k : ∀ x1 x2 h' tk, P1 i x1 → P2 i x2 → IsZipHeld h' zp tI tO T true → St1 (i + 1) h' → St2 (i + 1) h' → IsTupOf2 h' s.heap.objs.size x1 x2 → (∀ c o, c ≠ zp → c ≠ j1 → c ≠ j2 → s.heap.get? c = some o → h'.get? c = some o) → Q (.ref s.heap.objs.size) { s with heap := h', toks := tk }) :
    wpAny (model prog w) A (Builtin.«zip.__next__» ⟨[.ref zp], []⟩) (fun fin s' => ∃ v, fin = .done (.ret v) ∧ Q v s') E s := by
  obtain ⟨hp, g, d, tk0, os⟩ := s
  show wpAny _ _ (field (.ref zp) 2 >>= _) _ _ _
  refine wpAny_bind (wpAny_field zz rfl (x := .bool false) rfl ?_)
  show wpAny _ _ (field (.ref zp) 3 >>= _) _ _ _
  refine wpAny_bind (wpAny_field zz rfl (x := .ref tI) rfl ?_)
  refine wpAny_bind (wpAny_seqItems zI rfl ?_)
  show wpAny _ _ (Builtin.SmallTypes.ownedTupleIsFree (.ref zp) >>= _) _ _ _
  refine wpAny_bind (wpAny_tupleHeld_zip zz zT fun g0 zz0 b0 => ?_)
  replace b0 : Heap.SameBut zp hp g0 := b0
  simp only [Bool.false_eq_true, if_false]
  refine wpAny_bind ?_
  rw [← Array.forIn_toList]
  simp only [List.forIn_cons, List.forIn_nil]
  refine wpAny_bind (wpAny_bind (wpAny_holding ?_))
  show wpAny _ _ (Builtin.SmallTypes.nextOf (.ref j1) >>= _) _ _ ⟨g0, g, d, tk0, os⟩
  refine wpAny_bind (D1.item i ⟨g0, g, d, tk0, os⟩ _ _ l1 (D1.over q1 b0 S.zf1) fun x1 g1 tk1 hx1 r1 b1 => wpAny_pure ?_)
  replace b1 : Heap.SameBut j1 g0 g1 := b1
  refine wpAny_pure ?_
  refine wpAny_bind (wpAny_bind (wpAny_holding ?_))
  show wpAny _ _ (Builtin.SmallTypes.nextOf (.ref j2) >>= _) _ _ ⟨g1, g, d, tk1, os⟩
  refine wpAny_bind (D2.item i ⟨g1, g, d, tk1, os⟩ _ _ l2 (D2.over (D2.over q2 b0 S.zf2) b1 S.sep1_2) fun x2 g2 tk2 hx2 r2 b2 => wpAny_pure ?_)
  replace b2 : Heap.SameBut j2 g1 g2 := b2
  refine wpAny_pure (wpAny_pure ?_)
  show wpAny _ _ (newTuple [x1, x2] >>= _) _ _ ⟨g2, g, d, tk2, os⟩
  refine wpAny_bind (wpAny_newTuple ?_)
  have sz : g2.objs.size = hp.objs.size := by rw [b2.1, b1.1, b0.1]
  have z1 : zp ≠ j1 := fun e => S.zf1 (e ▸ S.mem1)
  have z2 : zp ≠ j2 := fun e => S.zf2 (e ▸ S.mem2)
  have zz2 : IsZipHeld g2 zp tI tO T true := b2.extBut _ _ z2 (b1.extBut _ _ z1 zz0)
  have up : ∀ c o, c ≠ zp → c ≠ j1 → c ≠ j2 → hp.get? c = some o → g2.get? c = some o := fun c o c1 c2 c3 e => b2.extBut _ _ c3 (b1.extBut _ _ c2 (b0.extBut _ _ c1 e))
  refine wpAny_pure ⟨_, rfl, ?_⟩
  have nt : IsTupOf2 (g2.push { cls := .type "tuple", data := .seq #[x1, x2] }) g2.objs.size x1 x2 := Heap.get?_push_size _ rfl
  show Q (.ref g2.objs.size) _
  rw [sz] at nt ⊢
  exact k x1 x2 _ tk2 hx1 hx2 (Heap.get?_push_of_some _ zz2) (D1.frame _ _ _ (D1.over r1 b2 S.sep2_1) fun b _ o e => Heap.get?_push_of_some _ e) (D2.frame _ _ _ r2 fun b _ o e => Heap.get?_push_of_some _ e) nt fun c o c1 c2 c3 e => Heap.get?_push_of_some _ (up c o c1 c2 c3 e)
theorem zipH_end {f : Bool} {oT : Obj} {Q : PySem.Fin → Shared → Prop} (S : ZipSep2 zp tI tO j1 j2 fp1 fp2) (D1 : Draws prog w A j1 fp1 n1 P1 St1) (D2 : Draws prog w A j2 fp2 n2 P2 St2)
    (zz : IsZipHeld s.heap zp tI tO T f) (zT : s.heap.get? T = some oT) (zI : IsTupOf2 s.heap tI (.ref j1) (.ref j2)) (q1 : St1 i s.heap) (q2 : St2 i s.heap) (l1 : i ≤ n1) (l2 : i ≤ n2) (le : i = n1 ∨ i = n2)
    (k : ∀ h' tk e, (∀ c o, c ≠ zp → c ≠ j1 → c ≠ j2 → s.heap.get? c = some o → h'.get? c = some o) → (∃ o, h'.get? e = some o ∧ o.cls = .type "StopIteration") → E (.ref e) { s with heap := h', toks := tk }) :
    wpAny (model prog w) A (Builtin.«zip.__next__» ⟨[.ref zp], []⟩) Q E s := by
  obtain ⟨hp, g, d, tk0, os⟩ := s
  show wpAny _ _ (field (.ref zp) 2 >>= _) _ _ _
  refine wpAny_bind (wpAny_field zz rfl (x := .bool false) rfl ?_)
  show wpAny _ _ (field (.ref zp) 3 >>= _) _ _ _
  refine wpAny_bind (wpAny_field zz rfl (x := .ref tI) rfl ?_)
  refine wpAny_bind (wpAny_seqItems zI rfl ?_)
  show wpAny _ _ (Builtin.SmallTypes.ownedTupleIsFree (.ref zp) >>= _) _ _ _
  refine wpAny_bind (wpAny_tupleHeld_zip zz zT fun g0 zz0 b0 => ?_)
  replace b0 : Heap.SameBut zp hp g0 := b0
  simp only [Bool.false_eq_true, if_false]
  refine wpAny_bind ?_
  rw [← Array.forIn_toList]
  simp only [List.forIn_cons, List.forIn_nil]
  refine wpAny_bind (wpAny_bind (wpAny_holding ?_))
  show wpAny _ _ (Builtin.SmallTypes.nextOf (.ref j1) >>= _) _ _ ⟨g0, g, d, tk0, os⟩
  by_cases lt : i < n1
  · refine wpAny_bind (D1.item i ⟨g0, g, d, tk0, os⟩ _ _ lt (D1.over q1 b0 S.zf1) fun x1 g1 tk1 hx1 r1 b1 => wpAny_pure ?_)
    replace b1 : Heap.SameBut j1 g0 g1 := b1
    refine wpAny_pure ?_
    refine wpAny_bind (wpAny_bind (wpAny_holding ?_))
    have en : i = n2 := by omega
    show wpAny _ _ (Builtin.SmallTypes.nextOf (.ref j2) >>= _) _ _ ⟨g1, g, d, tk1, os⟩
    refine wpAny_bind (D2.done ⟨g1, g, d, tk1, os⟩ _ _ (by rw [← en]; exact D2.over (D2.over q2 b0 S.zf2) b1 S.sep1_2) fun g2 e b2 he => ?_)
    replace b2 : Heap.ExtBut j2 g1 g2 := b2
    exact k g2 tk1 e (fun c o c1 c2 c3 x => b2 _ _ c3 (b1.extBut _ _ c2 (b0.extBut _ _ c1 x))) he
  · have en : i = n1 := by omega
    refine wpAny_bind (D1.done ⟨g0, g, d, tk0, os⟩ _ _ (by rw [← en]; exact D1.over q1 b0 S.zf1) fun g1 e b1 he => ?_)
    replace b1 : Heap.ExtBut j1 g0 g1 := b1
    exact k g1 tk0 e (fun c o c1 c2 c3 x => b1 _ _ c2 (b0.extBut _ _ c1 x)) he
/-- a zip over any two draws, as what dict() reads -/
def ZipOk (zp tI tO j1 j2 : Addr) (fp1 fp2 : List Addr) (St1 St2 : Nat → Heap → Prop) (h : Heap) : Prop := IsZip h zp tI tO .none ∧ IsTupOf2 h tI (.ref j1) (.ref j2) ∧ (∃ a1 a2, IsTupOf2 h tO a1 a2) ∧ St1 0 h ∧ St2 0 h ∧ ∀ b ∈ fp1 ++ fp2, ∃ o, h.get? b = some o
theorem zip_arg (S : ZipSep2 zp tI tO j1 j2 fp1 fp2) (D1 : ∀ A : Around, A.handled = none → Draws prog w A j1 fp1 n1 P1 St1) (D2 : ∀ A : Around, A.handled = none → Draws prog w A j2 fp2 n2 P2 St2) :
    PairArg prog w "zip" zp (zp :: tI :: tO :: (fp1 ++ fp2)) [zp, tO, j1, j2] (min n1 n2) (fun i k v => P1 i k ∧ P2 i v) (ZipOk zp tI tO j1 j2 fp1 fp2 St1 St2) where
  type := fun s ok => ⟨_, ok.1, rfl⟩
  notDict := by decide
  keep := fun h h' ok hk => by
    obtain ⟨zz, zI, ⟨a1, a2, zO⟩, q1, q2, ex⟩ := ok
    exact ⟨hk _ _ zz, hk _ _ zI, ⟨a1, a2, hk _ _ zO⟩, (D1 ({} : Around) rfl).frame _ _ _ q1 fun b _ o e => hk b o e, (D2 ({} : Around) rfl).frame _ _ _ q2 fun b _ o e => hk b o e, fun b hb => let ⟨o, e⟩ := ex b hb; ⟨o, hk b o e⟩⟩
  there := fun h ok b hb => by
    obtain ⟨zz, zI, ⟨a1, a2, zO⟩, q1, q2, ex⟩ := ok
    simp only [List.mem_cons] at hb
    rcases hb with rfl | rfl | rfl | hb
    · exact ⟨_, zz⟩
    · exact ⟨_, zI⟩
    · exact ⟨_, zO⟩
    · exact ex b hb
  sub := fun b hb => by
    have hb' : b = zp ∨ b = tO ∨ b = j1 ∨ b = j2 := by simpa using hb
    have m1 := S.mem1
    have m2 := S.mem2
    rcases hb' with rfl | rfl | rfl | rfl <;> simp [m1, m2]
  noKeys := fun A s Q E hA ok h => getAttrOr_miss_zip ok.1 rfl rfl rfl zip_no_keys (by decide +kernel) hA h
  iter := fun A s d Q E hA ok hd hdf h => by
    obtain ⟨zz, zI, ⟨a1, a2, zO⟩, q1, q2, ex⟩ := ok
    simp only [List.mem_cons, List.mem_append, not_or] at hdf
    obtain ⟨dz, dI, dO, d1, d2⟩ := hdf
    have DA : A.in1.handled = none := hA
    have E1 := D1 A.in1 DA
    have E2 := D2 A.in1 DA
    have dj1 : d ≠ j1 := fun e => d1 (e ▸ S.mem1)
    have dj2 : d ≠ j2 := fun e => d2 (e ▸ S.mem2)
    have zj1 : zp ≠ j1 := fun e => S.zf1 (e ▸ S.mem1)
    have zj2 : zp ≠ j2 := fun e => S.zf2 (e ▸ S.mem2)
    refine wpAny_pyIter_zip zz (h zp [zp, tO, j1, j2] (fun i h => IsTupOf2 h tI (.ref j1) (.ref j2) ∧ St1 i h ∧ St2 i h ∧ ((IsZip h zp tI tO .none ∧ ∃ a1 a2, IsTupOf2 h tO a1 a2) ∨ ∃ T f oT, IsZipHeld h zp tI tO T f ∧ h.get? T = some oT ∧ T ≠ zp ∧ T ≠ j1 ∧ T ≠ j2 ∧ T ≠ d)) s.heap s.toks ?_ ⟨zI, q1, q2, .inl ⟨zz, a1, a2, zO⟩⟩ (fun _ _ e => e) fun b hb => .inl hb)
    exact {
      off := fun hm => by
        have hm' : d = zp ∨ d = tO ∨ d = j1 ∨ d = j2 := by simpa using hm
        rcases hm' with e | e | e | e
        · exact dz e
        · exact dO e
        · exact dj1 e
        · exact dj2 e
      frame := fun i g1 g2 st hk => by
        obtain ⟨zI, q1, q2, zz⟩ := st
        refine ⟨hk _ _ (Ne.symm dI) zI, E1.frame _ _ _ q1 fun b hb o e => hk b o (fun x => d1 (x ▸ hb)) e, E2.frame _ _ _ q2 fun b hb o e => hk b o (fun x => d2 (x ▸ hb)) e, ?_⟩
        rcases zz with ⟨zz, a1, a2, zO⟩ | ⟨T, f, oT, zz, zT, r1, r2, r3, r4⟩
        · exact .inl ⟨hk _ _ (Ne.symm dz) zz, a1, a2, hk _ _ (Ne.symm dO) zO⟩
        · exact .inr ⟨T, f, oT, hk _ _ (Ne.symm dz) zz, hk _ _ r4 zT, r1, r2, r3, r4⟩
      item := fun i s1 Q1 X1 hi st hds hQ => by
        obtain ⟨zI, q1, q2, zz⟩ := st
        have i1 : i < n1 := by omega
        have i2 : i < n2 := by omega
        have lt : ∀ {c o}, s1.heap.get? c = some o → s1.heap.objs.size ≠ c := fun e => Nat.ne_of_gt (Heap.lt_size e)
        have l1 : s1.heap.objs.size ≠ j1 := by obtain ⟨_, e⟩ := E1.live _ _ q1; exact lt e
        have l2 : s1.heap.objs.size ≠ j2 := by obtain ⟨_, e⟩ := E2.live _ _ q2; exact lt e
        rcases zz with ⟨zz, a1, a2, zO⟩ | ⟨T, f, oT, zz, zT, r1, r2, r3, r4⟩
        · refine wpAny_pyNext_zipD2_item S E1 E2 zz zI zO q1 q2 i1 i2 fun x1 x2 h' tk y1 y2 b1 b2 e1 e2 b5 b6 hk => ?_
          exact hQ s1.heap.objs.size _ _ h' tk ⟨y1, y2⟩ (.inl ⟨_, b5, rfl, _, rfl⟩) ⟨hk _ _ S.TIz S.TITO S.TIi1 S.TIi2 zI, e1, e2, .inr ⟨s1.heap.objs.size, false, _, b1, b5, lt zz, l1, l2, Nat.ne_of_gt hds⟩⟩
            fun c o hc e => hk c o (fun x => hc (by simp [x])) (fun x => hc (by simp [x])) (fun x => hc (by simp [x])) (fun x => hc (by simp [x])) e
        · have hTy : s1.TypeIs (.ref zp) "zip" := ⟨_, zz, rfl⟩
          unfold pyNext
          refine wpAny_bind (wpAny_attempt (wpAny_callSpecial?_slot (name := Str.ofString "__next__") hTy F.slot_zip_next
            (wpAny_call_entry F.slot_zip_next hTy F.entry_zip_next
              (zipH_item S E1 E2 zz zT zI q1 q2 i1 i2 fun x1 x2 h' tk y1 y2 b1 e1 e2 b5 hk => wpAny_pure ?_) (F.args_zip_next_1 _))))
          exact hQ s1.heap.objs.size _ _ h' tk ⟨y1, y2⟩ (.inl ⟨_, b5, rfl, _, rfl⟩) ⟨hk _ _ S.TIz S.TIi1 S.TIi2 zI, e1, e2, .inr ⟨T, true, oT, b1, hk _ _ r1 r2 r3 zT, r1, r2, r3, r4⟩⟩
            fun c o hc e => hk c o (fun x => hc (by simp [x])) (fun x => hc (by simp [x])) (fun x => hc (by simp [x])) e
      done := fun s1 Q1 X1 st hQ => by
        obtain ⟨zI, q1, q2, zz⟩ := st
        rcases zz with ⟨zz, a1, a2, zO⟩ | ⟨T, f, oT, zz, zT, r1, r2, r3, r4⟩
        · exact wpAny_pyNext_zipD2_end S E1 E2 zz zI zO q1 q2 (by omega) (by omega) (by omega) fun h' tk hk => hQ h' tk fun c o hc e => hk c o (fun x => hc (by simp [x])) (fun x => hc (by simp [x])) (fun x => hc (by simp [x])) (fun x => hc (by simp [x])) e
        · have hTy : s1.TypeIs (.ref zp) "zip" := ⟨_, zz, rfl⟩
          unfold pyNext
          refine wpAny_bind (wpAny_attempt (wpAny_callSpecial?_slot (name := Str.ofString "__next__") hTy F.slot_zip_next
            (wpAny_call_entry F.slot_zip_next hTy F.entry_zip_next (zipH_end S E1 E2 zz zT zI q1 q2 (by omega) (by omega) (by omega) fun h' tk e hk he => ?_) (F.args_zip_next_1 _))))
          obtain ⟨oe, hoe, hce⟩ := he
          refine wpAny_bind (wpAny_isInstance (T := "StopIteration") (b := true) ⟨oe, hoe, hce⟩ isSubtype_stop ?_)
          exact wpAny_pure (hQ _ _ fun c o hc e => hk c o (fun x => hc (by simp [x])) (fun x => hc (by simp [x])) (fun x => hc (by simp [x])) e) }
end
end KD

set_option maxHeartbeats 4000000
namespace KD
open PySem L2
/-! ### dicts of data: keys numbers and texts -/
def keyD : D → Option L2.Key
  | .int i => some (.inl i)
  | .str s => some (.inr s)
  | _ => none
def keysD : List D → Option (List L2.Key)
  | [] => some []
  | d :: l => (keyD d).bind fun k => (keysD l).map fun ks => k :: ks
def putD (ps : List (L2.Key × D)) (k : L2.Key) (d : D) : List (L2.Key × D) := if (ps.any fun q => decide (q.1 = k)) = true then ps.map (fun q => if q.1 = k then (q.1, d) else q) else ps ++ [(k, d)]
def valD (ps : List (L2.Key × D)) (k : L2.Key) : Option D := (ps.find? fun q => decide (q.1 = k)).map (·.2)
def mergeD (ps more : List (L2.Key × D)) : List (L2.Key × D) := more.foldl (fun acc q => putD acc q.1 q.2) ps
def dctM (ps : List (L2.Key × D)) : MO := .dct (ps.map (·.1)) (ps.map (·.2))
abbrev KR (Γ : Gam) (F : Hp) : List (L2.Key × V) → List (L2.Key × D) → Prop := Paired fun a b => a.1 = b.1 ∧ Rp Γ F a.2 b.2
section
variable {Γ : Gam} {F F' : Hp}
theorem keyD_rp {v : V} {d : D} {k : L2.Key} (h : Rp Γ F v d) (e : keyD d = some k) : v = kV k := by
  cases h <;> first | (cases e; rfl) | cases e
theorem KR.mono (s : Sub F F') : ∀ {a : List (L2.Key × V)} {b : List (L2.Key × D)}, KR Γ F a b → KR Γ F' a b
  | [], [], .nil => .nil
  | _ :: _, _ :: _, .cons h t => .cons ⟨h.1, h.2.mono s⟩ (KR.mono s t)
theorem KR.any (k : L2.Key) : ∀ {a : List (L2.Key × V)} {b : List (L2.Key × D)}, KR Γ F a b → (a.any fun q => decide (q.1 = k)) = b.any fun q => decide (q.1 = k)
  | [], [], .nil => rfl
  | _ :: _, _ :: _, .cons h t => by
    rw [List.any_cons, List.any_cons, h.1, KR.any k t]
theorem KR.repl (k : L2.Key) {y : V} {d : D} (r : Rp Γ F y d) : ∀ {a : List (L2.Key × V)} {b : List (L2.Key × D)}, KR Γ F a b → KR Γ F (a.map fun q => if q.1 = k then (q.1, y) else q) (b.map fun q => if q.1 = k then (q.1, d) else q)
  | [], [], .nil => .nil
  | (a1, a2) :: _, (b1, b2) :: _, .cons h t => by
    obtain ⟨h1, h2⟩ := h
    have h1' : a1 = b1 := h1
    subst h1'
    rw [List.map_cons, List.map_cons]
    by_cases e : a1 = k
    · rw [if_pos e, if_pos e]; exact .cons ⟨rfl, r⟩ (KR.repl k r t)
    · rw [if_neg e, if_neg e]; exact .cons ⟨rfl, h2⟩ (KR.repl k r t)
theorem KR.snoc {a1 : L2.Key × V} {b1 : L2.Key × D} (r : a1.1 = b1.1 ∧ Rp Γ F a1.2 b1.2) : ∀ {a : List (L2.Key × V)} {b : List (L2.Key × D)}, KR Γ F a b → KR Γ F (a ++ [a1]) (b ++ [b1])
  | [], [], .nil => .cons r .nil
  | _ :: _, _ :: _, .cons h t => .cons h (KR.snoc r t)
theorem KR.put {a : List (L2.Key × V)} {b : List (L2.Key × D)} (h : KR Γ F a b) (k : L2.Key) {y : V} {d : D} (r : Rp Γ F y d) : KR Γ F (putK a k y) (putD b k d) := by
  unfold putK putD
  rw [h.any k]
  split
  · exact h.repl k r
  · exact h.snoc ⟨rfl, r⟩
theorem KR.val (k : L2.Key) : ∀ {a : List (L2.Key × V)} {b : List (L2.Key × D)}, KR Γ F a b → (valV a k = none ∧ valD b k = none) ∨ ∃ y d, valV a k = some y ∧ valD b k = some d ∧ Rp Γ F y d
  | [], [], .nil => .inl ⟨rfl, rfl⟩
  | (a1, a2) :: ra, (b1, b2) :: rb, .cons h t => by
    obtain ⟨h1, h2⟩ := h
    have h1' : a1 = b1 := h1
    subst h1'
    by_cases e : a1 = k
    · exact .inr ⟨a2, b2, valV_pos e, by unfold valD; rw [List.find?_cons, decide_eq_true e]; rfl, h2⟩
    · rcases KR.val k t with ⟨q1, q2⟩ | ⟨y, d, q1, q2, q3⟩
      · exact .inl ⟨by rw [valV_neg e]; exact q1, by unfold valD; rw [List.find?_cons, decide_eq_false e]; exact q2⟩
      · exact .inr ⟨y, d, by rw [valV_neg e]; exact q1, by unfold valD; rw [List.find?_cons, decide_eq_false e]; exact q2, q3⟩
theorem KR.len : ∀ {a : List (L2.Key × V)} {b : List (L2.Key × D)}, KR Γ F a b → a.length = b.length
  | [], [], .nil => rfl
  | _ :: _, _ :: _, .cons _ t => by rw [List.length_cons, List.length_cons, KR.len t]
/-- such pairs as a dict's own keys and values -/
theorem KR.split : ∀ {a : List (L2.Key × V)} {b : List (L2.Key × D)}, KR Γ F a b → a = (b.map (·.1)).zip (a.map (·.2)) ∧ RpAll Γ F (a.map (·.2)) (b.map (·.2)) ∧ (a.map (·.2)).length = (b.map (·.1)).length
  | [], [], .nil => ⟨rfl, .nil, rfl⟩
  | (a1, a2) :: ra, (b1, b2) :: rb, .cons h t => by
    obtain ⟨h1, h2⟩ := h
    obtain ⟨q1, q2, q3⟩ := KR.split t
    have h1' : a1 = b1 := h1
    subst h1'
    refine ⟨?_, .cons h2 q2, by simpa using q3⟩
    show (a1, a2) :: ra = (a1, a2) :: (rb.map (·.1)).zip (ra.map (·.2))
    exact congrArg _ q1
theorem KR.of : ∀ {ks : List L2.Key} {vs : List V} {ds : List D}, vs.length = ks.length → RpAll Γ F vs ds → KR Γ F (ks.zip vs) (ks.zip ds)
  | [], [], [], _, .nil => .nil
  | _ :: _, _ :: _, _ :: _, hl, .cons h t => .cons ⟨rfl, h⟩ (KR.of (by simpa using hl) t)
  | [], _ :: _, _, hl, _ => by simp at hl
  | _ :: _, [], _, hl, _ => by simp at hl
theorem zip_fst {α β : Type} : ∀ {a : List α} {b : List β}, b.length = a.length → (a.zip b).map (·.1) = a ∧ (a.zip b).map (·.2) = b
  | [], [], _ => ⟨rfl, rfl⟩
  | _ :: _, _ :: _, h => by
    obtain ⟨q1, q2⟩ := zip_fst (a := ‹List α›) (b := ‹List β›) (by simpa using h)
    exact ⟨congrArg _ q1, congrArg _ q2⟩
  | [], _ :: _, h => by simp at h
  | _ :: _, [], h => by simp at h
theorem Fresh.dctP {H : Hp} {p : Addr} {a : List (L2.Key × V)} {b : List (L2.Key × D)} (hp : H p = none) (h : KR Γ F a b) : Fresh Γ F H (.ref p) (upd H p (.dK a)) (.new (dctM b)) := by
  obtain ⟨q1, q2, q3⟩ := h.split
  rw [q1]
  exact .dct hp q3 q2
end
/-! ### dict(zip(a, b)) -/
section
variable {X : Cx} {pins : List (Addr × Obj)} {σ : L2.St} {H : Hp} {s : Shared} {K : PySem.W.Frag} {ct : Nat → Addr}
/-- the source drawn from, whatever is around -/
theorem Sk.drawsU {k : Sk} {xs : List V} {it : Addr} (I : Inv X pins σ H s) (ok : k.ok X.K H xs) (hit : it ∉ k.box) :
    ∃ (P : Nat → Value → Prop) (St : Nat → Heap → Prop), (∀ A : Around, A.handled = none → Draws X.prog X.w A it (it :: k.box) xs.length P St) ∧ (∀ h, (∀ b o, s.heap.get? b = some o → h.get? b = some o) → k.itp it 0 h → St 0 h) ∧ (∀ i v, P i v → ∃ x, xs[i]? = some x ∧ RelV x v) ∧ ∀ b ∈ k.box, ∃ o, s.heap.get? b = some o := by
  cases k with
  | lst a =>
    obtain ⟨its, rv, p, _⟩ := I.list ok
    have hne : a ≠ it := fun e => hit (by rw [e]; simp [Sk.box])
    have hn : its.toArray.size = xs.length := by rw [List.size_toArray, rv.length]
    refine ⟨_, fun i h => h.IsListIter it a i ∧ h.IsList a its.toArray, fun A hh => by rw [← hn]; exact Draws.list hh it a hne its.toArray, fun h kk st => ⟨st, p.isList.at fun o e => kk _ _ e⟩, fun i v hv => ?_, fun b hb => ?_⟩
    · have hv' : its[i]? = some v := by simpa using hv
      cases e : xs[i]? with
      | none => rw [rv.none_of e] at hv'; cases hv'
      | some x =>
        obtain ⟨u, hu, ru⟩ := rv.get e
        rw [hv'] at hu; cases hu
        exact ⟨x, rfl, ru⟩
    · have : b = a := by simpa [Sk.box] using hb
      subst this
      obtain ⟨o, ho, _⟩ := p.isList
      exact ⟨o, ho⟩
  | tup a =>
    obtain ⟨its, rv, p, _⟩ := I.tuple ok
    have hne : a ≠ it := fun e => hit (by rw [e]; simp [Sk.box])
    have hn : its.toArray.size = xs.length := by rw [List.size_toArray, rv.length]
    have p' : s.heap.IsTuple a its.toArray := p
    refine ⟨_, fun i h => h.IsTupleIter it a i ∧ h.IsTuple a its.toArray, fun A hh => by rw [← hn]; exact Draws.tuple hh it a hne its.toArray, fun h kk st => ⟨st, p'.at fun o e => kk _ _ e⟩, fun i v hv => ?_, fun b hb => ?_⟩
    · have hv' : its[i]? = some v := by simpa using hv
      cases e : xs[i]? with
      | none => rw [rv.none_of e] at hv'; cases hv'
      | some x =>
        obtain ⟨u, hu, ru⟩ := rv.get e
        rw [hv'] at hu; cases hu
        exact ⟨x, rfl, ru⟩
    · have : b = a := by simpa [Sk.box] using hb
      subst this
      obtain ⟨o, ho, _⟩ := p'
      exact ⟨o, ho⟩
  | txt x t =>
    have ok' : xs = x.cps.toList.map fun c => V.str ⟨#[c]⟩ := ok
    have hn : x.cps.size = xs.length := by rw [ok']; simp
    refine ⟨_, _, fun A hh => by rw [← hn]; exact Draws.text hh it x t, fun h kk st => st, fun i v hv => ?_, fun b hb => by simp [Sk.box] at hb⟩
    obtain ⟨c, u, hc, rfl⟩ := hv
    refine ⟨.str ⟨#[c]⟩, ?_, u, rfl⟩
    rw [ok', List.getElem?_map, show x.cps.toList[i]? = some c by simpa using hc]
    rfl
/-- the pairs that a zip yields are these, keys and values -/
def ZPairs (xs ys : List V) (kvs : List (L2.Key × V)) : Prop := kvs.length = min xs.length ys.length ∧ ∀ (i : Nat) (x y : V), xs[i]? = some x → ys[i]? = some y → ∃ k, x = kV k ∧ kvs[i]? = some (k, y)
theorem mergeK_take {kvs : List (L2.Key × V)} {i : Nat} {q : L2.Key × V} (h : kvs[i]? = some q) : mergeK [] (kvs.take (i + 1)) = putK (mergeK [] (kvs.take i)) q.1 q.2 := by
  unfold mergeK
  rw [List.take_add_one, h, List.foldl_append]
  rfl
theorem kV_key {k : L2.Key} {u : Value} (h : RelV (kV k) u) : (mixKind X.prog X.w).is k u = true := kV_is h
def tDZ (K : PySem.W.Frag) (ta : TA) : TE := fun σ H Q => ta σ H fun vs H1 => ∃ v w xs ys kf kg kvs, vs = [v, w] ∧ SkV K H1 v xs kf ∧ SkV K H1 w ys kg ∧ ZPairs xs ys kvs ∧ kvs.length ≤ sizeLine ∧ ∀ p, H1 p = none → Q (.ref p) (upd H1 p (.dK (mergeK [] kvs)))
theorem dict_of_zip {zp tI tO j1 j2 : Addr} {fp1 fp2 : List Addr} {P1 P2 : Nat → Value → Prop} {St1 St2 : Nat → Heap → Prop} {xs ys : List V} {kvs : List (L2.Key × V)} {Q : VK} (hcalm : X.A.handled = none)
    (S : ZipSep2 zp tI tO j1 j2 fp1 fp2) (D1 : ∀ A : Around, A.handled = none → Draws X.prog X.w A j1 fp1 xs.length P1 St1) (D2 : ∀ A : Around, A.handled = none → Draws X.prog X.w A j2 fp2 ys.length P2 St2)
    (ok : ZipOk zp tI tO j1 j2 fp1 fp2 St1 St2 s.heap) (h1 : ∀ i v, P1 i v → ∃ x, xs[i]? = some x ∧ RelV x v) (h2 : ∀ i v, P2 i v → ∃ x, ys[i]? = some x ∧ RelV x v) (zk : ZPairs xs ys kvs) (hz : kvs.length ≤ sizeLine)
    (I : Inv X pins σ H s) (hf : ∀ b ∈ [zp, tO, j1, j2], FpOk X pins H b) (q : ∀ p, H p = none → Q (.ref p) (upd H p (.dK (mergeK [] kvs)))) :
    wpAny (model X.prog X.w) X.A (call (.type "dict") [.ref zp]) (EP X pins σ Q) X.xe s := by
  have big := I.big
  refine call_dict_arg (zip_arg (prog := X.prog) (w := X.w) S D1 D2) ok fun s1 hs1 hdf ok1 => ?_
  subst hs1
  have hm : (s.heap.objs.size == sysModules) = false := beq_eq_false_iff_ne.mpr (Nat.ne_of_gt big)
  have tl : ∀ i, (mergeK [] (kvs.take i)).length ≤ kvs.length := fun i => by
    have := length_mergeK (kvs.take i) []
    rw [List.length_take, List.length_nil] at this
    omega
  refine updateFrom_arg (A := X.A.in1) (Tab := fun i h => ∃ vs, KV (mergeK [] (kvs.take i)) vs ∧ h.DictOf (mixKind X.prog X.w) s.heap.objs.size vs) (zip_arg (prog := X.prog) (w := X.w) S D1 D2) .none hcalm ok1 hdf ⟨[], .nil, Heap.DictOf.new s.heap⟩
    (fun i h ⟨vs, _, tb⟩ => tb.lt_size) (fun i h h' wr' hd _ ⟨vs, r, tb⟩ hk => ⟨vs, r, tb.at' fun o e => hk _ o hd e⟩) ?_ ?_
  · intro i key v s' Q' E' hi hrel ⟨vs, r, tb⟩ _ hQ
    obtain ⟨x, hx, rx⟩ := h1 i key hrel.1
    obtain ⟨y, hy, ry⟩ := h2 i v hrel.2
    obtain ⟨k, rfl, hk⟩ := zk.2 i x y hx hy
    have r' : KV (mergeK [] (kvs.take (i + 1))) (stored vs k v) := by rw [mergeK_take hk]; exact r.put k ry
    refine wpAny_dictSet_pairs (hsz := by rw [← r.length]; exact Nat.le_trans (tl i) hz) (kV_is rx) tb fun h' hm' hs => ?_
    exact hQ h' _ ⟨_, r', hm'⟩ hs
  · intro h' tk ⟨vs, r, tb⟩ hk
    have e : kvs.take (min xs.length ys.length) = kvs := List.take_of_length_le (Nat.le_of_eq zk.1)
    rw [e] at r
    refine ⟨rfl, ?_⟩
    have hl2 := Nat.le_trans (length_mergeK kvs []) (by rw [List.length_nil, Nat.zero_add]; exact hz)
    refine ⟨.ref s.heap.objs.size, upd H s.heap.objs.size (.dK (mergeK [] kvs)), ?_, rfl, q _ (I.hok.fresh (Nat.le_refl _))⟩
    exact I.turnedNew (t' := tk) (ch := [zp, tO, j1, j2]) (fun b o hb e => hk b o (Nat.ne_of_lt (Heap.lt_size e)) hb (Heap.get?_push_of_some _ e)) hf (Nat.le_refl _) (show ObjOk X.prog X.w _ _ _ (.dK (mergeK [] kvs)) from ⟨hl2, hm, vs, r, tb⟩)
theorem pe_dz {a b : Expr} {ta : TA} {p p2 pos pos2 : Pos} (hc : X.calm = true) (hm : X.mg "dict" = none) (hm2 : X.mg "zip" = none) (ha : PA X [a, b] ta) (hg : Gl X "dict" := by rfl) (hg2 : Gl X "zip" := by rfl)
    (hs : starEach [a, b] X.env = (false, eval a X.env) :: starEach [b] X.env := by rfl) (hpl : (backTo pos2 (starEach [b] X.env)).any (·.1) = false := by rfl)
    (na : starEach [Expr.Call (.Name "zip" p2) [a, b] [] pos2] X.env = (false, eval (Expr.Call (.Name "zip" p2) [a, b] [] pos2) X.env) :: starEach [] X.env := by rfl) :
    PE X (.Call (.Name "dict" p) [.Call (.Name "zip" p2) [a, b] [] pos2] [] pos) (tDZ X.K ta) := by
  refine ⟨fun pins s σ H Q I h => ?_⟩
  refine PyProof.Rows.Call_ (ld_blt I hg hm PyProof.Rows.boot_dict (PyProof.Rows.callWith_type1 (PyProof.Rows.args_cons (PyProof.Rows.Call_ (ld_blt I hg2 hm2 PyProof.Rows.boot_zip (PyProof.Rows.callWith_type1 (thn (ha.run pos2 pins s σ H _ I h) fun us s1 ⟨vs, H1, I1, r1, q1⟩ => ?_) hs hpl))) na) na))
  obtain ⟨v, w, xs, ys, kf, kg, kvs, ex, hq, hq2, zk, hz, q⟩ := q1
  subst ex
  cases r1 with
  | cons r rr =>
    cases rr with
    | cons r2 rr2 =>
      cases rr2
      obtain ⟨t1, ek⟩ := hq.1 _ r
      subst ek
      obtain ⟨t2, ek2⟩ := hq2.1 _ r2
      subst ek2
      have ok := hq.2 t1
      have ok2 := hq2.2 t2
      obtain ⟨C, B, hC⟩ := Sk.begins (kf t1) (K := X.K) I1 ok
      obtain ⟨C2, B2, hC2⟩ := Sk.begins (kg t2) (K := X.K) I1 ok2
      refine zip_begins2 B B2 hC hC2 fun h' hz1 hTI hTO hi1 hi2 hsz hk => PyProof.Rows.args_nil ?_
      have I2 : Inv X pins σ H1 { s1 with heap := h' } := I1.kept (t' := s1.toks) hk
      have A5 : Apart5 (s1.heap.objs.size + 4) (s1.heap.objs.size + 2) (s1.heap.objs.size + 3) s1.heap.objs.size (s1.heap.objs.size + 1) := by
        generalize s1.heap.objs.size = N
        exact ⟨by show (N + 2 : Nat) ≠ N + 4; omega, by show (N + 3 : Nat) ≠ N + 4; omega, by show (N + 2 : Nat) ≠ N + 3; omega, by show (N + 2 : Nat) ≠ N; omega, by show (N + 2 : Nat) ≠ N + 1; omega,
          by show (N + 4 : Nat) ≠ N; omega, by show (N + 4 : Nat) ≠ N + 1; omega, by show (N + 3 : Nat) ≠ N; omega, by show (N + 3 : Nat) ≠ N + 1; omega, by show (N : Nat) ≠ N + 1; omega⟩
      have lo : ∀ b, b = s1.heap.objs.size + 4 ∨ b = s1.heap.objs.size + 3 ∨ b = s1.heap.objs.size ∨ b = s1.heap.objs.size + 1 → s1.heap.objs.size ≤ b := fun b e' => by
        have k : ∀ N n : Nat, N ≤ N + n := fun N n => Nat.le_add_right _ _
        rcases e' with z | z | z | z <;> rw [z] <;> first | exact k _ _ | exact Nat.le_refl _
      have fp : ∀ b ∈ [s1.heap.objs.size + 4, s1.heap.objs.size + 3, s1.heap.objs.size, s1.heap.objs.size + 1], FpOk X pins H1 b := fun b hb => by
        have e' : b = s1.heap.objs.size + 4 ∨ b = s1.heap.objs.size + 3 ∨ b = s1.heap.objs.size ∨ b = s1.heap.objs.size + 1 := by simpa using hb
        have hle := lo b e'
        exact I1.fpOk hle (I1.hok.fresh hle)
      have f : ∀ b, s1.heap.objs.size ≤ b → b ∉ (kf t1).box ∧ b ∉ (kg t2).box := fun b hb => ⟨Sk.apart I1 ok (I1.fpOk hb (I1.hok.fresh hb)), Sk.apart I1 ok2 (I1.fpOk hb (I1.hok.fresh hb))⟩
      have fz := f (s1.heap.objs.size + 4) (Nat.le_add_right _ _)
      have fo := f (s1.heap.objs.size + 3) (Nat.le_add_right _ _)
      have f1 := f s1.heap.objs.size (Nat.le_refl _)
      have f2 := f (s1.heap.objs.size + 1) (Nat.le_add_right _ _)
      have SS := zsep A5 fz.1 fz.2 fo.1 fo.2 f2.1 f1.2
      obtain ⟨P1, St1, D1, b1, c1, e1⟩ := Sk.drawsU (it := s1.heap.objs.size) I1 ok f1.1
      obtain ⟨P2, St2, D2, b2, c2, e2⟩ := Sk.drawsU (it := s1.heap.objs.size + 1) I1 ok2 f2.2
      refine dict_of_zip (s := { s1 with heap := h' }) (I.ok.hd hc) SS D1 D2 ⟨hz1, hTI, ⟨_, _, hTO⟩, b1 h' hk (Sk.first hi1), b2 h' hk (Sk.first hi2), fun b hb => ?_⟩ c1 c2 zk hz I2 fp q
      rcases List.mem_append.mp hb with hb | hb
      · rcases List.mem_cons.mp hb with rfl | hb
        · exact ⟨_, hi1⟩
        · obtain ⟨o, ho⟩ := e1 b hb; exact ⟨o, hk _ _ ho⟩
      · rcases List.mem_cons.mp hb with rfl | hb
        · exact ⟨_, hi2⟩
        · obtain ⟨o, ho⟩ := e2 b hb; exact ⟨o, hk _ _ ho⟩
/-- dict(zip(a, b)) -/
def zipKD (l m : List D) : Option (List (L2.Key × D)) := (keysD (l.take (min l.length m.length))).map fun ks => ks.zip m
def eDZ (fa fb : EM) : EM := fun ε => (aCons fa (aCons fb aNil) ε).bind fun r => (escL r.2 r.1).bind fun q => match q.1 with
  | [a, b] => (seqD a).bind fun l => (seqD b).bind fun m => (zipKD l m).map fun kd => (.new (dctM (mergeD [] kd)), q.2)
  | _ => none
theorem keysD_get : ∀ {l : List D} {ks : List L2.Key}, keysD l = some ks → ks.length = l.length ∧ ∀ (i : Nat) (d : D), l[i]? = some d → ∃ k, keyD d = some k ∧ ks[i]? = some k
  | [], ks, h => by cases h; exact ⟨rfl, fun i d e => by simp at e⟩
  | d :: l, ks, h => by
    have h' : ((keyD d).bind fun k => (keysD l).map fun ks => k :: ks) = some ks := h
    cases e1 : keyD d with
    | none => simp [e1] at h'
    | some k =>
      cases e2 : keysD l with
      | none => simp [e1, e2] at h'
      | some ks' =>
        simp only [e1, e2, Option.bind_some, Option.map_some, Option.some.injEq] at h'
        subst h'
        obtain ⟨q1, q2⟩ := keysD_get e2
        refine ⟨by simp [q1], fun i d' e => ?_⟩
        cases i with
        | zero => simp at e; subst e; exact ⟨k, e1, rfl⟩
        | succ i => exact q2 i d' (by simpa using e)
theorem KR.merge {Γ : Gam} {F : Hp} : ∀ (a : List (L2.Key × V)) (b : List (L2.Key × D)) {x : List (L2.Key × V)} {y : List (L2.Key × D)}, KR Γ F a b → KR Γ F x y → KR Γ F (mergeK x a) (mergeD y b)
  | [], [], _, _, .nil, h => h
  | (a1, a2) :: ra, (b1, b2) :: rb, x, y, .cons h t, g => by
    obtain ⟨h1, h2⟩ := h
    have h1' : a1 = b1 := h1
    subst h1'
    exact KR.merge ra rb t (g.put a1 h2)
theorem zipKD_ok {Γ : Gam} {F : Hp} {l m : List D} {kd : List (L2.Key × D)} {us ws : List V} (hl : RpAll Γ F us l) (hm : RpAll Γ F ws m) (e : zipKD l m = some kd) : ∃ kvs, ZPairs us ws kvs ∧ KR Γ F kvs kd ∧ kvs.length ≤ us.length := by
  unfold zipKD at e
  obtain ⟨ks, e1, e2⟩ := Option.map_eq_some_iff.mp e
  subst e2
  obtain ⟨q1, q2⟩ := keysD_get e1
  rw [List.length_take, Nat.min_eq_left (Nat.min_le_left _ _)] at q1
  have hl1 := hl.length
  have hm1 := hm.length
  have hkw : (ws.take ks.length).length = ks.length := by rw [List.length_take]; omega
  have hmt : RpAll Γ F (ws.take ks.length) (m.take ks.length) := hm.take _
  have ez : ks.zip m = ks.zip (m.take ks.length) := by
    have key : ∀ (a : List L2.Key) (b : List D), a.zip b = a.zip (b.take a.length) := by
      intro a
      induction a with
      | nil => intro b; rfl
      | cons x a ih =>
        intro b
        cases b with
        | nil => rfl
        | cons y b => rw [List.length_cons, List.take_succ_cons, List.zip_cons_cons, List.zip_cons_cons, ← ih b]
    exact key ks m
  refine ⟨ks.zip (ws.take ks.length), ⟨?_, fun i x y hx hy => ?_⟩, by rw [ez]; exact KR.of hkw hmt, ?_⟩
  · rw [List.length_zip, hkw, Nat.min_self, q1, hl1, hm1]
  · obtain ⟨d, hd, rd⟩ := hl.getV hx
    have h1 := (List.getElem?_eq_some_iff.mp hx).1
    have h2 := (List.getElem?_eq_some_iff.mp hy).1
    have hi : i < ks.length := by omega
    obtain ⟨k, hk1, hk2⟩ := q2 i d (by rw [List.getElem?_take_of_lt (by omega)]; exact hd)
    exact ⟨k, keyD_rp rd hk1, by rw [List.getElem?_zip_eq_some]; exact ⟨hk2, by rw [List.getElem?_take_of_lt hi]; exact hy⟩⟩
  · rw [List.length_zip, hkw, Nat.min_self, q1, hl1]
    exact Nat.min_le_left _ _
theorem de_dz {a b : Expr} {fa fb : EM} {p p2 pos pos2 : Pos} (h : PE X a (tE X.K ct fa)) (h2 : PE X b (tE X.K ct fb)) (hc : X.calm = true) (hm : X.mg "dict" = none) (hm2 : X.mg "zip" = none) (hg : Gl X "dict" := by rfl) (hg2 : Gl X "zip" := by rfl)
    (hs : starEach [a, b] X.env = (false, eval a X.env) :: starEach [b] X.env := by rfl) (hs2 : starEach [b] X.env = (false, eval b X.env) :: starEach [] X.env := by rfl) (hpl : (backTo pos2 (starEach [b] X.env)).any (·.1) = false := by rfl)
    (na : starEach [Expr.Call (.Name "zip" p2) [a, b] [] pos2] X.env = (false, eval (Expr.Call (.Name "zip" p2) [a, b] [] pos2) X.env) :: starEach [] X.env := by rfl) :
    PE X (.Call (.Name "dict" p) [.Call (.Name "zip" p2) [a, b] [] pos2] [] pos) (tE X.K ct (eDZ fa fb)) := (pe_dz hc hm hm2 (da_cons h (da_cons h2 da_nil hs2) hs) hg hg2 hs hpl na).imp fun σ H Q ⟨mu, ow, ε, val, ε', S, hf, k⟩ => by
  unfold eDZ at hf
  cases e0 : aCons fa (aCons fb aNil) ε with
  | none => simp [e0] at hf
  | some r =>
    simp only [e0, Option.bind_some] at hf
    cases e1 : escL r.2 r.1 with
    | none => simp [e1] at hf
    | some q =>
      simp only [e1, Option.bind_some] at hf
      split at hf
      · rename_i a b hq
        cases e2 : seqD a with
        | none => simp [e2] at hf
        | some l =>
          simp only [e2, Option.bind_some] at hf
          cases e3 : seqD b with
          | none => simp [e3] at hf
          | some m =>
            simp only [e3, Option.bind_some] at hf
            cases e4 : zipKD l m with
            | none => simp [e4] at hf
            | some kd =>
              simp only [e4, Option.map_some, Option.some.injEq, Prod.mk.injEq] at hf
              obtain ⟨rfl, rfl⟩ := hf
              refine ⟨mu, ow, ε, r.1, r.2, S, e0, fun vs H1 ow1 S1 fr1 r1 => ?_⟩
              obtain ⟨ow2, S2, fr2, r2⟩ := VRs.esc S1 r1 e1
              rw [hq] at r2
              cases r2 with
              | cons ra r2 =>
                cases r2 with
                | cons rb r2 =>
                  cases r2
                  rename_i v w
                  obtain ⟨us, kf, hk, rl, hl1⟩ := skv_of (H := H1) ra e2
                  obtain ⟨ws, kg, hk2, rm, hl2⟩ := skv_of (H := H1) rb e3
                  obtain ⟨kvs, z1, z2, z3⟩ := zipKD_ok rl rm e4
                  refine ⟨v, w, us, ws, kf, kg, kvs, rfl, hk H1 cut_sub, hk2 H1 cut_sub, z1, sz16 (by rw [rl.length] at z3; omega), fun p hp => ?_⟩
                  obtain ⟨ow3, S3, fr3, v3⟩ := Fresh.sim S2 (Fresh.dctP hp (KR.merge _ _ z2 .nil))
                  exact k _ _ ow3 S3 ((fr1.trans fr2).trans fr3) (v3.back fun p hp => (fr1.trans fr2).none hp)
      · cases hf
end
end KD

set_option maxHeartbeats 4000000
namespace KD
open PySem PySem.Spec PyProof.Rows L2
section
variable {X : Cx} {ct : Nat → Addr} {Γ : Gam} {K : PySem.W.Frag}
/-! ### dicts asked: d[k], k in d, d.get(k, x), len(d), list(d) -/
theorem RpO.dct {F H : Hp} {v : V} {ks : List L2.Key} {l : List D} (h : RpO Γ F H v (.dct ks l)) (sb : Sub F H) : ∃ a vs, v = .ref a ∧ H a = some (.dK (ks.zip vs)) ∧ KR Γ F (ks.zip vs) (ks.zip l) ∧ vs.length = ks.length ∧ RpAll Γ F vs l := by
  rcases h with h | ⟨p, m, rfl, h, e⟩
  · cases h with
    | dct h1 h2 h3 => exact ⟨_, _, rfl, sb _ _ h1, KR.of h2 h3, h2, h3⟩
  · cases m with
    | dct ks' l' => 
      cases e
      obtain ⟨vs, h1, h2, h3⟩ := h
      exact ⟨p, vs, rfl, h1, KR.of h2 h3, h2, h3⟩
    | lst _ => cases e
    | ins _ _ _ => cases e
theorem RpO.dcl {F H : Hp} {v : V} {ks : List L2.Key} {l : List D} (h : RpO Γ F H v (.dcl ks l)) (sb : Sub F H) : ∃ a o vs, v = .ref a ∧ H a = some (.frz o (.dK (ks.zip vs))) ∧ KR Γ F (ks.zip vs) (ks.zip l) ∧ vs.length = ks.length ∧ RpAll Γ F vs l := by
  rcases h with h | ⟨p, m, rfl, h, e⟩
  · cases h with
    | dcl h1 h2 h3 => exact ⟨_, _, _, rfl, sb _ _ h1, KR.of h2 h3, h2, h3⟩
  · cases m <;> cases e
/-- a dict, locked or not -/
def asDct : D → Option (List L2.Key × List D)
  | .dct ks l => some (ks, l)
  | .dcl ks l => some (ks, l)
  | _ => none
theorem RpO.dcts {F H : Hp} {v : V} {d : D} {ks : List L2.Key} {l : List D} (h : RpO Γ F H v d) (e : asDct d = some (ks, l)) (sb : Sub F H) : ∃ a vs, v = .ref a ∧ Rd H a (.dK (ks.zip vs)) ∧ KR Γ F (ks.zip vs) (ks.zip l) ∧ vs.length = ks.length ∧ RpAll Γ F vs l := by
  unfold asDct at e
  split at e
  · cases e
    obtain ⟨a, vs, h1, h2, h3⟩ := h.dct sb
    exact ⟨a, vs, h1, .inl h2, h3⟩
  · cases e
    obtain ⟨a, o, vs, h1, h2, h3⟩ := h.dcl sb
    exact ⟨a, vs, h1, .inr ⟨o, h2⟩, h3⟩
  · cases e
def dgetD : D → D → Option Val
  | .dct ks l, i => (keyD i).bind fun k => (valD (ks.zip l) k).map .d
  | .dcl ks l, i => (keyD i).bind fun k => (valD (ks.zip l) k).map .d
  | _, _ => none
def rDGet : R2 := fun x y H Q => ∃ a v, x = .ref a ∧ DGet H a y (some v) ∧ Q v H
theorem os_dget : OpS K ct rDGet dgetD := fun mu F H x y d e val Q sb rx ry h k => by
  obtain ⟨ks, l, ea, h⟩ : ∃ ks l, asDct d = some (ks, l) ∧ ((keyD e).bind fun k => (valD (ks.zip l) k).map Val.d) = some val := by
    cases d <;> first | (cases h; done) | exact ⟨_, _, rfl, h⟩
  obtain ⟨a, vs, rfl, h1, h2, _⟩ := rx.dcts ea sb
  have h' : ((keyD e).bind fun k => (valD (ks.zip l) k).map Val.d) = some val := h
  cases e1 : keyD e with
  | none => simp [e1] at h'
  | some kk =>
    simp only [e1, Option.bind_some] at h'
    cases e2 : valD (ks.zip l) kk with
    | none => simp [e2] at h'
    | some dd =>
      simp only [e2, Option.map_some, Option.some.injEq] at h'
      subst h'
      have ey := keyD_rp (ry.up sb) e1
      subst ey
      rcases h2.val kk with ⟨_, q⟩ | ⟨y, d', q1, q2, q3⟩
      · rw [e2] at q; cases q
      · rw [e2] at q2
        cases q2
        refine ⟨a, y, rfl, ?_, k y H (.same q3)⟩
        rw [← q1]; exact .inl ⟨_, _, h1, rfl, rfl⟩
theorem de_dget {a b : Expr} {pos : Pos} {fa fb : EM} (hu : X.A.units + 1 < cLine) (ha : PE X a (tE X.K ct fa)) (hb : PE X b (tE X.K ct fb)) (hp : NoSl b) : PE X (.Subscript a b pos) (tE X.K ct (eOp dgetD fa fb)) :=
  (pe_dget hu (de_fz ha) (de_fz hb) hp).imp fun σ H Q h => op_imp os_dget σ H Q h
/-- k in d, over dicts too -/
def inV2 : D → D → Option Val
  | d, .dct ks l => (keyD d).map fun k => .d (.bl (valD (ks.zip l) k).isSome)
  | d, .dcl ks l => (keyD d).map fun k => .d (.bl (valD (ks.zip l) k).isSome)
  | d, e => inV1 d e
def ninV2 : D → D → Option Val
  | d, .dct ks l => (keyD d).map fun k => .d (.bl (!(valD (ks.zip l) k).isSome))
  | d, .dcl ks l => (keyD d).map fun k => .d (.bl (!(valD (ks.zip l) k).isSome))
  | d, e => ninV1 d e
def rDIn : R2 := fun x y H Q => ∃ a o, y = .ref a ∧ DGet H a x o ∧ Q (.bl o.isSome) H
def rDNotIn : R2 := fun x y H Q => ∃ a o, y = .ref a ∧ DGet H a x o ∧ Q (.bl (!o.isSome)) H
theorem op_dIn (hu : X.A.units + 1 < cLine) : OpR X (compareOp .In) rDIn := fun pins s σ H x y v u Q I rx ry ⟨a, o, e, g, q⟩ => by
  subst e
  obtain rfl : u = Value.ref a := ry
  exact d_in hu I g rx fun s3 I3 => ⟨.bl o.isSome, H, I3, rfl, q⟩
theorem op_dNotIn (hu : X.A.units + 1 < cLine) : OpR X (compareOp .NotIn) rDNotIn := fun pins s σ H x y v u Q I rx ry ⟨a, o, e, g, q⟩ => by
  subst e
  obtain rfl : u = Value.ref a := ry
  exact d_notIn hu I g rx fun s3 I3 => ⟨.bl (!o.isSome), H, I3, rfl, q⟩
theorem op_in2 (hu : X.A.units + 65 < cLine) : OpR X (compareOp .In) (fun x y H Q => rInU X.K x y H Q ∨ rDIn x y H Q) := (op_inU hu).or (op_dIn (by omega))
theorem op_notIn2 (hu : X.A.units + 65 < cLine) : OpR X (compareOp .NotIn) (fun x y H Q => rNotInU X.K x y H Q ∨ rDNotIn x y H Q) := (op_notInU hu).or (op_dNotIn (by omega))
theorem din_core {F H : Hp} {x y : V} {d : D} {ks : List L2.Key} {l : List D} {kk : L2.Key} (sb : Sub F H) {dd : D} (rx : RpO Γ F H x d) (ry : RpO Γ F H y dd) (ed : asDct dd = some (ks, l)) (e1 : keyD d = some kk) : ∃ a o, y = .ref a ∧ DGet H a x o ∧ o.isSome = (valD (ks.zip l) kk).isSome := by
  obtain ⟨a, vs, rfl, h1, h2, _⟩ := ry.dcts ed sb
  have ey := keyD_rp (rx.up sb) e1
  subst ey
  refine ⟨a, valV (ks.zip vs) kk, rfl, .inl ⟨_, _, h1, rfl, rfl⟩, ?_⟩
  rcases h2.val kk with ⟨q1, q2⟩ | ⟨y, d', q1, q2, q3⟩
  · rw [q1, q2]; rfl
  · rw [q1, q2]; rfl
theorem os_in2 : OpS K ct (fun x y H Q => rInU K x y H Q ∨ rDIn x y H Q) inV2 := fun mu F H x y d e val Q sb rx ry h k => by
  cases e with
  | dct ks l =>
    have h' : ((keyD d).map fun k => Val.d (.bl (valD (ks.zip l) k).isSome)) = some val := by cases d <;> exact h
    obtain ⟨kk, e1, rfl⟩ := Option.map_eq_some_iff.mp h'
    obtain ⟨a, o, rfl, g, q⟩ := din_core sb rx ry rfl e1
    exact .inr ⟨a, o, rfl, g, by rw [q]; exact k _ _ (.same (.bl _))⟩
  | dcl ks l =>
    have h' : ((keyD d).map fun k => Val.d (.bl (valD (ks.zip l) k).isSome)) = some val := by cases d <;> exact h
    obtain ⟨kk, e1, rfl⟩ := Option.map_eq_some_iff.mp h'
    obtain ⟨a, o, rfl, g, q⟩ := din_core sb rx ry rfl e1
    exact .inr ⟨a, o, rfl, g, by rw [q]; exact k _ _ (.same (.bl _))⟩
  | _ => exact .inl (os_in mu F H x y d _ val Q sb rx ry (by cases d <;> exact h) k)
theorem os_notIn2 : OpS K ct (fun x y H Q => rNotInU K x y H Q ∨ rDNotIn x y H Q) ninV2 := fun mu F H x y d e val Q sb rx ry h k => by
  cases e with
  | dct ks l =>
    have h' : ((keyD d).map fun k => Val.d (.bl (!(valD (ks.zip l) k).isSome))) = some val := by cases d <;> exact h
    obtain ⟨kk, e1, rfl⟩ := Option.map_eq_some_iff.mp h'
    obtain ⟨a, o, rfl, g, q⟩ := din_core sb rx ry rfl e1
    exact .inr ⟨a, o, rfl, g, by rw [q]; exact k _ _ (.same (.bl _))⟩
  | dcl ks l =>
    have h' : ((keyD d).map fun k => Val.d (.bl (!(valD (ks.zip l) k).isSome))) = some val := by cases d <;> exact h
    obtain ⟨kk, e1, rfl⟩ := Option.map_eq_some_iff.mp h'
    obtain ⟨a, o, rfl, g, q⟩ := din_core sb rx ry rfl e1
    exact .inr ⟨a, o, rfl, g, by rw [q]; exact k _ _ (.same (.bl _))⟩
  | _ => exact .inl (os_notIn mu F H x y d _ val Q sb rx ry (by cases d <;> exact h) k)
/-- len(d), list(d) -/
def lenDd : List D → Option Val
  | [.dct ks l] => if l.length = ks.length then some (.d (.int (ks.length : Nat))) else none
  | _ => none
theorem cs_lenDd : CallS K ct (fun xs H Q => ∃ a kvs, xs = [V.ref a] ∧ H a = some (.dK kvs) ∧ Q (.int kvs.length) H) lenDd := fun mu F H xs ds val Q sb r h k => by
  unfold lenDd at h
  split at h
  · rename_i ks l
    split at h
    · rename_i hl
      cases h
      obtain ⟨x, rfl, rx⟩ := pair1 r
      obtain ⟨a, vs, rfl, h1, h2, h3, _⟩ := rx.dct sb
      refine ⟨a, _, rfl, h1, ?_⟩
      rw [List.length_zip, h3, Nat.min_self]
      exact k _ _ (.same (.int _))
    · cases h
  · cases h
def kD : L2.Key → D
  | .inl i => .int i
  | .inr s => .str s
def kOk : L2.Key → Bool
  | .inl _ => true
  | .inr s => sOk s
def listDd : List D → Option Val
  | [.dct ks l] => if l.length = ks.length ∧ ks.all kOk = true ∧ ks.length ≤ 16777216 then some (.new (.lst (ks.map kD))) else none
  | [.dcl ks l] => if l.length = ks.length ∧ ks.all kOk = true ∧ ks.length ≤ 16777216 then some (.new (.lst (ks.map kD))) else none
  | _ => none
theorem rp_keys {F : Hp} : ∀ {ks : List L2.Key}, ks.all kOk = true → RpAll Γ F (ks.map kV) (ks.map kD)
  | [], _ => .nil
  | .inl i :: ks, h => .cons (.int i) (rp_keys h)
  | .inr s :: ks, h => by
    rw [List.all_cons, Bool.and_eq_true] at h
    exact .cons (.str s h.1) (rp_keys h.2)
theorem zip_keys {α : Type} : ∀ {ks : List L2.Key} {vs : List α}, vs.length = ks.length → (ks.zip vs).map (·.1) = ks := fun h => (zip_fst h).1
theorem cs_listDd : CallS K ct (fun xs H Q => ∃ (a : Addr) (kvs : List (L2.Key × V)), xs = [.ref a] ∧ Rd H a (.dK kvs) ∧ ∀ p, H p = none → Q (.ref p) (upd H p (.lst (kvs.map fun kv => kV kv.1)))) listDd := fun mu F H xs ds val Q sb r h k => by
  unfold listDd at h
  split at h
  · rename_i ks l
    split at h
    · rename_i hl
      cases h
      obtain ⟨x, rfl, rx⟩ := pair1 r
      obtain ⟨a, vs, rfl, h1, h2, h3, _⟩ := rx.dct sb
      refine ⟨a, _, rfl, .inl h1, fun p hp => ?_⟩
      rw [show (ks.zip vs).map (fun kv => kV kv.1) = ks.map kV by rw [← zip_keys h3, List.map_map]; simp [zip_keys h3]]
      exact k _ _ (.lst hp (rp_keys hl.2.1) (by rw [List.length_map]; exact hl.2.2))
    · cases h
  · rename_i ks l
    split at h
    · rename_i hl
      cases h
      obtain ⟨x, rfl, rx⟩ := pair1 r
      obtain ⟨a, o, vs, rfl, h1, h2, h3, _⟩ := rx.dcl sb
      refine ⟨a, _, rfl, .inr ⟨o, h1⟩, fun p hp => ?_⟩
      rw [show (ks.zip vs).map (fun kv => kV kv.1) = ks.map kV by rw [← zip_keys h3, List.map_map]; simp [zip_keys h3]]
      exact k _ _ (.lst hp (rp_keys hl.2.1) (by rw [List.length_map]; exact hl.2.2))
    · cases h
  · cases h
/-- sorted(d), sorted(list of texts): the texts in their order, fewer than 64 -/
def strKeys : List L2.Key → Option (List Str)
  | [] => some []
  | .inr s :: ks => (strKeys ks).map fun l => s :: l
  | _ => none
theorem strKeys_map : ∀ {ks : List L2.Key} {l : List Str}, strKeys ks = some l → ks = l.map Sum.inr
  | [], l, h => by cases h; rfl
  | .inr s :: ks, l, h => by
    have h' : ((strKeys ks).map fun l => s :: l) = some l := h
    obtain ⟨l', e, rfl⟩ := Option.map_eq_some_iff.mp h'
    rw [strKeys_map e]; rfl
  | .inl _ :: _, _, h => by cases h
end
end KD

set_option maxHeartbeats 4000000
namespace PySem.AutoSeq1
open PySem PySem.Spec PyProof PyProof.Rows
theorem list_extend_list_tupleA (l : Addr) (items : Array Value) (n : Nat) (b : Addr) (items2 : Array Value) (n2 : Nat) (dd : Option Addr) (sl : Array (Option Value)) (hs0 : ¬(!items.isEmpty && Builtin.List.listTooLong (items.size + items2.size)) = true) (hs1 : items.size ≤ sizeLine) (hs2 : items.size + items2.size ≤ sizeLine + 1 := by seq_fits) :
    Meets (Builtin.«list.extend» ⟨[.ref l, .ref b], []⟩) (fun _ R s => s.heap.get? l = some { cls := .type "list", dict := none, data := .seq items n, slots := #[] } ∧ s.heap.get? b = some { cls := .type "tuple", dict := dd, data := .seq items2 n2, slots := sl } ∧ R (.ok (.ret Value.none)) { s with heap := s.heap.update l (Obj.mapSeq fun x => x ++ items2), toks := s.toks }) :=
  .of_wp fun prog w A R s h => by
    obtain ⟨hp, g, d, tk, os⟩ := s; obtain ⟨hl, hb, h⟩ := h; have f1 := idx_int; have f2 := sub_tuple_tuple; have f3 := sub_list_list; have f4 := sub_tuple_list; have f5 := sub_list_tuple;
    have hz' : (items ++ items2).size ≤ sizeLine + 1 := by rw [Array.size_append]; exact hs2
    wp_walk using (wpAny_updateSeq hl rfl (hz := hs1) (_hz' := hz')), wpAny_loadPart' hl, wpAny_loadPart' hb; exact ⟨_, rfl, h⟩
end PySem.AutoSeq1
namespace L2
open PySem PySem.Spec PySem.Calls PyProof PyProof.Rows
section
variable {X : Cx}
/-- xs.extend(ys), ys a list or a tuple -/
def rExtendU (K : PySem.W.Frag) : V → List V → Hp → VK → Prop := fun x vs H Q => rExtend x vs H Q ∨ ∃ l b xs zs, x = .ref l ∧ vs = [.ref b] ∧ H l = some (.lst xs) ∧ SqT K H b zs ∧ xs.length + zs.length ≤ sizeLine ∧ Q .non (upd H l (.lst (xs ++ zs)))
theorem mt_extendU : MtM X "list.extend" (rExtendU X.K) := by
  intro pins s σ H x vs v us Q I rx rv h
  rcases h with h | h
  · exact mt_extend pins s σ H x vs v us Q I rx rv h
  obtain ⟨l, b, xs, zs, rfl, rfl, hH, hB, hz, q⟩ := h
  cases rx
  obtain ⟨u, rfl, ru⟩ := rv.one
  cases ru
  obtain ⟨z, its, n, r, hl, e⟩ := I.lstM hH
  obtain ⟨its2, r2, pl, hz2⟩ := I.tuple hB
  obtain ⟨⟨cls, dd, dt, sl⟩, e2, hc, n2, hd⟩ := pl
  simp only at hc hd
  subst hc
  subst hd
  have hl2 := r2.length
  have hsz : its.toArray.size + its2.toArray.size ≤ sizeLine := by rw [List.size_toArray, List.size_toArray]; omega
  have hlong : ¬ (!its.toArray.isEmpty && Builtin.List.listTooLong (its.toArray.size + its2.toArray.size)) = true := by
    rw [notLongL hsz, Bool.and_false]
    exact Bool.false_ne_true
  refine call_meets F.slot_list_extend ⟨_, e, rfl⟩ F.entry_list_extend (F.args_list_extend_2 _ _)
    (AutoSeq1.list_extend_list_tupleA l its.toArray n b its2.toArray n2 dd sl hlong (by rw [List.size_toArray]; omega) (by omega)) ⟨e, e2, ?_⟩
  refine ⟨.non, _, I.lset (its' := its ++ its2) hH e (by simp) (r.append r2) ?_, rfl, q⟩
  rw [List.length_append]
  omega
end
end L2
namespace KD
open PySem PySem.Spec PyProof.Rows L2
section
variable {X : Cx} {K : PySem.W.Frag} {ct : Nat → Addr}
def extUM : MO → List D → Option (MO × D)
  | .lst l, [.lst m] => if l.length + m.length ≤ 16777216 then some (.lst (l ++ m), .non) else none
  | .lst l, [.tup m] => if l.length + m.length ≤ 16777216 then some (.lst (l ++ m), .non) else none
  | _, _ => none
theorem ms_extendU : MutS K ct (rExtendU K) extUM := fun mu F H p m vs ds m' d Q sb ho r h k => by
  unfold extUM at h
  split at h
  · rename_i l x
    exact .inl (ms_extend mu F H p _ vs _ m' d Q sb ho r h k)
  · rename_i l x
    split at h
    · rename_i hl
      cases h
      obtain ⟨us, h1, h2, h3⟩ := ho
      cases r with
      | cons rx rt =>
        cases rt
        cases rx with
        | tup hb rb lb =>
          refine .inr ⟨p, _, us, _, rfl, rfl, h1, (sb.tupR hb).sqt, by rw [h2.length, rb.length, sizeLine_eq]; exact hl, k _ _ ⟨_, upd_same, h2.append rb, ?_⟩ .non⟩
          rw [List.length_append]; exact hl
    · cases h
  · cases h
end
end KD

set_option maxHeartbeats 4000000
namespace KD
open PySem PySem.Spec PyProof.Rows L2
section
variable {X : Cx} {ct : Nat → Addr} {Γ : Gam} {K : PySem.W.Frag}
/-! ### x += e, figures or texts -/
def iadd2 : D → D → Option D
  | .int i, .int j => some (.int (i + j))
  | .str a, .str b => if a.length + b.length ≤ 16777216 then some (.str (a ++ b)) else none
  | _, _ => none
def ipAdd2 : TIp := fun x y H Q => ipI (fun i j => i + j) x y H Q ∨ rAddS x y H Q
theorem ip_add2 : PIp X .Add ipAdd2 := fun pins s σ H x y u v Q I rx ry h => h.elim (ip_add pins s σ H x y u v Q I rx ry) (in_addS pins s σ H x y u v Q I rx ry)
theorem is_add2 : IpS K ct ipAdd2 iadd2 := fun mu F H x y d e z Q sb rx ry h k => by
  unfold iadd2 at h
  split at h
  · cases h
    cases rx
    rw [ry.int]
    exact .inl ⟨_, _, rfl, rfl, k _ (.int _)⟩
  · rename_i a b
    split at h
    · rename_i hl
      cases h
      obtain ⟨rfl, h2⟩ := ry.str
      cases rx with
      | str _ h1 => exact .inr ⟨a, b, rfl, rfl, sz16 hl, k _ (.str _ (sOk_append h1 h2 hl))⟩
    · cases h
  · cases h
end
end KD

set_option maxHeartbeats 4000000
namespace KD
open PySem PySem.Spec PyProof.Rows L2
section
variable {X : Cx} {ct : Nat → Addr} {Γ : Gam} {K : PySem.W.Frag}
/-! ### repr of texts too -/
def rRepr2 (K : PySem.W.Frag) : List V → Hp → VK → Prop := fun xs H Q => rRepr K xs H Q ∨ (∃ s, xs = [.str s] ∧ (reprText s).length ≤ sizeLine ∧ Q (.str (reprText s)) H) ∨
  (∃ b, xs = [.bl b] ∧ Q (.str (if b then "True" else "False")) H) ∨ (xs = [.non] ∧ Q (.str "None") H)
theorem call_repr2U (hg : X.A.guards = some []) (hu : X.A.units + 80 < cLine) : CallR X (.builtin "repr") (rRepr2 X.K) := by
  intro pins s σ H xs us Q I r h
  rcases h with h | ⟨a, rfl, hz, q⟩ | ⟨b, rfl, q⟩ | ⟨rfl, q⟩
  · exact call_reprU hg hu pins s σ H xs us Q I r h
  · obtain ⟨u, rfl, t, rfl⟩ := vals1 r
    exact PySem.P.repr_of_str ⟨.str _, H, I.tok _, ⟨_, rfl⟩, q⟩ hz
  · obtain ⟨u, rfl, ru⟩ := vals1 r
    cases ru
    exact PySem.P.repr_of_bool ⟨.str _, H, I.tok _, ⟨_, rfl⟩, q⟩
  · obtain ⟨u, rfl, ru⟩ := vals1 r
    cases ru
    exact PySem.P.repr_of_none ⟨.str _, H, I.tok _, ⟨_, rfl⟩, q⟩
def repr2D : List D → Option Val
  | [.str s] => if okR (.str s) = true then some (.d (.str (toPy (.str s)).shown)) else none
  | [.bl b] => some (.d (.str (if b then "True" else "False")))
  | [.non] => some (.d (.str "None"))
  | l => reprD l
theorem cs_repr2 : CallS K ct (rRepr2 K) repr2D := fun mu F H xs ds val Q sb r h k => by
  unfold repr2D at h
  split at h
  · rename_i s
    split at h
    · rename_i hz
      cases h
      obtain ⟨x, rfl, rx⟩ := pair1 r
      obtain ⟨rfl, h2⟩ := rx.str
      have hs : sOk (toPy (.str s)).shown = true := by unfold okR at hz; rw [Bool.and_eq_true] at hz; exact hz.2
      exact .inr (.inl ⟨s, rfl, sOk_len' hs, k _ _ (.same (.str _ hs))⟩)
    · cases h
  · rename_i b
    cases h
    obtain ⟨x, rfl, rx⟩ := pair1 r
    have : x = .bl b := by
      have q := rx.up sb
      cases q; rfl
    subst this
    exact .inr (.inr (.inl ⟨b, rfl, k _ _ (.same (.str _ (by cases b <;> decide +kernel)))⟩))
  · cases h
    obtain ⟨x, rfl, rx⟩ := pair1 r
    have : x = .non := by
      have q := rx.up sb
      cases q; rfl
    subst this
    exact .inr (.inr (.inr ⟨rfl, k _ _ (.same (.str _ (by decide +kernel)))⟩))
  · exact .inl (cs_repr mu F H xs ds val Q sb r h k)
end
end KD

set_option maxHeartbeats 4000000
namespace KD
open PySem PySem.Spec PyProof.Rows L2
/-! ### sorted: texts in their order -/
def leS (a b : Str) : Bool := decide (a.cps.toList ≤ b.cps.toList)
theorem leS_trans {a b c : Str} (h : leS a b = true) (g : leS b c = true) : leS a c = true := decide_eq_true (List.le_trans (of_decide_eq_true h) (of_decide_eq_true g))
theorem leS_total (a b : Str) : (leS a b || leS b a) = true := by
  unfold leS
  rcases List.le_total a.cps.toList b.cps.toList with h | h
  · rw [decide_eq_true h]; rfl
  · rw [decide_eq_true h, Bool.or_true]
theorem leS_anti {a b : Str} (h : leS a b = true) (g : leS b a = true) : a = b := by
  have e := List.le_antisymm (of_decide_eq_true h) (of_decide_eq_true g)
  have e2 : a.cps = b.cps := Array.toList_inj.mp e
  cases a; cases b
  simpa using e2
theorem rising_pair : ∀ (l : List Str) (p : Str), risingS p l = true → (p :: l).Pairwise (fun a b => leS a b = true)
  | [], p, _ => List.pairwise_singleton _ _
  | x :: r, p, h => by
    have h' : (!ltCps x.cps.toList p.cps.toList && risingS x r) = true := h
    rw [Bool.and_eq_true] at h'
    have ih := rising_pair r x h'.2
    have h1 : leS p x = true := by
      have := h'.1
      rw [ltCps_eq] at this
      unfold leS
      have h2 : ¬ x.cps.toList < p.cps.toList := by simpa using this
      exact decide_eq_true (List.not_lt.mp h2)
    refine List.pairwise_cons.mpr ⟨fun y hy => ?_, ih⟩
    rcases List.mem_cons.mp hy with rfl | hy
    · exact h1
    · exact leS_trans h1 ((List.pairwise_cons.mp ih).1 y hy)
theorem sort_same {xs ys : List Str} (hp : ys.Perm xs) (hs : sortedS ys = true) : ys = xs.mergeSort leS := by
  have h1 : ys.Pairwise (fun a b => leS a b = true) := by
    cases ys with
    | nil => exact .nil
    | cons x r => exact rising_pair r x hs
  have h2 : (xs.mergeSort leS).Pairwise (fun a b => leS a b = true) := List.pairwise_mergeSort (le := leS) (fun a b c h g => leS_trans h g) (fun a b => leS_total a b) xs
  exact List.Perm.eq_of_pairwise (fun a b _ _ => leS_anti) h1 h2 (hp.trans (List.mergeSort_perm xs leS).symm)
section
variable {X : Cx} {ct : Nat → Addr} {Γ : Gam} {K : PySem.W.Frag}
def sortTD (xs : List Str) : Option Val := if xs.length < 64 then some (.new (.lst ((xs.mergeSort leS).map .str))) else none
def sortD : List D → Option Val
  | [.lst l] => (strsD l).bind sortTD
  | [.dct ks l] => if l.length = ks.length ∧ ks.all kOk = true then (strKeys ks).bind sortTD else none
  | _ => none
def rSortU (K : PySem.W.Frag) : List V → Hp → VK → Prop := fun xs H Q => rSortedS K xs H Q ∨ ∃ (a : Addr) (kvs : List (L2.Key × V)) (ks : List Str), xs = [.ref a] ∧ Rd H a (.dK kvs) ∧ kvs.map (·.1) = ks.map Sum.inr ∧ ks.length < 64 ∧
    ∀ ys p, ys.Perm ks → sortedS ys = true → H p = none → Q (.ref p) (upd H p (.lst (ys.map V.str)))
theorem call_sortU (hcalm : X.calm = true) : CallR X (.builtin "sorted") (rSortU X.K) := fun pins s σ H xs us Q I r h => h.elim (cr_sortedS pins s σ H xs us Q I r) (call_sortedD hcalm pins s σ H xs us Q I r)
theorem rp_strs {F : Hp} : ∀ {l : List Str}, (∀ s ∈ l, sOk s = true) → RpAll Γ F (l.map V.str) (l.map D.str)
  | [], _ => .nil
  | s :: l, h => .cons (.str s (h s List.mem_cons_self)) (rp_strs fun t ht => h t (List.mem_cons_of_mem _ ht))
theorem cs_sort : CallS K ct (rSortU K) sortD := fun mu F H xs ds val Q sb r h k => by
  unfold sortD at h
  split at h
  · rename_i l
    cases e1 : strsD l with
    | none => simp [e1] at h
    | some ss =>
      simp only [e1, Option.bind_some] at h
      unfold sortTD at h
      split at h
      · rename_i hl
        cases h
        obtain ⟨y, rfl, ry⟩ := pair1 r
        obtain ⟨p, vs, rfl, h1, h2, h3⟩ := ry.lst sb
        rw [strsD_map e1] at h2
        have hok := rp_strsOk h2
        have hv := rp_strsV h2
        subst hv
        refine .inl ⟨p, ss, rfl, .of h1, hl, fun ys q hp hs hq => ?_⟩
        have e2 := sort_same hp hs
        have hlen := hp.length_eq
        subst e2
        exact k _ _ (.lst hq (rp_strs fun s hs => hok s ((List.mergeSort_perm ss leS).mem_iff.mp hs)) (by rw [List.length_map]; omega))
      · cases h
  · rename_i ks l
    split at h
    · rename_i hk
      cases e1 : strKeys ks with
      | none => simp [e1] at h
      | some ss =>
        simp only [e1, Option.bind_some] at h
        unfold sortTD at h
        split at h
        · rename_i hl
          cases h
          obtain ⟨y, rfl, ry⟩ := pair1 r
          obtain ⟨a, vs, rfl, h1, h2, h3, _⟩ := ry.dct sb
          have hks := strKeys_map e1
          refine .inr ⟨a, _, ss, rfl, .inl h1, by rw [zip_keys h3, hks], hl, fun ys q hp hs hq => ?_⟩
          have e2 := sort_same hp hs
          have hlen := hp.length_eq
          have hok : ∀ s ∈ ss, sOk s = true := fun s hs => by
            have := List.all_eq_true.mp hk.2 (.inr s) (by rw [hks]; exact List.mem_map.mpr ⟨s, hs, rfl⟩)
            exact this
          subst e2
          exact k _ _ (.lst hq (rp_strs fun s hs => hok s ((List.mergeSort_perm ss leS).mem_iff.mp hs)) (by rw [List.length_map]; omega))
        · cases h
    · cases h
  · cases h
end
end KD

set_option maxHeartbeats 4000000
namespace KD
open PySem PySem.Spec PyProof.Rows L2
section
variable {X : Cx} {ct : Nat → Addr} {Γ : Gam} {K : PySem.W.Frag}
/-- three local names, no tuple -/
theorem ds_par3 {i j l : Nat} {st : Stmt} {f : AM} (h : PS X st (tPar3 i j l (tAN X.K ct f))) : PS X st (tS X.K ct (sPar [i, j, l] f)) := h.imp fun E σ H ⟨mu, ow, ε, out, S, hf, k⟩ => by
  obtain ⟨r, q, ε', e1, e2, e3, rfl⟩ := sPar_some hf
  refine ⟨mu, ow, ε, r.1, r.2, S, e1, fun vs H1 ow1 S1 fr1 r1 => ?_⟩
  obtain ⟨ow2, S2, fr2, r2, n2⟩ := VRN.deold S1 r1 e2
  obtain ⟨ow3, S3, fr3⟩ := Sim.storeL S2 (fr1.trans fr2) (fun p hp => hp) r2 n2 e3
  have hl := VRN.len r2
  rw [← storeL_len e3] at hl
  match vs, hl with
  | [u, v, w], _ => exact ⟨u, v, w, rfl, k _ H1 ow3 S3 fr3⟩
end
end KD

set_option maxHeartbeats 4000000
namespace KD
open PySem PySem.Spec PyProof.Rows L2
section
variable {X : Cx} {ct : Nat → Addr} {Γ : Gam} {K : PySem.W.Frag}
/-! ### {k: v for .. in ..} -/
def compDL (g : GM) (tt : BM) (tk tv : EM) (vs : List Nat) : List D → List (L2.Key × D) → SE → Option (List (L2.Key × D) × SE)
  | [], acc, ε => some (acc, ε)
  | d :: ds, acc, ε => (g d (wipeS ε vs)).bind fun ε1 => (tt ε1).bind fun r => if r.1 = true then (escE tk r.2).bind fun k => (keyD k.1).bind fun key => (escE tv k.2).bind fun y => compDL g tt tk tv vs ds (putD acc key y.1) y.2 else compDL g tt tk tv vs ds acc r.2
def eDc (fi : IM) (g : GM) (tt : BM) (tk tv : EM) (vs : List Nat) : EM := fun ε => (fi ε).bind fun r => (compDL g tt tk tv vs r.1 [] r.2).map fun q => (.new (dctM q.1), restS r.2 q.2 vs)
theorem putD_len {ps : List (L2.Key × D)} {k : L2.Key} {d : D} : (putD ps k d).length ≤ ps.length + 1 := by
  unfold putD
  split
  · rw [List.length_map]; omega
  · rw [List.length_append]; exact Nat.le_refl _
theorem dc_imp {us vs : List Nat} {fi : IM} {g : TG} {gD : GM} {tt : BM} {tk tv : EM} (tg : TgS K ct us g gD) (hus : ∀ i ∈ us, i ∈ vs) (σ : L2.St) (H : Hp) (Q : VK) (h : tE K ct (eDc fi gD tt tk tv vs) σ H Q) :
    tDc (tI K ct fi) g (tT K ct tt) (tE K ct (fzE tk)) (tE K ct (fzE tv)) vs σ H Q := by
  obtain ⟨mu, ow, ε, val, ε', S, hf, k⟩ := h
  unfold eDc at hf
  cases e : fi ε with
  | none => simp [e] at hf
  | some r =>
    simp only [e, Option.bind_some] at hf
    cases e1 : compDL gD tt tk tv vs r.1 [] r.2 with
    | none => simp [e1] at hf
    | some q =>
      simp only [e1, Option.map_some, Option.some.injEq, Prod.mk.injEq] at hf
      obtain ⟨rfl, rfl⟩ := hf
      refine ⟨mu, ow, ε, r.1, r.2, S, e, fun J H1 ow1 S1 fr1 hJ Da hD => ?_⟩
      have hsz := hJ.1
      obtain ⟨S1', fr1'⟩ := S1.alloc (o := .dK []) hD (some .tmp)
      refine ⟨fun i m H2 => m = r.1.length - i ∧ i ≤ r.1.length ∧ ∃ ow2 ε2 acc us, Sim ⟨K, ct, mu⟩ ow2 (wipeS ε2 vs) (L2.wipe σ vs) H2 ∧ Fr ow1 H1 ow2 H2 ∧ ow2 Da = some .tmp ∧ H2 Da = some (.dK us) ∧ KR ⟨K, ct, mu⟩ (cut H2 ow2) us acc ∧
          compDL gD tt tk tv vs (r.1.drop i) acc ε2 = some q ∧ acc.length ≤ i,
        ⟨r.1.length - 0, rfl, Nat.zero_le _, setO ow1 Da (some .tmp), r.2, [], [], S1'.wipe vs, fr1', setO_same, upd_same, .nil, e1, Nat.zero_le _⟩, fun i m H2 hW => ?_⟩
      obtain ⟨rfl, hile, ow2, ε2, acc, us', S2, fr2, hT, hL, ra, hc, hai⟩ := hW
      have sb : Sub (cut H1 ow1) (cut H2 ow2) := fr2.sub
      by_cases hi : i < r.1.length
      · have hd : r.1[i]? = some r.1[i] := List.getElem?_eq_getElem hi
        obtain ⟨hgo, hy⟩ := (hJ.2 i H2 (sb.trans cut_sub)).2 _ hd
        rw [List.drop_eq_getElem_cons hi] at hc
        have hc' : ((gD r.1[i] (wipeS ε2 vs)).bind fun ε1 => (tt ε1).bind fun r' => if r'.1 = true then (escE tk r'.2).bind fun k => (keyD k.1).bind fun key => (escE tv k.2).bind fun y => compDL gD tt tk tv vs (r.1.drop (i + 1)) (putD acc key y.1) y.2 else compDL gD tt tk tv vs (r.1.drop (i + 1)) acc r'.2) = some q := hc
        cases e2 : gD r.1[i] (wipeS ε2 vs) with
        | none => simp [e2] at hc'
        | some ε3 =>
          simp only [e2, Option.bind_some] at hc'
          cases e3 : tt ε3 with
          | none => simp [e3] at hc'
          | some tb =>
            simp only [e3, Option.bind_some] at hc'
            refine .inr ⟨hgo, fun H' => ∃ ow2 ε2 acc us, Sim ⟨K, ct, mu⟩ ow2 (wipeS ε2 vs) (L2.wipe σ vs) H' ∧ Fr ow1 H1 ow2 H' ∧ ow2 Da = some .tmp ∧ H' Da = some (.dK us) ∧ KR ⟨K, ct, mu⟩ (cut H' ow2) us acc ∧
              compDL gD tt tk tv vs (r.1.drop (i + 1)) acc ε2 = some q ∧ acc.length ≤ i + 1, fun H' hN => ⟨r.1.length - (i + 1), by omega, rfl, by omega, hN⟩, fun x H' hx => ?_⟩
            obtain ⟨ow3, S3, fr3, r3⟩ := Fresh.sim S2 ((hy x H' hx).mono sb)
            refine tg mu ow3 (wipeS ε2 vs) (L2.wipe σ vs) H' x _ ε3 _ S3 r3 e2 fun σ4 S4 w4 => ?_
            have hw : L2.wipe σ4 vs = L2.wipe σ vs := by
              rw [w4 vs hus]
              refine List.ext_getElem? fun j => ?_
              rw [wipe_get, wipe_get]
              by_cases hj : j ∈ vs
              · rw [if_pos hj, if_pos hj, Option.map_map]; rfl
              · rw [if_neg hj, if_neg hj]
            refine ⟨hw, ?_⟩
            refine tT_then e3 S4 fun H5 ow5 S5 fr5 => ?_
            have fr25 := fr3.trans fr5
            obtain ⟨hT5, hL5⟩ := fr25.ke Da _ .tmp hL hT (.inl rfl)
            have ra5 := ra.mono fr25.sub
            by_cases hb : tb.1 = true
            · rw [if_pos hb] at hc' ⊢
              cases e4 : escE tk tb.2 with
              | none => simp [e4] at hc'
              | some kq =>
                simp only [e4, Option.bind_some] at hc'
                cases ek : keyD kq.1 with
                | none => simp [ek] at hc'
                | some key =>
                  simp only [ek, Option.bind_some] at hc'
                  cases e5 : escE tv kq.2 with
                  | none => simp [e5] at hc'
                  | some y =>
                    simp only [e5, Option.bind_some] at hc'
                    obtain ⟨kv, k6, k7⟩ := escE_some e4
                    refine ⟨mu, ow5, tb.2, kv.1, kv.2, S5, k6, fun kvv Hk owk Sk frk rk => ?_⟩
                    obtain ⟨vk, hk, hvk⟩ := fzE_some k6
                    rw [hvk] at rk k7
                    obtain ⟨owl, Sl, frl, rl⟩ := VR.esc Sk rk k7
                    have hkey : kvv = kV key := keyD_rp rl ek
                    have fr5k := frk.trans frl
                    obtain ⟨hT6, hL6⟩ := fr5k.ke Da _ .tmp hL5 hT5 (.inl rfl)
                    have ra6 := ra5.mono fr5k.sub
                    obtain ⟨yv, e6, e7⟩ := escE_some e5
                    refine ⟨mu, owl, kq.2, yv.1, yv.2, Sl, e6, fun v H6 ow6 S6 fr6 r6 => ?_⟩
                    obtain ⟨va, ha, hv⟩ := fzE_some e6
                    rw [hv] at r6 e7
                    obtain ⟨ow7, S7, fr7, r7⟩ := VR.esc S6 r6 e7
                    have fr57 := fr6.trans fr7
                    obtain ⟨hT7, hL7⟩ := fr57.ke Da _ .tmp hL6 hT6 (.inl rfl)
                    have ra7 := ra6.mono fr57.sub
                    have hll : us'.length = acc.length := ra.len
                    refine ⟨us', key, hkey, hL7, Nat.lt_of_lt_of_le (m := r.1.length) (by omega) (sz_line hsz), ?_⟩
                    -- the dict grows
                    have hcut : cut (upd H6 Da (.dK (putK us' key v))) ow7 = cut H6 ow7 := by
                      funext a
                      by_cases haD : a = Da
                      · subst haD; unfold cut; rw [hT7]
                      · unfold cut; rw [upd_ne haD]
                    have S8 : Sim ⟨K, ct, mu⟩ ow7 y.2 σ4 (upd H6 Da (.dK (putK us' key v))) := S7.move (by rw [hcut]; exact Sub.refl _) fun a o w h e q => by
                      have n : a ≠ Da := by
                        rintro rfl
                        rw [hT7] at e; cases e
                        rcases q with ⟨_, q⟩ | ⟨_, q⟩ <;> cases q
                      exact ⟨e, by rw [upd_ne n]; exact h⟩
                    have fr8 : Fr ow1 H1 ow7 (upd H6 Da (.dK (putK us' key v))) := by
                      have f := ((fr2.trans fr25).trans fr5k).trans fr57
                      have ne : ∀ a o, H1 a = some o → a ≠ Da := fun a o h => ne_of_none h hD
                      exact ⟨fun a o h e => by rw [upd_ne (ne a o h)]; exact f.fz a o h e, fun a o w h e q => by rw [upd_ne (ne a o h)]; exact f.ke a o w h e q,
                        fun a o h => by rw [upd_ne (ne a o h)]; exact f.tr a o h, f.ob⟩
                    refine ⟨ow7, y.2, putD acc key y.1, putK us' key v, ?_, fr8, hT7, upd_same, ?_, hc', Nat.le_trans putD_len (by omega)⟩
                    · have := S8.wipe vs
                      rw [hw] at this
                      exact this
                    · rw [hcut]; exact ra7.put key r7
            · rw [if_neg hb] at hc' ⊢
              refine ⟨ow5, tb.2, acc, us', ?_, fr2.trans fr25, hT5, hL5, ra5, hc', by omega⟩
              have := S5.wipe vs
              rw [hw] at this
              exact this
      · have hl2 : r.1.drop i = [] := List.drop_eq_nil_of_le (by omega)
        rw [hl2] at hc
        cases hc
        refine .inl ⟨(hJ.2 i H2 (sb.trans cut_sub)).1 (by omega), ?_⟩
        obtain ⟨q1, q2, q3⟩ := ra.split
        exact k _ H2 ow2 (Sim.rest S1 fr2 S2) (fr1.trans fr2) ⟨Da, rfl, hT, fr1.none hD, us'.map (·.2), by rw [← q1]; exact hL, q3, q2⟩
theorem de_dc {kx vx tg iter : Expr} {ifs : List Expr} {scope : Scope} {own : List (Str × Nat)} {pos : Pos} {us : List Nat} {fi : IM} {g : TG} {gD : GM} {tt : BM} {tk tv : EM} (hc : X.calm = true) (hN : X.N.Nodup) (hi : PI X tg iter (tI X.K ct fi)) (ok : BlkOk X.N X.env.scope scope own)
    (ht0 : TgS X.K ct us g gD) (hus : ∀ i ∈ us, i ∈ own.map (·.2))
    (hg : ∀ (s : Shared) (H : Hp) (C : Addr) (cl : List (Str × Addr)) (fp : List Addr), PG (X.blk s H scope (compEnvC scope cl C X.env) fp) tg g) (ht : ∀ (s : Shared) (H : Hp) (C : Addr) (cl : List (Str × Addr)) (fp : List Addr), PTs (X.blk s H scope (compEnvC scope cl C X.env) fp) ifs (tT X.K ct tt))
    (hk : ∀ (s : Shared) (H : Hp) (C : Addr) (cl : List (Str × Addr)) (fp : List Addr), PE (X.blk s H scope (compEnvC scope cl C X.env) fp) kx (tE X.K ct tk))
    (he : ∀ (s : Shared) (H : Hp) (C : Addr) (cl : List (Str × Addr)) (fp : List Addr), PE (X.blk s H scope (compEnvC scope cl C X.env) fp) vx (tE X.K ct tv)) (hs : ∀ x, foldedSetIterable iter X.env x = pure x := by intro _; rfl) :
    PE X (.DictComp kx vx [⟨tg, iter, ifs, 0⟩] scope pos) (tE X.K ct (eDc fi gD tt tk tv (own.map (·.2)))) :=
  (pe_dc hc hN hi ok hg ht (fun s H C cl fp => de_fz (X := X.blk s H scope (compEnvC scope cl C X.env) fp) (hk s H C cl fp)) (fun s H C cl fp => de_fz (X := X.blk s H scope (compEnvC scope cl C X.env) fp) (he s H C cl fp)) hs).imp (dc_imp ht0 hus)
end
end KD

set_option maxHeartbeats 4000000
namespace KD
open PySem PySem.Spec PyProof.Rows L2
section
variable {X : Cx} {ct : Nat → Addr} {Γ : Gam} {K : PySem.W.Frag}
/-! ### dicts made and changed: {}, {k: v}, d[k] = v, d.get(k, x), d.setdefault(k, x) -/
def eDnew : EM := fun ε => some (.new (.dct [] []), ε)
theorem de_dnew {pos : Pos} : PE X (.Dict [] [] pos) (tE X.K ct eDnew) := pe_dnewK.imp fun σ H Q ⟨mu, ow, ε, val, ε', S, hf, k⟩ => by
  cases hf
  intro p hp
  obtain ⟨ow3, S3, fr3, v3⟩ := Fresh.sim S (.dct (ks := []) (vs := []) (ds := []) hp rfl .nil)
  exact k _ _ ow3 S3 fr3 v3
/-- a temporary object of no slot is changed -/
theorem tmp_write {mu : Nat → Option Addr} {ow0 ow : OwF} {ε : SE} {σ : L2.St} {H0 H : Hp} {p : Addr} (S : Sim ⟨K, ct, mu⟩ ow ε σ H) (f : Fr ow0 H0 ow H) (hp : H0 p = none) (hT : ow p = some .tmp) (o : HO) :
    cut (upd H p o) ow = cut H ow ∧ Sim ⟨K, ct, mu⟩ ow ε σ (upd H p o) ∧ Fr ow0 H0 ow (upd H p o) := by
  have hcut : cut (upd H p o) ow = cut H ow := by
    funext a
    by_cases haD : a = p
    · subst haD; unfold cut; rw [hT]
    · unfold cut; rw [upd_ne haD]
  refine ⟨hcut, S.move (by rw [hcut]; exact Sub.refl _) fun a o w h e q => ?_, ?_⟩
  · have n : a ≠ p := by
      rintro rfl
      rw [hT] at e; cases e
      rcases q with ⟨_, q⟩ | ⟨_, q⟩ <;> cases q
    exact ⟨e, by rw [upd_ne n]; exact h⟩
  · have ne : ∀ a o, H0 a = some o → a ≠ p := fun a o h => ne_of_none h hp
    exact ⟨fun a o h e => by rw [upd_ne (ne a o h)]; exact f.fz a o h e, fun a o w h e q => by rw [upd_ne (ne a o h)]; exact f.ke a o w h e q,
      fun a o h => by rw [upd_ne (ne a o h)]; exact f.tr a o h, f.ob⟩
def eDisp1 (fk fv : EM) : EM := fun ε => (escE fk ε).bind fun k => (keyD k.1).bind fun key => (escE fv k.2).map fun y => (.new (.dct [key] [y.1]), y.2)
theorem de_disp1 {kx vx : Expr} {pos : Pos} {fk fv : EM} (hk : PE X kx (tE X.K ct fk)) (hv : PE X vx (tE X.K ct fv)) : PE X (.Dict [some kx] [vx] pos) (tE X.K ct (eDisp1 fk fv)) :=
  (pe_disp (pps_cons (de_fz hk) (de_fz hv) pps_nil) rfl rfl (fun z => by cases z) (Nat.le_add_left 1 14)).imp fun σ H Q ⟨mu, ow, ε, val, ε', S, hf, k⟩ => by
    unfold eDisp1 at hf
    cases e1 : escE fk ε with
    | none => simp [e1] at hf
    | some kq =>
      simp only [e1, Option.bind_some] at hf
      cases e2 : keyD kq.1 with
      | none => simp [e2] at hf
      | some key =>
        simp only [e2, Option.bind_some] at hf
        cases e3 : escE fv kq.2 with
        | none => simp [e3] at hf
        | some y =>
          simp only [e3, Option.map_some, Option.some.injEq, Prod.mk.injEq] at hf
          obtain ⟨rfl, rfl⟩ := hf
          intro p hp
          obtain ⟨S1, fr1⟩ := S.alloc (o := .dK []) hp (some .tmp)
          refine tE_esc e1 S1 fun kv H2 ow2 S2 fr2 r2 => tE_esc e3 S2 fun v H3 ow3 S3 fr3 r3 => ?_
          obtain ⟨hT, hL⟩ := (fr2.trans fr3).ke p _ .tmp upd_same setO_same (.inl rfl)
          obtain ⟨hcut, S4, fr4⟩ := tmp_write S3 (fr1.trans (fr2.trans fr3)) hp hT (.dK [(key, v)])
          refine ⟨hL, [(key, v)], ?_, Nat.le_add_left 1 14, ?_⟩
          · rw [keyD_rp r2 e2]; rfl
          · exact k _ _ ow3 S4 fr4 ⟨p, rfl, hT, hp, [v], upd_same, rfl, by have q := RpAll.one r3; rw [← hcut] at q; exact q⟩
/-- d[k] = v -/
def putR (d : D) (v : Val) (ε : SE) : Option MO → Option L2.Key → Option Out
  | some (.dct ks l), some key => if ks.length < 16777216 then some (.nx (put ε (dctM (putD (ks.zip l) key d)) v)) else none
  | _, _ => none
def sDput (fo fi fe : EM) : SM := fun ε => (escE fe ε).bind fun re => (fzE fo re.2).bind fun ro => (fzE fi ro.2).bind fun ri => putR re.1 ro.1 ri.2 (tgt ri.2 ro.1) ((ri.1.res ri.2).bind keyD)
theorem ds_dput {fo fi fe : EM} {o i value : Expr} {pos pos' : Pos} (hu : X.A.units + 1 < cLine) (he : PE X value (tE X.K ct fe)) (ho : PE X o (tE X.K ct fo)) (hi : PE X i (tE X.K ct fi))
    (hs : swapsWith value (some (.Subscript o i pos')) pos.line X.env = pure false) : PS X (.Assign [.Subscript o i pos'] value pos) (tS X.K ct (sDput fo fi fe)) := (ps_dput hu (de_fz ho) (de_fz hi) (de_fz he) hs).imp fun E σ H ⟨mu, ow, ε, out, S, hf, k⟩ => by
  unfold sDput at hf
  cases e1 : escE fe ε with
  | none => simp [e1] at hf
  | some re =>
    simp only [e1, Option.bind_some] at hf
    cases e2 : fzE fo re.2 with
    | none => simp [e2] at hf
    | some ro =>
      simp only [e2, Option.bind_some] at hf
      cases e3 : fzE fi ro.2 with
      | none => simp [e3] at hf
      | some ri =>
        simp only [e3, Option.bind_some] at hf
        unfold putR at hf
        split at hf
        · rename_i ks l key ht hi
          split at hf
          · rename_i hsz
            cases hf
            cases e4 : ri.1.res ri.2 with
            | none => simp [e4] at hi
            | some dk =>
              simp only [e4, Option.bind_some] at hi
              refine tE_esc e1 S fun v H1 ow1 S1 fr1 r1 => ⟨mu, ow1, re.2, ro.1, ro.2, S1, e2, fun x H2 ow2 S2 fr2 r2 => ⟨mu, ow2, ro.2, ri.1, ri.2, S2, e3, fun y H3 ow3 S3 fr3 r3 => ?_⟩⟩
              obtain ⟨va, ha, hv⟩ := fzE_some e2
              rw [hv] at r2 ht
              obtain ⟨p, rfl, ⟨vs, h1, h2, h3⟩, ch⟩ := S3.change (r2.carry fr3 (H0' := H3)) ht
              have r1' := r1.mono (fr2.trans fr3).sub
              have rI : y = kV key := keyD_rp ((VR.res S3 r3 e4).up cut_sub) hi
              subst rI
              have kr := (KR.of h2 h3).put key r1'
              obtain ⟨q1, q2, q3⟩ := kr.split
              refine ⟨p, _, rfl, DPut.k h1 (by rw [List.length_zip, h2, Nat.min_self]; exact Nat.lt_of_lt_of_le hsz (by rw [sizeLine_eq]; decide)), ?_⟩
              obtain ⟨S4, fr4⟩ := ch (.dK (putK (ks.zip vs) key v)) (dctM (putD (ks.zip l) key re.1)) ⟨_, by rw [upd_same, q1]; simp [zip_fst q3], q3, q2⟩
              exact k σ _ ow3 (by rw [hv]; exact S4) (((fr1.trans fr2).trans fr3).trans fr4)
          · cases hf
        · cases hf
/-- d.get(k, x) -/
def isDct : D → Bool
  | .dct _ _ => true
  | _ => false
def dgetO : D → D → Option (Option D)
  | .dct ks l, i => (keyD i).map fun k => valD (ks.zip l) k
  | _, _ => none
def eDget2 (fo fk fx : EM) : EM := fun ε => (fzE fo ε).bind fun ro => (ro.1.res ro.2).bind fun d0 => if isDct d0 = true then (fzE fk ro.2).bind fun rk => (escE fx rk.2).bind fun rx => (ro.1.res rx.2).bind fun d => (rk.1.res rx.2).bind fun i => (dgetO d i).map fun o => (.d (o.getD rx.1), rx.2) else none
theorem de_dget2 {fo fk fx : EM} {o e f : Expr} {apos cpos : Pos} (hu : X.A.units + 1 < cLine) (ho : PE X o (tE X.K ct fo)) (he : PE X e (tE X.K ct fk)) (hf : PE X f (tE X.K ct fx)) (m : M2 X o "get" apos e f cpos) :
    PE X (.Call (.Attribute o "get" apos) [e, f] [] cpos) (tE X.K ct (eDget2 fo fk fx)) := (pe_dget2 hu (de_fz ho) (de_fz he) (de_fz hf) m).imp fun σ H Q ⟨mu, ow, ε, val, ε', S, hf, k⟩ => by
  unfold eDget2 at hf
  cases e1 : fzE fo ε with
  | none => simp [e1] at hf
  | some ro =>
    simp only [e1, Option.bind_some] at hf
    cases e2 : ro.1.res ro.2 with
    | none => simp [e2] at hf
    | some d0 =>
      simp only [e2, Option.bind_some] at hf
      split at hf
      · rename_i hd0
        cases e3 : fzE fk ro.2 with
        | none => simp [e3] at hf
        | some rk =>
          simp only [e3, Option.bind_some] at hf
          cases e4 : escE fx rk.2 with
          | none => simp [e4] at hf
          | some rx =>
            simp only [e4, Option.bind_some] at hf
            cases e5 : ro.1.res rx.2 with
            | none => simp [e5] at hf
            | some d =>
              simp only [e5, Option.bind_some] at hf
              cases e6 : rk.1.res rx.2 with
              | none => simp [e6] at hf
              | some i =>
                simp only [e6, Option.bind_some] at hf
                cases e7 : dgetO d i with
                | none => simp [e7] at hf
                | some oo =>
                  simp only [e7, Option.map_some, Option.some.injEq, Prod.mk.injEq] at hf
                  obtain ⟨rfl, rfl⟩ := hf
                  obtain ⟨va, ha, hv⟩ := fzE_some e1
                  obtain ⟨vb, hb, hw⟩ := fzE_some e3
                  refine ⟨mu, ow, ε, ro.1, ro.2, S, e1, fun x H1 ow1 S1 fr1 r1 => ?_⟩
                  have rd0 := VR.res S1 r1 e2
                  cases d0 <;> first | (cases hd0; done) | skip
                  obtain ⟨a0, vs0, rfl, g1, _⟩ := rd0.dct cut_sub
                  refine ⟨a0, rfl, .inl ⟨_, .inl g1⟩, mu, ow1, ro.2, rk.1, rk.2, S1, e3, fun y H2 ow2 S2 fr2 r2 => tE_esc e4 S2 fun z H3 ow3 S3 fr3 r3 => ?_⟩
                  have r1' : VR ⟨X.K, ct, mu⟩ ow3 H2 σ H3 (.ref a0) ro.1 := by rw [hv] at r1 ⊢; exact r1.carry (fr2.trans fr3)
                  have r2' : VR ⟨X.K, ct, mu⟩ ow3 H2 σ H3 y rk.1 := by rw [hw] at r2 ⊢; exact r2.carry fr3
                  have rd := VR.res S3 r1' e5
                  cases d <;> first | (cases e7; done) | skip
                  obtain ⟨a, vs, ea, g2, g3, _⟩ := rd.dct cut_sub
                  cases ea
                  obtain ⟨key, ek, rfl⟩ := Option.map_eq_some_iff.mp e7
                  have ey := keyD_rp ((VR.res S3 r2' e6).up cut_sub) ek
                  subst ey
                  refine ⟨_, DGet.k g2, ?_⟩
                  have fr := (fr1.trans fr2).trans fr3
                  rcases g3.val key with ⟨q1, q2⟩ | ⟨w, dd, q1, q2, q3⟩
                  · rw [q1]
                    exact k _ H3 ow3 S3 fr (by rw [q2]; exact r3)
                  · rw [q1]
                    exact k _ H3 ow3 S3 fr (by rw [q2]; exact q3)
      · cases hf
/-- d.setdefault(k, x) -/
def isMdct : MO → Bool
  | .dct _ _ => true
  | _ => false
def setdR (x : D) (v : Val) (ε : SE) : Option MO → Option L2.Key → Option (Val × SE)
  | some (.dct ks l), some key => if ks.length < 16777216 then (match valD (ks.zip l) key with
    | some d => some (.d d, ε)
    | none => some (.d x, put ε (dctM (putD (ks.zip l) key x)) v)) else none
  | _, _ => none
def eDsetd (fo fk fx : EM) : EM := fun ε => (fzE fo ε).bind fun ro => (tgt ro.2 ro.1).bind fun m0 => if isMdct m0 = true then (fzE fk ro.2).bind fun rk => (escE fx rk.2).bind fun rx => setdR rx.1 ro.1 rx.2 (tgt rx.2 ro.1) ((rk.1.res rx.2).bind keyD) else none
theorem de_dsetd {fo fk fx : EM} {o e f : Expr} {apos cpos : Pos} (ho : PE X o (tE X.K ct fo)) (he : PE X e (tE X.K ct fk)) (hf : PE X f (tE X.K ct fx)) (m : M2 X o "setdefault" apos e f cpos) :
    PE X (.Call (.Attribute o "setdefault" apos) [e, f] [] cpos) (tE X.K ct (eDsetd fo fk fx)) := (pe_dsetd (de_fz ho) (de_fz he) (de_fz hf) m).imp fun σ H Q ⟨mu, ow, ε, val, ε', S, hf, k⟩ => by
  unfold eDsetd at hf
  cases e1 : fzE fo ε with
  | none => simp [e1] at hf
  | some ro =>
    simp only [e1, Option.bind_some] at hf
    cases e2 : tgt ro.2 ro.1 with
    | none => simp [e2] at hf
    | some m0 =>
      simp only [e2, Option.bind_some] at hf
      split at hf
      · rename_i hd0
        cases e3 : fzE fk ro.2 with
        | none => simp [e3] at hf
        | some rk =>
          simp only [e3, Option.bind_some] at hf
          cases e4 : escE fx rk.2 with
          | none => simp [e4] at hf
          | some rx =>
            simp only [e4, Option.bind_some] at hf
            unfold setdR at hf
            split at hf
            · rename_i ks l key ht hi
              split at hf
              · rename_i hsz
                cases e6 : rk.1.res rx.2 with
                | none => simp [e6] at hi
                | some i =>
                  simp only [e6, Option.bind_some] at hi
                  obtain ⟨va, ha, hv⟩ := fzE_some e1
                  obtain ⟨vb, hb, hw⟩ := fzE_some e3
                  refine ⟨mu, ow, ε, ro.1, ro.2, S, e1, fun x H1 ow1 S1 fr1 r1 => ?_⟩
                  rw [hv] at r1 e2 ht
                  obtain ⟨p0, rfl, ho0, _⟩ := S1.change r1 e2
                  cases m0 <;> first | (cases hd0; done) | skip
                  obtain ⟨vs0, g1, _⟩ := ho0
                  refine ⟨p0, rfl, .inl ⟨_, .inl g1⟩, mu, ow1, ro.2, rk.1, rk.2, S1, e3, fun y H2 ow2 S2 fr2 r2 => tE_esc e4 S2 fun z H3 ow3 S3 fr3 r3 => ?_⟩
                  have r1' : VR ⟨X.K, ct, mu⟩ ow3 H2 σ H3 (.ref p0) (fzv va) := r1.carry (fr2.trans fr3)
                  have r2' : VR ⟨X.K, ct, mu⟩ ow3 H2 σ H3 y rk.1 := by rw [hw] at r2 ⊢; exact r2.carry fr3
                  obtain ⟨p, ep, ⟨vs, h1, h2, h3⟩, ch⟩ := S3.change r1' ht
                  cases ep
                  have ey := keyD_rp ((VR.res S3 r2' e6).up cut_sub) hi
                  subst ey
                  have fr := (fr1.trans fr2).trans fr3
                  have g3 := KR.of h2 h3
                  refine ⟨_, key, h1, rfl, by rw [List.length_zip, h2, Nat.min_self]; exact Nat.lt_of_lt_of_le hsz (by rw [sizeLine_eq]; decide), fun v hv' => ?_, fun hn => ?_⟩
                  · rcases g3.val key with ⟨q1, q2⟩ | ⟨w, dd, q1, q2, q3⟩
                    · rw [q1] at hv'; cases hv'
                    · rw [q1] at hv'
                      cases hv'
                      rw [q2] at hf
                      cases hf
                      exact k _ H3 ow3 S3 fr q3
                  · rcases g3.val key with ⟨q1, q2⟩ | ⟨w, dd, q1, q2, q3⟩
                    · rw [q2] at hf
                      cases hf
                      have kr := g3.put key r3
                      obtain ⟨q1, q2, q3⟩ := kr.split
                      obtain ⟨S4, fr4⟩ := ch (.dK (putK (ks.zip vs) key z)) (dctM (putD (ks.zip l) key rx.1)) ⟨_, by rw [upd_same, q1]; simp [zip_fst q3], q3, q2⟩
                      exact k z _ ow3 (by rw [hv]; exact S4) (fr.trans fr4) (r3.mono fr4.sub)
                    · rw [q1] at hn; cases hn
              · cases hf
            · cases hf
      · cases hf
end
end KD

set_option maxHeartbeats 4000000
namespace KD
open PySem PySem.Spec PyProof.Rows L2
section
variable {X : Cx} {ct : Nat → Addr} {Γ : Gam}
/-! ### [e for .. in .. for .. in ..] -/
def compL2 (g : GM) (tt : BM) (fi1 : IM) (g1 : GM) (tt1 : BM) (te : EM) (vs vs1 : List Nat) : List D → SE → Option (List D × SE)
  | [], ε => some ([], ε)
  | d :: ds, ε => (g d (wipeS ε vs)).bind fun ε1 => (tt ε1).bind fun r => if r.1 = true then (fi1 r.2).bind fun q => (compL g1 tt1 te vs1 q.1 q.2).bind fun y => (compL2 g tt fi1 g1 tt1 te vs vs1 ds y.2).map fun z => (y.1 ++ z.1, z.2)
      else compL2 g tt fi1 g1 tt1 te vs vs1 ds r.2
def eLc2 (fi : IM) (g : GM) (tt : BM) (fi1 : IM) (g1 : GM) (tt1 : BM) (te : EM) (vs vs1 : List Nat) : EM := fun ε => (fi ε).bind fun r => (compL2 g tt fi1 g1 tt1 te vs vs1 r.1 r.2).bind fun q => if q.1.length ≤ 16777216 then some (.new (.lst q.1), restS r.2 q.2 vs) else none
theorem SE.ext {a b : SE} (h1 : a.sl = b.sl) (h2 : a.M = b.M) : a = b := by cases a; cases b; simp only [SE.mk.injEq]; exact ⟨h1, h2⟩
theorem wipeS_wipeS {ε : SE} {vs vs1 : List Nat} (h : ∀ i ∈ vs1, i ∈ vs) : wipeS (wipeS ε vs1) vs = wipeS ε vs := by
  refine SE.ext (List.ext_getElem? fun j => ?_) (by rw [wipeS_M, wipeS_M, wipeS_M])
  rw [wipeS_get, wipeS_get, wipeS_get]
  by_cases hj : j ∈ vs
  · rw [if_pos hj, if_pos hj]
    split
    · rw [Option.map_map]; rfl
    · rfl
  · rw [if_neg hj, if_neg hj, if_neg fun q => hj (h j q)]
theorem wipe_wipe {σ : L2.St} {vs vs1 : List Nat} (h : ∀ i ∈ vs1, i ∈ vs) : L2.wipe (L2.wipe σ vs1) vs = L2.wipe σ vs := by
  refine List.ext_getElem? fun j => ?_
  rw [wipe_get, wipe_get, wipe_get]
  by_cases hj : j ∈ vs
  · rw [if_pos hj, if_pos hj]
    split
    · rw [Option.map_map]; rfl
    · rfl
  · rw [if_neg hj, if_neg hj, if_neg fun q => hj (h j q)]
theorem wipe_twice {σ4 σ : L2.St} {vs : List Nat} (w4 : L2.wipe σ4 vs = L2.wipe (L2.wipe σ vs) vs) : L2.wipe σ4 vs = L2.wipe σ vs := by
  rw [w4, wipe_wipe fun _ h => h]
theorem lc2_imp {K : PySem.W.Frag} {us us1 vs vs1 : List Nat} {fi fi1 : IM} {g g1 : TG} {gD gD1 : GM} {tt tt1 : BM} {te : EM} (tg : TgS K ct us g gD) (hus : ∀ i ∈ us, i ∈ vs) (tg1 : TgS K ct us1 g1 gD1) (hus1 : ∀ i ∈ us1, i ∈ vs1) (hv : ∀ i ∈ vs1, i ∈ vs) (σ : L2.St) (H : Hp) (Q : VK) (h : tE K ct (eLc2 fi gD tt fi1 gD1 tt1 te vs vs1) σ H Q) :
    tLc2 (tI K ct fi) g (tT K ct tt) (tI K ct fi1) g1 (tT K ct tt1) (tE K ct (fzE te)) vs vs1 σ H Q := by
  obtain ⟨mu, ow, ε, val, ε', S, hf, k⟩ := h
  unfold eLc2 at hf
  cases e : fi ε with
  | none => simp [e] at hf
  | some r =>
    simp only [e, Option.bind_some] at hf
    cases e1 : compL2 gD tt fi1 gD1 tt1 te vs vs1 r.1 r.2 with
    | none => simp [e1] at hf
    | some q =>
      simp only [e1, Option.bind_some] at hf
      by_cases hq6 : q.1.length ≤ 16777216
      · rw [if_pos hq6] at hf
        simp only [Option.some.injEq, Prod.mk.injEq] at hf
        obtain ⟨rfl, rfl⟩ := hf
        refine ⟨mu, ow, ε, r.1, r.2, S, e, fun J H1 ow1 S1 fr1 hJ Da hD => ?_⟩
        obtain ⟨S1', fr1'⟩ := S1.alloc (o := .lst []) hD (some .tmp)
        refine ⟨fun i m H2 => m = r.1.length - i ∧ i ≤ r.1.length ∧ ∃ ow2 ε2 acc us rest, Sim ⟨K, ct, mu⟩ ow2 (wipeS ε2 vs) (L2.wipe σ vs) H2 ∧ Fr ow1 H1 ow2 H2 ∧ ow2 Da = some .tmp ∧ H2 Da = some (.lst us) ∧ RpAll ⟨K, ct, mu⟩ (cut H2 ow2) us acc ∧
            compL2 gD tt fi1 gD1 tt1 te vs vs1 (r.1.drop i) ε2 = some rest ∧ q = (acc ++ rest.1, rest.2),
          ⟨r.1.length - 0, rfl, Nat.zero_le _, setO ow1 Da (some .tmp), r.2, [], [], q, S1'.wipe vs, fr1', setO_same, upd_same, .nil, e1, rfl⟩, fun i m H2 hW => ?_⟩
        obtain ⟨rfl, hile, ow2, ε2, acc, us', rest, S2, fr2, hT, hL, ra, hc, hq⟩ := hW
        have sb : Sub (cut H1 ow1) (cut H2 ow2) := fr2.sub
        by_cases hi : i < r.1.length
        · have hd : r.1[i]? = some r.1[i] := List.getElem?_eq_getElem hi
          obtain ⟨hgo, hy⟩ := (hJ.2 i H2 (sb.trans cut_sub)).2 _ hd
          rw [List.drop_eq_getElem_cons hi] at hc
          have hc' : ((gD r.1[i] (wipeS ε2 vs)).bind fun ε1 => (tt ε1).bind fun r' => if r'.1 = true then (fi1 r'.2).bind fun q => (compL gD1 tt1 te vs1 q.1 q.2).bind fun y => (compL2 gD tt fi1 gD1 tt1 te vs vs1 (r.1.drop (i + 1)) y.2).map fun z => (y.1 ++ z.1, z.2)
              else compL2 gD tt fi1 gD1 tt1 te vs vs1 (r.1.drop (i + 1)) r'.2) = some rest := hc
          cases e2 : gD r.1[i] (wipeS ε2 vs) with
          | none => simp [e2] at hc'
          | some ε3 =>
            simp only [e2, Option.bind_some] at hc'
            cases e3 : tt ε3 with
            | none => simp [e3] at hc'
            | some tb =>
              simp only [e3, Option.bind_some] at hc'
              refine .inr ⟨hgo, fun H' => ∃ ow2 ε2 acc us rest, Sim ⟨K, ct, mu⟩ ow2 (wipeS ε2 vs) (L2.wipe σ vs) H' ∧ Fr ow1 H1 ow2 H' ∧ ow2 Da = some .tmp ∧ H' Da = some (.lst us) ∧ RpAll ⟨K, ct, mu⟩ (cut H' ow2) us acc ∧
                compL2 gD tt fi1 gD1 tt1 te vs vs1 (r.1.drop (i + 1)) ε2 = some rest ∧ q = (acc ++ rest.1, rest.2), fun H' hN => ⟨r.1.length - (i + 1), by omega, rfl, by omega, hN⟩, fun x H' hx => ?_⟩
              obtain ⟨ow3, S3, fr3, r3⟩ := Fresh.sim S2 ((hy x H' hx).mono sb)
              refine tg mu ow3 (wipeS ε2 vs) (L2.wipe σ vs) H' x _ ε3 _ S3 r3 e2 fun σ4 S4 w4 => ?_
              have hw : L2.wipe σ4 vs = L2.wipe σ vs := wipe_twice (w4 vs hus)
              refine ⟨hw, ?_⟩
              refine tT_then e3 S4 fun H5 ow5 S5 fr5 => ?_
              have fr25 := fr3.trans fr5
              obtain ⟨hT5, hL5⟩ := fr25.ke Da _ .tmp hL hT (.inl rfl)
              have ra5 := ra.mono fr25.sub
              by_cases hb : tb.1 = true
              · rw [if_pos hb] at hc' ⊢
                cases e4 : fi1 tb.2 with
                | none => simp [e4] at hc'
                | some r1 =>
                  simp only [e4, Option.bind_some] at hc'
                  cases e5 : compL gD1 tt1 te vs1 r1.1 r1.2 with
                  | none => simp [e5] at hc'
                  | some y0 =>
                    simp only [e5, Option.bind_some] at hc'
                    cases e6 : compL2 gD tt fi1 gD1 tt1 te vs vs1 (r.1.drop (i + 1)) y0.2 with
                    | none => simp [e6] at hc'
                    | some rest2 =>
                      simp only [e6, Option.map_some, Option.some.injEq] at hc'
                      subst hc'
                      refine ⟨mu, ow5, tb.2, r1.1, r1.2, S5, e4, fun J1 H6 ow6 S6 fr6 hJ1 => ?_⟩
                      obtain ⟨hT6, hL6⟩ := fr6.ke Da _ .tmp hL5 hT5 (.inl rfl)
                      have ra6 := ra5.mono fr6.sub
                      have fr26 := (fr2.trans fr25).trans fr6
                      refine ⟨fun j m H7 => m = r1.1.length - j ∧ j ≤ r1.1.length ∧ ∃ ow7 ε7 acc7 us7 rest7, Sim ⟨K, ct, mu⟩ ow7 (wipeS ε7 vs1) (L2.wipe σ4 vs1) H7 ∧ Fr ow1 H1 ow7 H7 ∧ Sub (cut H6 ow6) (cut H7 ow7) ∧ ow7 Da = some .tmp ∧ H7 Da = some (.lst us7) ∧ RpAll ⟨K, ct, mu⟩ (cut H7 ow7) us7 acc7 ∧
                          compL gD1 tt1 te vs1 (r1.1.drop j) ε7 = some rest7 ∧ rest7.2 = y0.2 ∧ q.1 = acc7 ++ rest7.1 ++ rest2.1 ∧ q.2 = rest2.2, ⟨r1.1.length - 0, rfl, Nat.zero_le _, ow6, r1.2, acc, us', y0, S6.wipe vs1, fr26, Sub.refl _, hT6, hL6, ra6, e5, rfl, by rw [hq, List.append_assoc], by rw [hq]⟩, fun j m H7 hW7 => ?_⟩
                      obtain ⟨rfl, hjle, ow7, ε7, acc7, us7, rest7, S7, fr7, fr67, hT7, hL7, ra7, hc7, hy7, hq7, hq8⟩ := hW7
                      by_cases hj : j < r1.1.length
                      · have hd1 : r1.1[j]? = some r1.1[j] := List.getElem?_eq_getElem hj
                        obtain ⟨hgo1, hy1⟩ := (hJ1.2 j H7 (fr67.trans cut_sub)).2 _ hd1
                        rw [List.drop_eq_getElem_cons hj] at hc7
                        have hc7' : ((gD1 r1.1[j] (wipeS ε7 vs1)).bind fun ε1 => (tt1 ε1).bind fun r' => if r'.1 = true then (escE te r'.2).bind fun y => (compL gD1 tt1 te vs1 (r1.1.drop (j + 1)) y.2).map fun q => (y.1 :: q.1, q.2) else compL gD1 tt1 te vs1 (r1.1.drop (j + 1)) r'.2) = some rest7 := hc7
                        cases e8 : gD1 r1.1[j] (wipeS ε7 vs1) with
                        | none => simp [e8] at hc7'
                        | some ε8 =>
                          simp only [e8, Option.bind_some] at hc7'
                          cases e9 : tt1 ε8 with
                          | none => simp [e9] at hc7'
                          | some tb1 =>
                            simp only [e9, Option.bind_some] at hc7'
                            refine .inr ⟨hgo1, fun H7 => ∃ ow7 ε7 acc7 us7 rest7, Sim ⟨K, ct, mu⟩ ow7 (wipeS ε7 vs1) (L2.wipe σ4 vs1) H7 ∧ Fr ow1 H1 ow7 H7 ∧ Sub (cut H6 ow6) (cut H7 ow7) ∧ ow7 Da = some .tmp ∧ H7 Da = some (.lst us7) ∧ RpAll ⟨K, ct, mu⟩ (cut H7 ow7) us7 acc7 ∧
                              compL gD1 tt1 te vs1 (r1.1.drop (j + 1)) ε7 = some rest7 ∧ rest7.2 = y0.2 ∧ q.1 = acc7 ++ rest7.1 ++ rest2.1 ∧ q.2 = rest2.2, fun H' hN => ⟨r1.1.length - (j + 1), by omega, rfl, by omega, hN⟩, fun x1 H8 hx1 => ?_⟩
                            obtain ⟨ow8, S8, fr8, r8⟩ := Fresh.sim S7 ((hy1 x1 H8 hx1).mono fr67)
                            refine tg1 mu ow8 (wipeS ε7 vs1) (L2.wipe σ4 vs1) H8 x1 _ ε8 _ S8 r8 e8 fun σ9 S9 w9 => ?_
                            have hw9 : L2.wipe σ9 vs1 = L2.wipe σ4 vs1 := wipe_twice (w9 vs1 hus1)
                            refine ⟨hw9, ?_⟩
                            refine tT_then e9 S9 fun H9 ow9 S9' fr9 => ?_
                            have fr89 := fr8.trans fr9
                            obtain ⟨hT9, hL9⟩ := fr89.ke Da _ .tmp hL7 hT7 (.inl rfl)
                            have ra9 := ra7.mono fr89.sub
                            by_cases hb1 : tb1.1 = true
                            · rw [if_pos hb1] at hc7' ⊢
                              cases ea : escE te tb1.2 with
                              | none => simp [ea] at hc7'
                              | some y =>
                                simp only [ea, Option.bind_some] at hc7'
                                cases eb : compL gD1 tt1 te vs1 (r1.1.drop (j + 1)) y.2 with
                                | none => simp [eb] at hc7'
                                | some rest9 =>
                                  simp only [eb, Option.map_some, Option.some.injEq] at hc7'
                                  subst hc7'
                                  refine tE_esc ea S9' fun v Ha owa Sa fra ra' => ?_
                                  obtain ⟨hTa, hLa⟩ := fra.ke Da _ .tmp hL9 hT9 (.inl rfl)
                                  have raa := ra9.mono fra.sub
                                  have hll : us7.length = acc7.length := ra7.length
                                  have hlt : acc7.length + 1 ≤ q.1.length := by rw [hq7]; simp only [List.length_append, List.length_cons]; omega
                                  refine ⟨us7, hLa, by rw [hll]; exact Nat.lt_of_lt_of_le (Nat.lt_of_lt_of_le (Nat.lt_succ_self _) hlt) (sz_line hq6), ?_⟩
                                  have frA := (fr7.trans fr89).trans fra
                                  have frB := (fr67.trans fr89.sub).trans fra.sub
                                  obtain ⟨hcut, Sb, frb⟩ := tmp_write Sa frA hD hTa (.lst (us7 ++ [v]))
                                  refine ⟨owa, y.2, acc7 ++ [y.1], us7 ++ [v], rest9, ?_, frb, by rw [hcut]; exact frB, hTa, upd_same, ?_, eb, hy7, by rw [hq7]; simp, hq8⟩
                                  · have := Sb.wipe vs1
                                    rw [hw9] at this
                                    exact this
                                  · rw [hcut]; exact raa.append (.one ra')
                            · rw [if_neg hb1] at hc7' ⊢
                              refine ⟨ow9, tb1.2, acc7, us7, rest7, ?_, fr7.trans fr89, fr67.trans fr89.sub, hT9, hL9, ra9, hc7', hy7, hq7, hq8⟩
                              have := S9'.wipe vs1
                              rw [hw9] at this
                              exact this
                      · have hl2 : r1.1.drop j = [] := List.drop_eq_nil_of_le (by omega)
                        rw [hl2] at hc7
                        cases hc7
                        refine .inl ⟨(hJ1.2 j H7 (fr67.trans cut_sub)).1 (by omega), ow7, ε7, acc7, us7, rest2, ?_, fr7, hT7, hL7, ra7, by rw [← hy7] at e6; exact e6, ?_⟩
                        · have := S7.wipe vs
                          rw [wipeS_wipeS hv, wipe_wipe hv, hw] at this
                          exact this
                        · rw [Prod.ext_iff]
                          exact ⟨by rw [hq7]; simp, hq8⟩
              · rw [if_neg hb] at hc' ⊢
                refine ⟨ow5, tb.2, acc, us', rest, ?_, fr2.trans fr25, hT5, hL5, ra5, hc', hq⟩
                have := S5.wipe vs
                rw [hw] at this
                exact this
        · have hl2 : r.1.drop i = [] := List.drop_eq_nil_of_le (by omega)
          rw [hl2] at hc
          cases hc
          refine .inl ⟨(hJ.2 i H2 (sb.trans cut_sub)).1 (by omega), ?_⟩
          have hq' : q = (acc, ε2) := by rw [hq]; simp
          subst hq'
          exact k _ H2 ow2 (Sim.rest S1 fr2 S2) (fr1.trans fr2) ⟨Da, rfl, hT, fr1.none hD, us', hL, ra, hq6⟩
      · rw [if_neg hq6] at hf; cases hf
theorem de_lc2 {elt tg iter tg1 iter1 : Expr} {ifs ifs1 : List Expr} {scope : Scope} {own : List (Str × Nat)} {pos : Pos} {us us1 vs1 : List Nat} {fi fi1 : IM} {g g1 : TG} {gD gD1 : GM} {tt tt1 : BM} {te : EM} (hc : X.calm = true) (hN : X.N.Nodup) (hi : PI X tg iter (tI X.K ct fi)) (ok : BlkOk X.N X.env.scope scope own)
    (ht0 : TgS X.K ct us g gD) (hus : ∀ i ∈ us, i ∈ own.map (·.2)) (ht1 : TgS X.K ct us1 g1 gD1) (hus1 : ∀ i ∈ us1, i ∈ vs1) (hv : ∀ i ∈ vs1, i ∈ own.map (·.2))
    (hg : ∀ (s : Shared) (H : Hp) (C : Addr) (cl : List (Str × Addr)) (fp : List Addr), PG (X.blk s H scope (compEnvC scope cl C X.env) fp) tg g) (ht : ∀ (s : Shared) (H : Hp) (C : Addr) (cl : List (Str × Addr)) (fp : List Addr), PTs (X.blk s H scope (compEnvC scope cl C X.env) fp) ifs (tT X.K ct tt))
    (hi1 : ∀ (s : Shared) (H : Hp) (C : Addr) (cl : List (Str × Addr)) (fp : List Addr), PI (X.blk s H scope (compEnvC scope cl C X.env) fp) tg1 iter1 (tI X.K ct fi1))
    (hg1 : ∀ (s : Shared) (H : Hp) (C : Addr) (cl : List (Str × Addr)) (fp : List Addr), PG (X.blk s H scope (compEnvC scope cl C X.env) fp) tg1 g1) (htt1 : ∀ (s : Shared) (H : Hp) (C : Addr) (cl : List (Str × Addr)) (fp : List Addr), PTs (X.blk s H scope (compEnvC scope cl C X.env) fp) ifs1 (tT X.K ct tt1))
    (he : ∀ (s : Shared) (H : Hp) (C : Addr) (cl : List (Str × Addr)) (fp : List Addr), PE (X.blk s H scope (compEnvC scope cl C X.env) fp) elt (tE X.K ct te)) (hs : ∀ x, foldedSetIterable iter X.env x = pure x := by intro _; rfl) (hs1 : ∀ env x, foldedSetIterable iter1 env x = pure x := by intro _ _; rfl) :
    PE X (.ListComp elt [⟨tg, iter, ifs, 0⟩, ⟨tg1, iter1, ifs1, 0⟩] scope pos) (tE X.K ct (eLc2 fi gD tt fi1 gD1 tt1 te (own.map (·.2)) vs1)) :=
  (pe_lc2 hc hN hi ok hv hg ht hi1 hg1 htt1 (fun s H C cl fp => de_fz (X := X.blk s H scope (compEnvC scope cl C X.env) fp) (he s H C cl fp)) hs hs1).imp (lc2_imp ht0 hus ht1 hus1 hv)
theorem dsp_lc2 {i : Nat} {y : Str} {py : Pos} {elt tg iter tg1 iter1 : Expr} {ifs ifs1 : List Expr} {scope : Scope} {own : List (Str × Nat)} {pos spos : Pos} {us us1 vs1 : List Nat} {fi fi1 : IM} {g g1 : TG} {gD gD1 : GM} {tt tt1 : BM} {te : EM} (hy : X.N[i]? = some y) (hyl : X.env.scope.names.lookup y = some .local)
    (hsw : swapsWith (.ListComp elt [⟨tg, iter, ifs, 0⟩, ⟨tg1, iter1, ifs1, 0⟩] scope pos) (some (.Name y py)) spos.line X.env = pure true) (hc : X.calm = true) (hN : X.N.Nodup) (hi : PI X tg iter (tI X.K ct fi)) (ok : BlkOk X.N X.env.scope scope own)
    (ht0 : TgS X.K ct us g gD) (hus : ∀ i ∈ us, i ∈ own.map (·.2)) (ht1 : TgS X.K ct us1 g1 gD1) (hus1 : ∀ i ∈ us1, i ∈ vs1) (hv : ∀ i ∈ vs1, i ∈ own.map (·.2))
    (hg : ∀ (s : Shared) (H : Hp) (C : Addr) (cl : List (Str × Addr)) (fp : List Addr), PG (X.blk s H scope (compEnvC scope cl C X.env) fp) tg g) (ht : ∀ (s : Shared) (H : Hp) (C : Addr) (cl : List (Str × Addr)) (fp : List Addr), PTs (X.blk s H scope (compEnvC scope cl C X.env) fp) ifs (tT X.K ct tt))
    (hi1 : ∀ (s : Shared) (H : Hp) (C : Addr) (cl : List (Str × Addr)) (fp : List Addr), PI (X.blk s H scope (compEnvC scope cl C X.env) fp) tg1 iter1 (tI X.K ct fi1))
    (hg1 : ∀ (s : Shared) (H : Hp) (C : Addr) (cl : List (Str × Addr)) (fp : List Addr), PG (X.blk s H scope (compEnvC scope cl C X.env) fp) tg1 g1) (htt1 : ∀ (s : Shared) (H : Hp) (C : Addr) (cl : List (Str × Addr)) (fp : List Addr), PTs (X.blk s H scope (compEnvC scope cl C X.env) fp) ifs1 (tT X.K ct tt1))
    (he : ∀ (s : Shared) (H : Hp) (C : Addr) (cl : List (Str × Addr)) (fp : List Addr), PE (X.blk s H scope (compEnvC scope cl C X.env) fp) elt (tE X.K ct te)) (hs : ∀ x, foldedSetIterable iter X.env x = pure x := by intro _; rfl) (hs1 : ∀ env x, foldedSetIterable iter1 env x = pure x := by intro _ _; rfl) :
    PS X (.Assign [.Name y py] (.ListComp elt [⟨tg, iter, ifs, 0⟩, ⟨tg1, iter1, ifs1, 0⟩] scope pos) spos) (tAsg (tE X.K ct (eLc2 fi gD tt fi1 gD1 tt1 te (own.map (·.2)) vs1)) (gName i)) :=
  (ps_setLc2 hc hN hy hyl hsw hi ok hv hg ht hi1 hg1 htt1 (fun s H C cl fp => de_fz (X := X.blk s H scope (compEnvC scope cl C X.env) fp) (he s H C cl fp)) hs hs1).imp (asg_imp (lc2_imp ht0 hus ht1 hus1 hv))
end
end KD

set_option maxHeartbeats 4000000
namespace KD
open PySem PySem.Spec PyProof.Rows L2
section
variable {X : Cx} {ct : Nat → Addr} {Γ : Gam} {K : PySem.W.Frag}
/-! ### targets that may write into objects: xs[i], x = e -/
def SgS (K : PySem.W.Frag) (ct : Nat → Addr) (g : TG) (gD : GM) : Prop := ∀ mu ow ε σ H v d ε' (Q : L2.St → Hp → Prop), Sim ⟨K, ct, mu⟩ ow ε σ H → Rp ⟨K, ct, mu⟩ (cut H ow) v d → gD d ε = some ε' →
  (∀ σ' H' ow', Sim ⟨K, ct, mu⟩ ow' ε' σ' H' → Fr ow H ow' H' → Q σ' H') → g v σ H Q
def SgsS (K : PySem.W.Frag) (ct : Nat → Addr) (g : TGs) (gD : GsM) : Prop := ∀ mu ow ε σ H xs ds ε' (Q : L2.St → Hp → Prop), Sim ⟨K, ct, mu⟩ ow ε σ H → RpAll ⟨K, ct, mu⟩ (cut H ow) xs ds → gD ds ε = some ε' →
  (∀ σ' H' ow', Sim ⟨K, ct, mu⟩ ow' ε' σ' H' → Fr ow H ow' H' → Q σ' H') → g xs σ H Q
theorem TgS.sg {vs : List Nat} {g : TG} {gD : GM} (h : TgS K ct vs g gD) : SgS K ct g gD := fun mu ow ε σ H v d ε' Q S r e k => h mu ow ε σ H v d ε' Q S r e fun σ' S' _ => k σ' H ow S' Fr.refl
theorem sgs_nil : SgsS K ct gNil gsNil := fun mu ow ε σ H xs ds ε' Q S r e k => by
  cases r with
  | nil => cases e; exact ⟨rfl, k σ H ow S Fr.refl⟩
  | cons _ _ => cases e
theorem sgs_cons {g : TG} {gs : TGs} {gD : GM} {gsD : GsM} (h : SgS K ct g gD) (h2 : SgsS K ct gs gsD) : SgsS K ct (gCons g gs) (gsCons gD gsD) := fun mu ow ε σ H xs ds ε' Q S r e k => by
  cases r with
  | nil => cases e
  | cons r1 r2 =>
    rename_i v vs' d ds'
    have e' : ((gD d ε).bind fun ε1 => gsD ds' ε1) = some ε' := e
    cases e1 : gD d ε with
    | none => simp [e1] at e'
    | some ε1 =>
      simp only [e1, Option.bind_some] at e'
      refine ⟨v, vs', rfl, h mu ow ε σ H v d ε1 _ S r1 e1 fun σ1 H1 ow1 S1 fr1 => ?_⟩
      exact h2 mu ow1 ε1 σ1 H1 vs' ds' ε' _ S1 (r2.mono fr1.sub) e' fun σ2 H2 ow2 S2 fr2 => k σ2 H2 ow2 S2 (fr1.trans fr2)
theorem sg_tup {n : Nat} {gs : TGs} {gsD : GsM} (h : SgsS K ct gs gsD) : SgS K ct (gTup K n gs) (gT n gsD) := fun mu ow ε σ H v d ε' Q S r e k => by
  cases d with
  | tup ds =>
    cases r with
    | tup hs ra _ =>
      have e' : (if ds.length = n then gsD ds ε else none) = some ε' := e
      by_cases hl : ds.length = n
      · rw [if_pos hl] at e'
        exact ⟨_, _, rfl, cut_sub.sqt hs.sqt, by rw [ra.length]; exact hl, h mu ow ε σ H _ ds ε' Q S ra e' k⟩
      · rw [if_neg hl] at e'; cases e'
  | pair ds =>
    cases r with
    | pair hs ra =>
      have e' : (if ds.length = n then gsD ds ε else none) = some ε' := e
      by_cases hl : ds.length = n
      · rw [if_pos hl] at e'
        exact ⟨_, _, rfl, cut_sub.sqt hs, by rw [ra.length]; exact hl, h mu ow ε σ H _ ds ε' Q S ra e' k⟩
      · rw [if_neg hl] at e'; cases e'
  | _ => cases e
/-- xs[i] as a target -/
def subR (d : D) (v : Val) (ε : SE) : Option MO → Option D → Option SE
  | some (.lst l), some (.int i) => (ixN l.length i).map fun j => put ε (.lst (l.set j d)) v
  | _, _ => none
def gSubD (fo fi : EM) : GM := fun d ε => (fzE fo ε).bind fun ro => (fzE fi ro.2).bind fun ri => subR d ro.1 ri.2 (tgt ri.2 ro.1) (ri.1.res ri.2)
theorem sg_sub {fo fi : EM} : SgS K ct (gSub (tE K ct (fzE fo)) (tE K ct (fzE fi)) rSetL) (gSubD fo fi) := fun mu ow ε σ H v d ε' Q S r e k => by
  unfold gSubD at e
  cases e2 : fzE fo ε with
  | none => simp [e2] at e
  | some ro =>
    simp only [e2, Option.bind_some] at e
    cases e3 : fzE fi ro.2 with
    | none => simp [e3] at e
    | some ri =>
      simp only [e3, Option.bind_some] at e
      unfold subR at e
      split at e
      · rename_i l i ht hi
        cases e4 : ixN l.length i with
        | none => simp [e4] at e
        | some j =>
          simp only [e4, Option.map_some, Option.some.injEq] at e
          subst e
          refine ⟨mu, ow, ε, ro.1, ro.2, S, e2, fun x H2 ow2 S2 fr2 r2 => ⟨mu, ow2, ro.2, ri.1, ri.2, S2, e3, fun y H3 ow3 S3 fr3 r3 => ?_⟩⟩
          obtain ⟨va, ha, hv⟩ := fzE_some e2
          rw [hv] at r2 ht
          obtain ⟨p, rfl, ⟨vs, h1, h3, hll⟩, ch⟩ := S3.change (r2.carry fr3 (H0' := H3)) ht
          have r1' := r.mono (fr2.trans fr3).sub
          have rI : y = .int i := by
            have q := (VR.res S3 r3 hi).up cut_sub
            cases q; rfl
          subst rI
          refine ⟨p, vs, i, j, rfl, rfl, h1, by rw [h3.length]; exact e4, ?_⟩
          obtain ⟨S4, fr4⟩ := ch _ _ (show ObjR _ _ _ p (.lst (l.set j d)) from ⟨vs.set j v, upd_same, RpAll.set r1' j h3, by rw [List.length_set]; exact hll⟩)
          exact k σ _ ow3 (by rw [hv]; exact S4) ((fr2.trans fr3).trans fr4)
      · cases e
theorem ds_asgS {st : Stmt} {f : EM} {g : TG} {gD : GM} (tg : SgS X.K ct g gD) (h : PS X st (tAsg (tE X.K ct (fzE f)) g)) : PS X st (tS X.K ct (sAsg gD f)) := h.imp fun E σ H ⟨mu, ow, ε, out, S, hf, k⟩ => by
  unfold sAsg at hf
  cases e : fzE f ε with
  | none => simp [e] at hf
  | some r =>
    simp only [e, Option.bind_some] at hf
    cases e2 : escV r.2 r.1 with
    | none => simp [e2] at hf
    | some q =>
      simp only [e2, Option.bind_some] at hf
      cases e3 : gD q.1 q.2 with
      | none => simp [e3] at hf
      | some ε' =>
        simp only [e3, Option.map_some, Option.some.injEq] at hf
        subst hf
        refine ⟨mu, ow, ε, r.1, r.2, S, e, fun v H1 ow1 S1 fr1 r1 => ?_⟩
        obtain ⟨va, ha, hv⟩ := fzE_some e
        rw [hv] at r1 e2
        obtain ⟨ow2, S2, fr2, r2⟩ := VR.esc S1 r1 e2
        exact tg mu ow2 q.2 σ H1 v q.1 ε' _ S2 r2 e3 fun σ' H' ow' S' fr' => k σ' H' ow' S' ((fr1.trans fr2).trans fr')
end
end KD

set_option maxHeartbeats 4000000
namespace KD
open PySem PySem.Spec PyProof.Rows L2
section
variable {X : Cx} {ct : Nat → Addr} {Γ : Gam} {K : PySem.W.Frag}
/-! ### a text so many times -/
def rMulS : R2 := fun x y H Q => ∃ a n, x = .str a ∧ y = .int n ∧ MulOk a n ∧ Q (.str (Txt.mul a n)) H
theorem op_mulS : OpR X (binaryOp .Mult) rMulS := fun pins s σ H x y v u Q I rx ry ⟨a, n, e1, e2, hok, q⟩ => by
  subst e1 e2
  obtain ⟨t, rfl⟩ := rx
  obtain ⟨t', rfl⟩ := ry
  exact SB.mul hok fun t'' k => ⟨.str (Txt.mul a n), H, I.tok _, ⟨_, rfl⟩, q⟩
theorem mulOk_small {a : Str} {n : Int} (h0 : 0 ≤ n) (h1 : n ≤ 1000) (ha : a.length ≤ 1000) : MulOk a n := by
  refine ⟨?_, fun hn _ => ?_, fun _ _ => ?_⟩
  · rw [Bool.or_eq_false_iff]
    exact ⟨decide_eq_false (by omega), decide_eq_false (by omega)⟩
  · have hp : 0 < n := by omega
    have : (1000 : Int) ≤ (2 ^ 63 - 1) / n := Int.le_ediv_of_mul_le hp (by omega)
    omega
  · have h2 : n.toNat ≤ 1000 := by omega
    have h3 : a.length * n.toNat ≤ 1000 * 1000 := Nat.mul_le_mul ha h2
    show decide (a.length * n.toNat > sizeLine) = false
    rw [sizeLine_eq]
    exact decide_eq_false (by omega)
def mulT (a : Str) (n : Int) : Option Val := if 0 ≤ n ∧ n ≤ 1000 ∧ a.length ≤ 1000 ∧ sOk (Txt.mul a n) = true then some (.d (.str (Txt.mul a n))) else none
noncomputable def mulD2 : D → D → Option Val
  | .str a, .int n => mulT a n
  | x, y => mulD x y
theorem op_mul2 : OpR X (binaryOp .Mult) (fun x y H Q => rMulU X.K x y H Q ∨ rMulS x y H Q) := op_mulU.or op_mulS
theorem os_mul2 : OpS K ct (fun x y H Q => rMulU K x y H Q ∨ rMulS x y H Q) mulD2 := fun mu F H x y d e val Q sb rx ry h k => by
  by_cases hd : ∃ a n, d = .str a ∧ e = .int n
  · obtain ⟨a, n, rfl, rfl⟩ := hd
    have h' : (if 0 ≤ n ∧ n ≤ 1000 ∧ a.length ≤ 1000 ∧ sOk (Txt.mul a n) = true then some (Val.d (.str (Txt.mul a n))) else none) = some val := h
    split at h'
    · rename_i hc
      cases h'
      obtain ⟨rfl, _⟩ := rx.str
      rw [ry.int]
      exact .inr ⟨a, n, rfl, rfl, mulOk_small hc.1 hc.2.1 hc.2.2.1, k _ _ (.same (.str _ hc.2.2.2))⟩
    · cases h'
  · refine .inl (os_mul mu F H x y d e val Q sb rx ry ?_ k)
    unfold mulD2 at h
    split at h
    · exact absurd ⟨_, _, rfl, rfl⟩ hd
    · exact h
end
end KD

set_option maxHeartbeats 4000000
namespace KD
open PySem PySem.Spec PyProof.Rows L2
section
variable {prog : Program} {w : World} {A : Around} {E : Value → Shared → Prop} {s : Shared}
/-! ### xs[::-1] -/
theorem fmap_congr {α β : Type} {f g : α → Option β} : ∀ {l : List α}, (∀ x ∈ l, f x = g x) → l.filterMap f = l.filterMap g
  | [], _ => rfl
  | a :: l, h => by
    rw [List.filterMap_cons, List.filterMap_cons, h a List.mem_cons_self, fmap_congr fun x hx => h x (List.mem_cons_of_mem _ hx)]
theorem pick_rev {α : Type} (l : List α) : ∀ n : Nat, n ≤ l.length → (List.range n).filterMap (fun k => l[n - 1 - k]?) = (l.take n).reverse
  | 0, _ => by simp
  | n + 1, h => by
    rw [List.range_succ_eq_map, List.filterMap_cons, List.filterMap_map]
    have e : (n + 1 - 1 - 0) = n := by omega
    rw [e, List.getElem?_eq_getElem (by omega)]
    have ih := pick_rev l n (by omega)
    have e2 : ((fun k => l[n + 1 - 1 - k]?) ∘ Nat.succ) = fun k => l[n - 1 - k]? := by
      funext k
      show l[n + 1 - 1 - (k + 1)]? = l[n - 1 - k]?
      congr 1
      omega
    rw [e2, ih, List.take_succ_eq_append_getElem (by omega), List.reverse_append]
    rfl
theorem revCount (n : Nat) : (if (n : Int) - 1 > -1 then ((n : Int) - 1 - -1 - -1 - 1) / (- -1) else 0) = (n : Int) := by
  have e : (- -1 : Int) = 1 := rfl
  rw [e, Int.ediv_one]
  split <;> omega
theorem slicePick_rev (its : List Value) : slicePick its.toArray none none (some (-1)) = its.reverse.toArray := by
  unfold slicePick sliceBounds sliceRange
  have h1 : ¬ ((-1 : Int) > 0) := by omega
  simp only [Option.getD_some, h1, if_false, List.size_toArray]
  rw [revCount, Int.toNat_natCast, List.filterMap_map]
  congr 1
  have e : ((fun x => its.toArray[x]?) ∘ fun (k : Nat) => ((its.length : Int) - 1 + -1 * (k : Int)).toNat) = fun k => if k < its.length then its[its.length - 1 - k]? else its[0]? := by
    funext k
    show its.toArray[((its.length : Int) - 1 + -1 * (k : Int)).toNat]? = _
    rw [List.getElem?_toArray]
    by_cases hk : k < its.length
    · rw [if_pos hk]
      congr 1
      omega
    · rw [if_neg hk]
      congr 1
      omega
  rw [e]
  have e2 : (List.range its.length).filterMap (fun k => if k < its.length then its[its.length - 1 - k]? else its[0]?) = (List.range its.length).filterMap (fun k => its[its.length - 1 - k]?) := by
    refine fmap_congr fun k hk => ?_
    rw [if_pos (List.mem_range.mp hk)]
  rw [e2, pick_rev its its.length (Nat.le_refl _), List.take_length]
theorem sliceApplied_rev {sl : Addr} {vs : Value} {n : Nat} {Q : Int × Int × Nat → Shared → Prop} (hs : s.heap.IsSliceOf sl .none .none vs) (ps : IsPart vs (some (-1)))
    (h : Q ((n : Int) - 1, -1, n) s) : wpAny (model prog w) A (Builtin.Slice.sliceApplied (.ref sl) (pure (n : Int))) Q E s := by
  obtain ⟨os, hos, hcs, hds⟩ := id hs
  unfold Builtin.Slice.sliceApplied Builtin.Slice.sliceFields
  refine wpAny_bind (wpAny_bind (wpAny_field hos hds (x := .none) rfl (wpAny_bind (wpAny_field hos hds (x := .none) rfl (wpAny_bind (wpAny_field hos hds (x := vs) rfl (wpAny_pure ?_)))))))
  refine wpAny_bind (HT.slicePart_ ps ?_)
  show wpAny _ _ (if ((-1 : Int) == 0) = true then _ else _) _ _ s
  rw [if_neg (by decide)]
  refine wpAny_bind (slicePart_none (wpAny_bind (slicePart_none (wpAny_bind (wpAny_pure ?_)))))
  show wpAny _ _ (match Builtin.Slice.sliceAdjust none none (-1) (n : Int) with | (lo, hi) => pure (lo, (-1 : Int), Builtin.Slice.slicePlaces lo hi (-1))) _ _ s
  have e : Builtin.Slice.sliceAdjust none none (-1) (n : Int) = ((n : Int) - 1, -1) := rfl
  rw [e]
  show wpAny _ _ (pure ((n : Int) - 1, (-1 : Int), Builtin.Slice.slicePlaces ((n : Int) - 1) (-1) (-1))) _ _ s
  have e2 : Builtin.Slice.slicePlaces ((n : Int) - 1) (-1) (-1) = n := by
    unfold Builtin.Slice.slicePlaces
    have h1 : ¬ ((-1 : Int) > 0) := by omega
    simp only [h1, if_false]
    have e3 : (- -1 : Int) = 1 := rfl
    rw [e3, Int.ediv_one]
    split <;> omega
  rw [e2]
  exact wpAny_pure h
theorem getItem_tuple_rev {t sl : Addr} {items : List Value} {vs : Value} {Q : Value → Shared → Prop} (ht : IsTup s.heap t items.toArray) (hs : s.heap.IsSliceOf sl .none .none vs) (ps : IsPart vs (some (-1)))
    (h : Q (.ref s.heap.objs.size) { s with heap := s.heap.push { cls := .type "tuple", data := .seq items.reverse.toArray } })
    (hsz : items.length ≤ sizeLine) : wpAny (model prog w) A (getItem (.ref t) (.ref sl)) Q E s := by
  have htake : sizeOk (.seq items.reverse.toArray) := by
    show items.reverse.toArray.size ≤ sizeLine
    rw [List.size_toArray, List.length_reverse]
    exact hsz
  obtain ⟨os, hos, hcs, hds⟩ := id hs
  have hTs : s.TypeIs (.ref sl) "slice" := ⟨os, hos, hcs⟩
  unfold getItem
  try with_reducible refine wpAny_holding ?_
  first | refine wpAny_bind (wpAny_pure ?_) | skip
  refine wpAny_bind (wpAny_sequenceKey ht.typeIs (by decide) ?_)
  refine wpAny_bind (wpAny_callSpecial?_slot (name := Str.ofString "__getitem__") ht.typeIs PyProof.Rows.slot_tuple_getitem
    (wpAny_call_entry PyProof.Rows.slot_tuple_getitem ht.typeIs entry_tuple_getitem ?_ (args_tuple_getitem _ _)))
  show wpAny _ _ (Builtin.Tuple.tupleItemsOf (.ref t) >>= _) _ _ s
  refine wpAny_bind (tupleItemsOf_ ht ?_)
  refine wpAny_bind (wpAny_typeOf hTs ?_)
  rw [if_pos (by decide)]
  refine wpAny_bind (sliceApplied_rev hs ps ?_)
  show wpAny _ _ (if (((items.toArray.size : Int) - 1) == 0 && (-1 : Int) == 1 && items.toArray.size == items.toArray.size) = true then _ else _) _ _ s
  rw [if_neg (by simp)]
  have e : ((List.range items.toArray.size).filterMap fun (k : Nat) => items.toArray[((items.toArray.size : Int) - 1 + (k : Int) * -1).toNat]?).toArray = items.reverse.toArray := by
    congr 1
    rw [List.size_toArray]
    have e2 : (List.range items.length).filterMap (fun (k : Nat) => items.toArray[((items.length : Int) - 1 + (k : Int) * -1).toNat]?) = (List.range items.length).filterMap (fun k => items[items.length - 1 - k]?) := by
      refine fmap_congr fun k hk => ?_
      have := List.mem_range.mp hk
      rw [List.getElem?_toArray]
      congr 1
      omega
    rw [e2, pick_rev items items.length (Nat.le_refl _), List.take_length]
  rw [e]
  first
    | exact wpAny_bind (m := Builtin.Tuple.tupleExact _) (wpAny_newObj_type (wpAny_pure ⟨_, rfl, wpAny_pure h⟩) htake)
    | exact wpAny_bind (m := Builtin.Tuple.tupleExact _) (wpAny_newObj_type (wpAny_bind (wpAny_pure (wpAny_pure ⟨_, rfl, wpAny_pure h⟩))) htake)
    | exact wpAny_bind (wpAny_bind (m := Builtin.Tuple.tupleExact _) (wpAny_newObj_type (wpAny_pure (wpAny_pure ⟨_, rfl, wpAny_pure h⟩)) htake))
    | exact wpAny_bind (wpAny_bind (m := Builtin.Tuple.tupleExact _) (wpAny_newObj_type (wpAny_pure ⟨_, rfl, wpAny_pure h⟩) htake))
end
section
variable {X : Cx} {ct : Nat → Addr} {Γ : Gam} {K : PySem.W.Frag} {e st : Expr} {te : TE} {ts : TO} {pos p2 : Pos}
def RvR (X : Cx) (r : V → Hp → VK → Prop) : Prop :=
  ∀ (pins : List (Addr × Obj)) (s : Shared) (σ : L2.St) (H : Hp) (x : V) (v vs : Value) (sl : Addr) (Q : VK), Inv X pins σ H s → RelV x v → s.heap.IsSliceOf sl .none .none vs → IsPart vs (some (-1)) → r x H Q →
    ∃ T id, typeLookup (.type T) "__getitem__" = pure (some (.builtin id)) ∧ s.TypeIs v T ∧ wpAny (model X.prog X.w) X.A (getItem v (.ref sl)) (EP X pins σ Q) X.xe s
def tRv (r : V → Hp → VK → Prop) (te : TE) (ts : TO) : TE := fun σ H Q => te σ H fun x H1 => ts σ H1 fun o H2 => o = some (-1) ∧ r x H2 Q
theorem pe_rev {r : V → Hp → VK → Prop} (hr : RvR X r) (he : PE X e te) (hs : PO X (some st) ts) : PE X (.Subscript e (.Slice none none (some st) p2) pos) (tRv r te ts) := by
  refine ⟨fun pins s σ H Q I h => ?_⟩
  refine Subscript_ (thn (he.run pins s σ H _ I h) fun v s1 ⟨x, H1, I1, r1, q1⟩ => ?_)
  refine wpAny_Slice ?_
  rw [evalPart_none]
  refine wpAny_pure ?_
  refine wpAny_pure ?_
  refine thn (hs.run pins s1 σ H1 _ I1 q1) fun vs s3 ⟨o, H3, I3, pu, q3⟩ => ?_
  obtain ⟨rfl, q3⟩ := q3
  have I4 : Inv X pins σ H3 { s3 with heap := s3.heap.push { cls := .type "slice", data := .fields #[.none, .none, vs] } } := I3.kept (t' := s3.toks) fun b ob q => Heap.get?_push_of_some _ q
  obtain ⟨T, id, hT, ht, hg⟩ := hr pins { s3 with heap := s3.heap.push { cls := .type "slice", data := .fields #[.none, .none, vs] } } σ H3 x v vs s3.heap.objs.size Q I4 r1 (Heap.IsSliceOf.new ..) pu q3
  show wpAny (model X.prog X.w) X.A (subscriptTail e (.Slice none none (some st) p2) v (.ref s3.heap.objs.size)) (EP X pins σ Q) X.xe { s3 with heap := s3.heap.push { cls := .type "slice", data := .fields #[.none, .none, vs] } }
  exact tail_any (ops := [v, .ref s3.heap.objs.size]) ht hT hg (by with_unfolding_all rfl)
def rRv (K : PySem.W.Frag) : V → Hp → VK → Prop := fun x H Q => (∃ a xs, x = .ref a ∧ SqL K H a xs ∧ ∀ p, H p = none → Q (.ref p) (upd H p (.lst xs.reverse))) ∨
  (∃ a xs, x = .ref a ∧ SqT K H a xs ∧ ∀ p o, H p = none → o.dict = none → Q (.ref p) (upd H p (.frz o (.tup xs.reverse))))
theorem rv_U : RvR X (rRv X.K) := by
  intro pins s σ H x v vs sl Q I rx hs ps h
  rcases h with ⟨a, xs, rfl, hx, q⟩ | ⟨a, xs, rfl, hx, q⟩
  · cases rx
    obtain ⟨its, r, ht, hz⟩ := I.list hx
    have hlen := r.length
    refine ⟨"list", _, slot_list_getitem.lookup, ht.isList.typeIs, ?_⟩
    refine wpAny_getItem_list_slice ht.isList hs .none .none ps (by simp) ?_ (by rw [List.size_toArray] <;> omega)
    rw [slicePick_rev]
    refine ⟨.ref s.heap.objs.size, _, I.laid (t' := s.toks) (o := .lst xs.reverse) (fun b ob q => Heap.get?_push_of_some _ q) (Nat.le_refl _) ?_, rfl, q _ (I.hok.fresh (Nat.le_refl _))⟩
    exact ⟨by rw [List.length_reverse]; exact hz, _, 0, r.reverse, Heap.get?_push_size _ rfl⟩
  · cases rx
    obtain ⟨its, r, ht, hz⟩ := I.tuple hx
    refine ⟨"tuple", _, PyProof.Rows.slot_tuple_getitem.lookup, ht.typeIs, ?_⟩
    refine getItem_tuple_rev ht hs ps ?_ (by rw [← r.length]; exact hz)
    exact newTup I r.reverse (by rw [List.length_reverse]; exact hz) q
theorem RpAll.reverse {F : Hp} : ∀ {vs : List V} {ds : List D}, RpAll Γ F vs ds → RpAll Γ F vs.reverse ds.reverse := by
  intro vs
  induction vs with
  | nil => intro ds r; cases r; exact .nil
  | cons v vs ih =>
    intro ds r
    cases r with
    | cons r1 r2 =>
      rw [List.reverse_cons, List.reverse_cons]
      exact (ih r2).append (.cons r1 .nil)
def revD (d : D) : Option Val := match d with
  | .lst l => some (.new (.lst l.reverse))
  | .tup l => some (.d (.tup l.reverse))
  | .scr l => some (.new (.lst (l.map D.int).reverse))
  | _ => none
theorem rev_core {F H : Hp} {x : V} {d : D} {val : Val} {Q : VK} (sb : Sub F H) (rx : RpO Γ F H x d) (h : revD d = some val) (k : ∀ v H', Fresh Γ F H v H' val → Q v H') : rRv Γ.K x H Q := by
  cases d <;> first | (cases h; done) | skip
  · rename_i l
    cases h
    obtain ⟨p, vs, rfl, h1, h2, h3⟩ := rx.tup
    exact .inr ⟨p, vs, rfl, (sb.tupR h1).sqt, fun q o hq ho => k _ _ (.tup hq ho h2.reverse (by rw [List.length_reverse]; exact h3))⟩
  · rename_i l
    cases h
    obtain ⟨p, vs, rfl, h1, h2, h3⟩ := rx.lst sb
    exact .inl ⟨p, vs, rfl, .of h1, fun q hq => k _ _ (.lst hq h2.reverse (by rw [List.length_reverse]; exact h3))⟩
  · rename_i l
    cases h
    obtain ⟨p, rfl, h1, h3⟩ := rx.scr
    exact .inl ⟨p, _, rfl, sb.sql h1, fun q hq => k _ _ (.lst hq (rp_ints l).reverse (by rw [List.length_reverse, List.length_map]; exact h3))⟩
def eRev (fe : EM) (fs : OM) : EM := fun ε => (fzE fe ε).bind fun r => (fs r.2).bind fun l => (r.1.res l.2).bind fun d => if l.1 = some (-1) then (revD d).map fun v => (v, l.2) else none
theorem de_rev {fe : EM} {fs : OM} (h : PE X e (tE X.K ct fe)) (hs : PO X (some st) (tO X.K ct fs)) : PE X (.Subscript e (.Slice none none (some st) p2) pos) (tE X.K ct (eRev fe fs)) :=
  (pe_rev rv_U (de_fz h) hs).imp fun σ H Q ⟨mu, ow, ε, val, ε', S, hf, k⟩ => by
    unfold eRev at hf
    cases e1 : fzE fe ε with
    | none => simp [e1] at hf
    | some r =>
      simp only [e1, Option.bind_some] at hf
      cases e2 : fs r.2 with
      | none => simp [e2] at hf
      | some l =>
        simp only [e2, Option.bind_some] at hf
        cases e4 : r.1.res l.2 with
        | none => simp [e4] at hf
        | some d =>
          simp only [e4, Option.bind_some] at hf
          by_cases e6 : l.1 = some (-1)
          · rw [if_pos e6] at hf
            cases e5 : revD d with
            | none => simp [e5] at hf
            | some v =>
              simp only [e5, Option.map_some, Option.some.injEq, Prod.mk.injEq] at hf
              obtain ⟨rfl, rfl⟩ := hf
              refine ⟨mu, ow, ε, r.1, r.2, S, e1, fun x H1 ow1 S1 fr1 r1 => ⟨mu, ow1, r.2, l.1, l.2, S1, e2, fun H2 ow2 S2 fr2 => ⟨e6, ?_⟩⟩⟩
              obtain ⟨va, ha, hv⟩ := fzE_some e1
              have r1' : VR ⟨X.K, ct, mu⟩ ow2 H2 σ H2 x r.1 := by
                rw [hv] at r1 ⊢
                exact r1.carry fr2
              refine rev_core (Γ := ⟨X.K, ct, mu⟩) cut_sub (VR.res S2 r1' e4) e5 fun w H' hw => ?_
              obtain ⟨ow4, S4, fr4, v4⟩ := Fresh.sim S2 hw
              exact k w H' ow4 S4 ((fr1.trans fr2).trans fr4) (v4.back fun p hp => (fr1.trans fr2).none hp)
          · rw [if_neg e6] at hf
            cases hf
end
end KD

set_option maxHeartbeats 4000000
namespace KD
open PySem PySem.Spec PyProof.Rows L2
section
variable {X : Cx} {ct : Nat → Addr} {Γ : Gam} {K : PySem.W.Frag}
/-! ### dict(list of pairs) -/
def pairsD : List D → Option (List (L2.Key × D))
  | [] => some []
  | .tup [a, b] :: l => (keyD a).bind fun k => (pairsD l).map fun r => (k, b) :: r
  | _ :: _ => none
def dictPD : List D → Option Val
  | [.lst l] => (pairsD l).bind fun ps => if l.length ≤ 16777216 then some (.new (dctM (mergeD [] ps))) else none
  | _ => none
def rDictP (K : PySem.W.Frag) : List V → Hp → VK → Prop := fun xs H Q => ∃ (a : Addr) (ps : List Addr) (kvs : List (L2.Key × V)), xs = [.ref a] ∧ SqL K H a (ps.map V.ref) ∧ Paired (fun p kv => SqT K H p [kV kv.1, kv.2]) ps kvs ∧
  ∀ p, H p = none → Q (.ref p) (upd H p (.dK (mergeK [] kvs)))
theorem rp_pairs {F H : Hp} (sb : Sub F H) : ∀ {l : List D} {vs : List V} {ps : List (L2.Key × D)}, RpAll Γ F vs l → pairsD l = some ps → ∃ (as : List Addr) (kvs : List (L2.Key × V)), vs = as.map V.ref ∧ Paired (fun p kv => SqT Γ.K H p [kV kv.1, kv.2]) as kvs ∧ KR Γ F kvs ps
  | [], vs, ps, r, h => by
    cases r
    cases h
    exact ⟨[], [], rfl, .nil, .nil⟩
  | d :: l, vs, ps, r, h => by
    cases r with
    | @cons v vs _ _ r1 r2 =>
      match d, r1, h with
      | .tup [a, b], r1, h =>
        have h' : ((keyD a).bind fun k => (pairsD l).map fun r => (k, b) :: r) = some ps := h
        cases ek : keyD a with
        | none => rw [ek] at h'; cases h'
        | some k =>
          rw [ek, Option.bind_some] at h'
          obtain ⟨ps', e, rfl⟩ := Option.map_eq_some_iff.mp h'
          obtain ⟨as, kvs, rfl, q1, q2⟩ := rp_pairs sb r2 e
          cases r1 with
          | tup h1 h2 h3 =>
            rename_i p ws
            cases h2 with
            | cons ra rr =>
              cases rr with
              | cons rb rn =>
                cases rn
                have ea := keyD_rp ra ek
                subst ea
                exact ⟨p :: as, (k, _) :: kvs, rfl, .cons (sb.tupR h1).sqt q1, .cons ⟨rfl, rb⟩ q2⟩
theorem cs_dictP : CallS K ct (rDictP K) dictPD := fun mu F H xs ds val Q sb r h k => by
  unfold dictPD at h
  split at h
  · rename_i l
    cases e : pairsD l with
    | none => simp [e] at h
    | some ps =>
      simp only [e, Option.bind_some] at h
      split at h
      · cases h
        obtain ⟨x, rfl, rx⟩ := pair1 r
        obtain ⟨a, vs, rfl, h1, h2, h3⟩ := rx.lst sb
        obtain ⟨as, kvs, rfl, q1, q2⟩ := rp_pairs (Γ := ⟨K, ct, mu⟩) sb h2 e
        exact ⟨a, as, kvs, rfl, .of h1, q1, fun p hp => k _ _ (.dctP hp (KR.merge _ _ q2 .nil))⟩
      · cases h
  · cases h
end
end KD

set_option maxHeartbeats 4000000
namespace KD
open PySem PySem.Spec PyProof.Rows L2
/-! ### sorted: figures too -/
def leI (a b : Int) : Bool := decide (a ≤ b)
theorem sort_sameI {xs ys : List Int} (hp : ys.Perm xs) (hs : ys.Pairwise (· ≤ ·)) : ys = xs.mergeSort leI := by
  have h1 : ys.Pairwise (fun a b => leI a b = true) := hs.imp fun h => decide_eq_true h
  have h2 : (xs.mergeSort leI).Pairwise (fun a b => leI a b = true) := List.pairwise_mergeSort (le := leI) (fun a b c h g => by
    have h := of_decide_eq_true h
    have g := of_decide_eq_true g
    exact decide_eq_true (by omega)) (fun a b => by
    unfold leI
    by_cases q : a ≤ b
    · rw [decide_eq_true q]; rfl
    · rw [decide_eq_true (show b ≤ a by omega), Bool.or_true]) xs
  exact List.Perm.eq_of_pairwise (fun a b _ _ h g => by
    have h := of_decide_eq_true h
    have g := of_decide_eq_true g
    omega) h1 h2 (hp.trans (List.mergeSort_perm xs leI).symm)
section
variable {X : Cx} {ct : Nat → Addr} {Γ : Gam} {K : PySem.W.Frag}
theorem intsD_map4 : ∀ {l : List D} {ns : List Int}, intsD l = some ns → l = ns.map D.int
  | [], ns, h => by cases h; rfl
  | d :: l, ns, h => by
    match d, h with
    | .int i, h =>
      have h' : ((intsD l).map fun r => i :: r) = some ns := h
      obtain ⟨r, e, rfl⟩ := Option.map_eq_some_iff.mp h'
      rw [intsD_map4 e]; rfl
theorem rp_intsV4 {F : Hp} : ∀ {ns : List Int} {vs : List V}, RpAll Γ F vs (ns.map D.int) → vs = ns.map V.int
  | [], _, .nil => rfl
  | i :: ns, _, .cons h r => by cases h; rw [rp_intsV4 r]; rfl
theorem rp_ints4 {F : Hp} : ∀ {ns : List Int}, RpAll Γ F (ns.map V.int) (ns.map D.int)
  | [] => .nil
  | i :: ns => .cons (.int i) rp_ints4
def sortID : List D → Option Val
  | [.lst l] => (intsD l).map fun ns => .new (.lst ((ns.mergeSort leI).map .int))
  | _ => none
theorem cs_sortI : CallS K ct (rSortedI K) sortID := fun mu F H xs ds val Q sb r h k => by
  unfold sortID at h
  split at h
  · rename_i l
    obtain ⟨ns, e1, rfl⟩ := Option.map_eq_some_iff.mp h
    obtain ⟨y, rfl, ry⟩ := pair1 r
    obtain ⟨p, vs, rfl, h1, h2, h3⟩ := ry.lst sb
    rw [intsD_map4 e1] at h2 h3
    have hv := rp_intsV4 h2
    subst hv
    refine ⟨p, ns, rfl, .of h1, fun ns' q hp hs hq => ?_⟩
    have e2 := sort_sameI hp hs
    have hlen := hp.length_eq
    subst e2
    exact k _ _ (.lst hq rp_ints4 (by rw [List.length_map] at h3 ⊢; omega))
  · cases h
end
end KD

set_option maxHeartbeats 4000000
namespace KD
open PySem PySem.Spec PyProof.Rows L2
/-! ### operations by an instance's own methods: len, str, == -/
section
variable {X : Cx} {CX : CXT} {k : Nat} {f C : Addr} {fd : FuncData} {ps : List Str} {sp : Sp} {E : XK}
/-- the callee runs at a place below the body -/
theorem run_own {A : Around} {pins : List (Addr × Obj)} {σ : L2.St} {H : Hp} {s : Shared} {Q : VK} {us : List Value} {vs : List V} (F : FnOk X.prog X.w X.K X.mg X.base CX k f fd ps sp) (sb : L2.Sub X k A) (hb : Binds X.K fd ps []) (hx : Passes CX X E)
    (I : L2.Inv X pins σ H s) (r : Vals vs us) (h : sp vs H Q E) : wpAny (model X.prog X.w) A (call (.ref f) us) (EP X pins σ Q) X.xe s := by
  have e0 : Env0 X.prog X.w X.K X.mg X.base A X.stack s H := by
    have e := I.env0
    exact ⟨by rw [sb.fr]; exact e.frames, e.mod, e.bs, e.bsz, e.funs, e.frf, e.hok, e.bare⟩
  have hl := F.len _ _ _ _ h
  refine wpAny_call (codeAny_mono (F.run A X.stack s H ⟨us, []⟩ us vs Q E sb.room e0 (by
    have := hb s us I.kIn (by rw [List.append_nil, ← r.length]; exact hl)
    rw [List.append_nil] at this
    exact this) r h) fun rr s' hq => ?_)
  cases rr with
  | error e => exact hx pins σ H s e s' I hq
  | ok fl =>
    cases fl with
    | ret w => exact I.after hq
    | next => exact False.elim hq
    | brk => exact False.elim hq
    | cont => exact False.elim hq
/-- an instance of the class at C -/
def InsAt (C : Addr) (H : Hp) (a : Addr) : Prop := ∃ dx fs, H a = some (.ins C dx fs)
theorem look_of {pins : List (Addr × Obj)} {σ : L2.St} {H : Hp} {s : Shared} {a : Addr} (I : L2.Inv X pins σ H s) (h : InsAt C H a) : ∃ dx od, PySem.W.InstAt s.heap a (PySem.W.instObj C dx) C (some od) := by
  obtain ⟨dx, fs, ha⟩ := h
  obtain ⟨mA, J, _⟩ := ins_get I.hok ha
  obtain ⟨od, J, _⟩ := J.look
  exact ⟨dx, od, J⟩
theorem call_lenOwn (F : FnOk X.prog X.w X.K X.mg X.base CX k f fd ps sp) (hm : Meth X.K C "__len__" f) (hr : Room (k + 1) X.A) (hb : Binds X.K fd ps []) (hx : Passes CX X E) :
    CallR X (.builtin "len") (fun xs H Q => ∃ a, xs = [.ref a] ∧ InsAt C H a ∧ sp [.ref a] H (fun v H' => ∃ n : Int, v = .int n ∧ 0 ≤ n ∧ n < 2 ^ 63 ∧ Q (.int n) H') E) := by
  intro pins s σ H xs us Q I r h
  obtain ⟨a, rfl, ha, hs⟩ := h
  obtain rfl := Vals.ref1 r
  obtain ⟨dx, od, J⟩ := look_of I ha
  obtain ⟨m, hF⟩ := I.fr
  refine PySem.W.len_K hF I.ok.mod.kin J hm.at_ hm.fn (wpAny_mono (run_own F ⟨hr.in1, rfl⟩ hb hx I (show Vals [V.ref a] [Value.ref a] from .cons (show RelV (.ref a) (.ref a) from rfl) .nil) hs) (fun v s' q => ?_) fun _ _ e => e)
  obtain ⟨w, H', I', rw_, n, rfl, h0, h1, q⟩ := q
  obtain ⟨t, rfl⟩ := rw_
  exact ⟨⟨h0, h1⟩, .int n, H', I'.tok _, ⟨_, rfl⟩, q⟩
theorem call_strOwn (F : FnOk X.prog X.w X.K X.mg X.base CX k f fd ps sp) (hm : Meth X.K C "__str__" f) (hr : Room (k + 2) X.A) (hb : Binds X.K fd ps []) (hx : Passes CX X E) :
    CallR X (.type "str") (fun xs H Q => ∃ a, xs = [.ref a] ∧ InsAt C H a ∧ sp [.ref a] H (fun v H' => ∃ z : Str, v = .str z ∧ Q (.str z) H') E) := by
  intro pins s σ H xs us Q I r h
  obtain ⟨a, rfl, ha, hs⟩ := h
  obtain rfl := Vals.ref1 r
  obtain ⟨dx, od, J⟩ := look_of I ha
  have hr1 : Room (k + 1) X.A.in1 := Room.in1 hr
  refine PySem.W.kso_call hr1.in1.units0 I.kIn J hm.at_ hm.fn (wpAny_mono (run_own F ⟨hr1.in1, rfl⟩ hb hx I (show Vals [V.ref a] [Value.ref a] from .cons (show RelV (.ref a) (.ref a) from rfl) .nil) hs) (fun v s' q => ?_) fun _ _ e => e)
  obtain ⟨w, H', I', rw_, n, rfl, q⟩ := q
  obtain ⟨t, rfl⟩ := rw_
  exact ⟨.str n, H', I', ⟨_, rfl⟩, q⟩
/-- what a web may be compared with: another one, a list, a tuple, a text -/
def CmpTo (K : PySem.W.Frag) (C : Addr) (H : Hp) (y : V) : Prop := (∃ b, y = .ref b ∧ InsAt C H b) ∨ (∃ b xs, y = .ref b ∧ SqL K H b xs) ∨ (∃ b xs, y = .ref b ∧ SqT K H b xs) ∨ ∃ z, y = .str z
def notFB (K : PySem.W.Frag) (c : Str) : Bool := PySem.W.notFirst K (He.ga K c) (.type "list") && (PySem.W.notFirst K (He.ga K c) (.type "tuple") && PySem.W.notFirst K (He.ga K c) (.type "str"))
structure NotF (K : PySem.W.Frag) (C : Addr) : Prop where
  l : PySem.W.notFirst K C (.type "list") = true
  t : PySem.W.notFirst K C (.type "tuple") = true
  s : PySem.W.notFirst K C (.type "str") = true
theorem notFB_ok {K : PySem.W.Frag} {c : Str} (h : notFB K c = true) : NotF K (He.ga K c) := by
  unfold notFB at h
  rw [Bool.and_eq_true, Bool.and_eq_true] at h
  exact ⟨h.1, h.2.1, h.2.2⟩
theorem cmp_ty {pins : List (Addr × Obj)} {σ : L2.St} {H : Hp} {s : Shared} {y : V} {u : Value} (nf : NotF X.K C) (I : L2.Inv X pins σ H s) (h : CmpTo X.K C H y) (ry : RelV y u) :
    ∃ tb, PySem.W.Looks (model X.prog X.w) s.heap (typeOf u) tb ∧ PySem.W.notFirst X.K C tb = true := by
  rcases h with ⟨b, rfl, hb⟩ | ⟨b, xs, rfl, hb⟩ | ⟨b, xs, rfl, hb⟩ | ⟨z, rfl⟩
  · cases ry
    obtain ⟨dx, od, J⟩ := look_of I hb
    exact ⟨.ref C, J.type, by simp [PySem.W.notFirst]⟩
  · cases ry
    obtain ⟨its, rv, pl, hz⟩ := I.list hb
    obtain ⟨o, n, ho, hc, _⟩ := id pl
    exact ⟨.type "list", fun A Q E s' k q => wpAny_typeOf_ref (k _ _ ho) (by rw [hc]; exact q), nf.l⟩
  · cases ry
    obtain ⟨its, rv, pl, hz⟩ := I.tuple hb
    obtain ⟨o, ho, hc, _⟩ := id pl
    exact ⟨.type "tuple", fun A Q E s' k q => wpAny_typeOf_ref (k _ _ ho) (by rw [hc]; exact q), nf.t⟩
  · obtain ⟨t, rfl⟩ := ry
    exact ⟨.type "str", fun A Q E s' k q => wpAny_pure q, nf.s⟩
def rOwnEq (K : PySem.W.Frag) (C : Addr) (sp : Sp) (E : XK) : R2 := fun x y H Q => ∃ a, x = .ref a ∧ InsAt C H a ∧ CmpTo K C H y ∧ sp [x, y] H (fun v H' => ∃ b, v = .bl b ∧ Q (.bl b) H') E
theorem op_eqOwn (F : FnOk X.prog X.w X.K X.mg X.base CX k f fd ps sp) (hm : Meth X.K C "__eq__" f) (nf : NotF X.K C) (hr : Room k X.A) (hb : Binds X.K fd ps []) (hx : Passes CX X E) :
    OpR X (compareOp .Eq) (rOwnEq X.K C sp E) := by
  intro pins s σ H x y v u Q I rx ry hq
  obtain ⟨a, rfl, ha, hy, hs⟩ := hq
  cases rx
  obtain ⟨dx, od, J⟩ := look_of I ha
  obtain ⟨m, hF⟩ := I.fr
  obtain ⟨tb, L, hn⟩ := cmp_ty nf I hy ry
  show wpAny (model X.prog X.w) X.A (richCompare .Eq (.ref a) u) (EP X pins σ Q) X.xe s
  refine PySem.W.cmp_K (op := .Eq) (tb := tb) hr.units0 hF I.ok.mod.kin J L hn hm.at_ hm.fn (wpAny_mono (run_own F ⟨hr, rfl⟩ hb hx I (show Vals [V.ref a, y] [Value.ref a, u] from .cons (show RelV (.ref a) (.ref a) from rfl) (.cons ry .nil)) hs) (fun v s' q => ?_) fun _ _ e => e)
  obtain ⟨w, H', I', rw_, b, rfl, q⟩ := q
  cases rw_
  exact ⟨.bl b, H', I', rfl, q⟩
end
end KD

set_option maxHeartbeats 4000000
namespace GQ
open PySem PySem.SeqAt PySem.Calls PyProof.Rows
open AutoSeq1 (wpAny_loadPart')
open MeetsSeq MeetsSeq2 MeetsSeq3 SeqRoads2
/-! ### != by the text's own == -/
section
variable {prog : Program} {w : World} {A : Around} {E : Value → Shared → Prop} {s : Shared} {K : PySem.W.Frag} {x C L f : Addr} {h₀ : Heap} {m : PySem.Str → Option Value} {ox : Obj} {od : Option Obj} {b tb : Value}
theorem ifBound_B {M : Model} {id : String} {name : PySem.Str} {args : List Value} {Q : Option Value → Shared → Prop} (X : K.In s.heap) (I : PySem.W.InstAt s.heap x ox C od) (hs : PySem.W.findIn K (.ref C) name = some (some (.builtin id)))
    (hb : ∀ self, bindSpecial (.builtin id) self = pure (.builtin id, [self])) (h : wpAny M A (call (.builtin id) (.ref x :: args)) (fun v => Q (some v)) E s) : wpAny M A (callSpecialIfBound? (.ref x) name args) Q E s := by
  simp only [callSpecialIfBound?, bindSpecialIfBound?]
  refine wpAny_holding (wpAny_bind (wpAny_bind (wpAny_bind (I.type.here ((PySem.W.looks_findIn X hs).here ?_)))))
  refine wpAny_bind (wpAny_askSetting (wpAny_ite ?_))
  have fin : wpAny M A (call (.builtin id) ([.ref x] ++ args) >>= fun v => pure (some v)) Q E s := wpAny_bind (wpAny_mono h (fun v s' h' => wpAny_pure h') fun _ _ h' => h')
  simp only [hb]
  split
  · exact wpAny_bind (wpAny_pure (wpAny_pure fin))
  · exact wpAny_tryCatch (wpAny_bind (wpAny_pure (wpAny_pure fin)))
theorem cmp_ne {Q : Value → Shared → Prop} (hu : A.units + 1 < cLine) (Fh : PyProof.Rows.Fr h₀ L s.heap m) (X₀ : K.In h₀) (I : PySem.W.InstAt s.heap x ox C od) (hb : PySem.W.Looks (model prog w) s.heap (typeOf b) tb) (hn : PySem.W.notFirst K C tb = true)
    (hne : PySem.W.findIn K (.ref C) "__ne__" = some (some (.builtin "object.__ne__"))) (hob : PySem.W.subIn K (.ref C) (.type "object") = some true)
    (hs : PySem.W.findIn K (.ref C) "__eq__" = some (some (.ref f))) (hf : PySem.W.isFn K (.ref f) = true)
    (h : wpAny (model prog w) A.in1 (call (.ref f) [.ref x, b]) (fun v s' => ∃ r, v = .bool r ∧ Q (.bool (!r)) s') E s) : wpAny (model prog w) A (richCompare .NotEq (.ref x) b) Q E s := by
  have X := X₀.keeps Fh.keep
  have isob : PySem.W.Looks (model prog w) s.heap (isInstance (.ref x) (.type "object")) true := I.type.andThen (PySem.W.looks_subIn X hob)
  have body : ∀ Q' : Value → Shared → Prop, (∀ r s', Q (.bool (!r)) s' → Q' (.bool (!r)) s') → wpAny (model prog w) A (call (.builtin "object.__ne__") [.ref x, b]) Q' E s := fun Q' hQ => by
    refine wpAny_call (codeAny_call_builtin F.slot_object_ne.plain F.cmpEntry_ne (@PySem.W.check_slot (model prog w) _ _ _ "object.__ne__" "object" "__ne__" (.ref x) [b] [] _ (by decide +kernel) (by decide +kernel) isob (F.cmpArgs_ne _ _) ?_))
    unfold Builtin.«object.__ne__»
    refine wpAny_bind (m := slotArgs "__ne__" 1 _) (wpAny_pure ?_)
    refine wpAny_bind (wpAny_cRoomFor (by show A.units + 1 < cLine; exact hu) ?_)
    refine wpAny_bind (m := callSpecialIfBound? (.ref x) (Str.ofString "__eq__") [b]) (PySem.W.ifBound_K X I hs hf (wpAny_mono h (fun v s' hv => ?_) fun _ _ e => e))
    obtain ⟨r, rfl, hq⟩ := hv
    refine wpAny_bind (m := truthy (.bool r)) (wpAny_truthy_bool ?_)
    exact wpAny_pure (hQ _ _ hq)
  have one : wpAny (model prog w) A (tryCompare (.ref x) (cmpInfo .NotEq).2.1 b) (fun r s' => ∃ v, r = some v ∧ Q v s') E s := by
    unfold tryCompare
    refine wpAny_bind (ifBound_B X I hne F.slot_object_ne.bind (wpAny_mono (body (fun v s' => ∃ r, v = .bool (!r) ∧ Q (.bool (!r)) s') fun r s' q => ⟨r, rfl, q⟩) (fun v s' hv => ?_) fun _ _ e => e))
    obtain ⟨r, rfl, hv⟩ := hv
    exact wpAny_pure ⟨_, rfl, hv⟩
  unfold richCompare
  simp only [oneThing_ref]
  refine wpAny_holding (wpAny_bind (wpAny_cRoomFor (Nat.lt_of_succ_lt hu) ?_))
  refine wpAny_bind (I.type.here (wpAny_bind (hb.here ?_)))
  split
  · rename_i q
    have e : PySem.W.subIn K tb (.ref C) = some false := by
      rcases Bool.or_eq_true_iff.mp hn with e | e
      · rw [beq_iff_eq.mp e] at q; simp at q
      · exact beq_iff_eq.mp e
    refine wpAny_bind ((PySem.W.looks_subIn X e).here ?_)
    simp only [Bool.false_eq_true, if_false]
    refine wpAny_bind (wpAny_mono one (fun r s' z => ?_) fun _ _ e => e)
    obtain ⟨v, rfl, hq⟩ := z
    exact wpAny_pure hq
  · refine wpAny_bind (wpAny_pure ?_)
    simp only [Bool.false_eq_true, if_false]
    refine wpAny_bind (wpAny_mono one (fun r s' z => ?_) fun _ _ e => e)
    obtain ⟨v, rfl, hq⟩ := z
    exact wpAny_pure hq
end
/-! ### lists whose items are equal by the text's own ==: != -/
section
variable {prog : Program} {w : World} {A : Around} {R : Result → Shared → Prop}
theorem ne_loopG (l b : Addr) (N : Nat) (I : Nat → Shared → Prop) (hl : ListI prog w A (fun e s' => R (.error e) s') l b N I)
    (fin : ∀ s, I N s → R (.ok (.ret (.bool false))) s) (k : Nat) :
    ∀ i : Nat, N - i = k → i ≤ N → ∀ s, I i s →
      wpAny (model prog w) A.in1 (Builtin.«list.__eq__.loop» ⟨[.ref l, .ref b, rawInt i, rawInt 3], []⟩) (FinOf prog w A R) (fun e s' => R (.error e) s') s := by
  induction k with
  | zero =>
    intro i hk hi s h
    obtain ⟨items, items2, n, n2, hl1, hb1, hs1, hs2, _⟩ := hl _ _ h
    have hi' : i = N := by omega
    have hR : R (.ok (.ret (.bool false))) s := fin s (hi' ▸ h)
    obtain ⟨hp, g, d, tk, os⟩ := s
    wp_walk using wpAny_loadPart' hl1, wpAny_loadPart' hb1
    have hi1 : items[((i : Nat) : Int).toNat]? = none := by simp; omega
    have hi2 : items2[((i : Nat) : Int).toNat]? = none := by simp; omega
    rw [hi1, hi2]
    wp_walk using wpAny_loadPart' hl1, wpAny_loadPart' hb1
    show R (.ok (.ret (.bool (items.size != items2.size)))) _
    rw [hs1, hs2]
    simpa using hR
  | succ k ih =>
    intro i hk hi s h
    obtain ⟨items, items2, n, n2, hl1, hb1, hs1, hs2, turn⟩ := hl _ _ h
    have hlt : i < items.size := by omega
    have hlt2 : i < items2.size := by omega
    have ht := turn hlt hlt2
    obtain ⟨hp, g, d, tk, os⟩ := s
    wp_walk using wpAny_loadPart' hl1, wpAny_loadPart' hb1
    have hi1 : items[((i : Nat) : Int).toNat]? = some items[i] := by simp [hlt]
    have hi2 : items2[((i : Nat) : Int).toNat]? = some items2[i] := by simp [hlt2]
    have hc : ((i : Int) + 1) = ((i + 1 : Nat) : Int) := by omega
    rw [hi1, hi2]
    refine wpAny_bind (wpAny_mono ht (fun r s2 h2 => ?_) fun _ _ x => x)
    obtain ⟨hr, h2⟩ := h2
    subst hr
    have hrec := ih (i + 1) (by omega) (by omega) s2 h2
    obtain ⟨hp2, g2, d2, tk2, os2⟩ := s2
    wp_walk
    rw [hc]
    exact ⟨plainId_quiet plain_eq_loop _, codeAny_builtin entry_eq_loop (by
      rw [Around.under_plainId plain_eq_loop _]
      exact hrec)⟩
theorem list_neG (l b : Addr) (N : Nat) (I : Nat → Shared → Prop) (hl : ListI prog w A (fun e s' => R (.error e) s') l b N I)
    (fin : ∀ s, I N s → R (.ok (.ret (.bool false))) s) {s : Shared} (h : I 0 s) :
    wpAny (model prog w) A.in1 (Builtin.«list.__ne__» ⟨[.ref l, .ref b], []⟩) (FinOf prog w A R) (fun e s' => R (.error e) s') s := by
  obtain ⟨items, items2, n, n2, hl1, hb1, hs1, hs2, _⟩ := hl _ _ h
  have hrec := ne_loopG (A := A) (R := R) l b N I hl fin _ 0 rfl (Nat.zero_le _) s h
  obtain ⟨hp, g, d, tk, os⟩ := s
  have f3 := AutoSeq1.sub_list_list
  have hne : ¬ (items.size != items2.size) = true := by simp [hs1, hs2]
  wp_walk using wpAny_loadPart' hl1, wpAny_loadPart' hb1
  exact ⟨plainId_quiet plain_eq_loop _, codeAny_builtin entry_eq_loop (by
    rw [Around.under_plainId plain_eq_loop _]
    exact hrec)⟩
end
section
variable {prog : Program} {w : World} {A : Around} {E : Value → Shared → Prop} {s : Shared}
theorem rn_listG {l b : Addr} {N : Nat} {Q : Value → Shared → Prop} (hu : A.units < cLine) (I : Nat → Shared → Prop) (hl : ListI prog w A E l b N I)
    (fin : ∀ s, I N s → Q (.bool false) s) (h : I 0 s) : wpAny (model prog w) A (richCompare .NotEq (.ref l) (.ref b)) Q E s := by
  obtain ⟨items, items2, n, n2, hl1, hb1, _, _, _⟩ := hl _ _ h
  refine wpAny_richCompare_same_room (op := .NotEq) ⟨_, hl1, rfl⟩ ⟨_, hb1, rfl⟩ F.slot_list_ne (call_here F.slot_list_ne ⟨_, hl1, rfl⟩ F.entry_list_ne (F.args_list_ne_2 _ _) ?_) hu
  exact list_neG (R := wants (fun v s' => v ≠ .notImplemented ∧ Q v s') E) l b N I hl (fun s' q => ⟨(fun x => nomatch x), fin s' q⟩) h
end
end GQ

set_option maxHeartbeats 4000000
namespace KD
open PySem PySem.Spec PyProof.Rows L2
section
variable {X : Cx} {CX : CXT} {ct : Nat → Addr} {Γ : Gam} {k n c : Nat} {f : Addr} {fd : FuncData} {ps : List Str} {fm : FM} {E : XK}
/-! ### mirrors of operations by own methods -/
def ownV (c : Nat) (f : FM) (p : Val → Bool) (o : SE → List D → Bool) : List D × SE → Option (Val × SE)
  | (d :: rest, ε) => match insD ε d with
    | some (c', _, _) => if c' = c ∧ o ε rest = true then (f (d :: rest) ε.M).bind fun r => if r.2.length = ε.M.length ∧ p r.1 = true then some (r.1, { ε with M := r.2 }) else none else none
    | none => none
  | ([], _) => none
theorem ownV_some {c : Nat} {f : FM} {p : Val → Bool} {o : SE → List D → Bool} {q : List D × SE} {r : Val × SE} (h : ownV c f p o q = some r) :
    ∃ d rest ns ds z, q.1 = d :: rest ∧ insD q.2 d = some (c, ns, ds) ∧ o q.2 rest = true ∧ f (d :: rest) q.2.M = some z ∧ z.2.length = q.2.M.length ∧ p z.1 = true ∧ r = (z.1, { q.2 with M := z.2 }) := by
  obtain ⟨l, ε⟩ := q
  cases l with
  | nil => cases h
  | cons d rest =>
    unfold ownV at h
    dsimp only at h
    cases e : insD ε d with
    | none => rw [e] at h; cases h
    | some t =>
      obtain ⟨c', ns, ds⟩ := t
      rw [e] at h
      dsimp only at h
      by_cases hc : c' = c ∧ o ε rest = true
      · rw [if_pos hc] at h
        obtain ⟨rfl, ho⟩ := hc
        cases e2 : f (d :: rest) ε.M with
        | none => rw [e2] at h; cases h
        | some z =>
          rw [e2, Option.bind_some] at h
          by_cases hp : z.2.length = ε.M.length ∧ p z.1 = true
          · rw [if_pos hp] at h
            cases h
            exact ⟨d, rest, ns, ds, z, rfl, e, ho, e2, hp.1, hp.2, rfl⟩
          · rw [if_neg hp] at h; cases h
      · rw [if_neg hc] at h; cases h
def eOwn (c : Nat) (f : FM) (p : Val → Bool) (o : SE → List D → Bool) (fa : AM) : EM := fun ε => (fa ε).bind fun r => (escL r.2 r.1).bind fun q => ownV c f p o q
theorem FnS.mono {K : PySem.W.Frag} {vs : List V} {H : Hp} {Q Q' : VK} {E' : XK} (h : FnS K ct n fm vs H Q E) (q : ∀ v H', Q v H' → Q' v H') : FnS K ct n fm vs H Q' E' :=
  let ⟨l, mu, ow, ds, M, r, h1, h2, h3, h4, h5⟩ := h
  ⟨l, mu, ow, ds, M, r, h1, h2, h3, h4, fun v H' ow' m fr vr => q v H' (h5 v H' ow' m fr vr)⟩
theorem own_imp {K : PySem.W.Frag} {p : Val → Bool} {o : SE → List D → Bool} {fa : AM} {P : V → Prop} {O : List V → Hp → Prop} (hn : ∀ ds M r, fm ds M = some r → ds.length = n)
    (hp : ∀ mu ow (H0 : Hp) (σ : L2.St) (H : Hp) v val, p val = true → VR ⟨K, ct, mu⟩ ow H0 σ H v val → P v)
    (ho : ∀ mu ow (ε : SE) (σ : L2.St) (H : Hp) vs ds, Sim ⟨K, ct, mu⟩ ow ε σ H → RpAll ⟨K, ct, mu⟩ (cut H ow) vs ds → o ε ds = true → O vs H)
    (σ : L2.St) (H : Hp) (Q : VK) (h : tE K ct (eOwn c fm p o fa) σ H Q) :
    tA K ct fa σ H fun vs H1 => ∃ a rest, vs = .ref a :: rest ∧ InsAt (ct c) H1 a ∧ O rest H1 ∧ FnS K ct n fm vs H1 (fun v H' => P v ∧ Q v H') E := by
  obtain ⟨mu, ow, ε, val, ε', S, hf, kk⟩ := h
  unfold eOwn at hf
  cases e1 : fa ε with
  | none => rw [e1] at hf; cases hf
  | some ra =>
    rw [e1, Option.bind_some] at hf
    cases e2 : escL ra.2 ra.1 with
    | none => rw [e2] at hf; cases hf
    | some q =>
      rw [e2, Option.bind_some] at hf
      obtain ⟨d, rest, ns, ds, z, q1, q2, q3, q4, q5, q6, q7⟩ := ownV_some hf
      cases q7
      refine ⟨mu, ow, ε, ra.1, ra.2, S, e1, fun vs H1 ow1 S1 fr1 r1 => ?_⟩
      obtain ⟨ow2, S2, fr2, r2⟩ := VRs.esc S1 r1 e2
      rw [q1] at r2
      cases vs with
      | nil => cases r2
      | cons v vs =>
        cases r2 with | cons hd tl =>
        obtain ⟨a, dx, vs', rfl, ha, _⟩ := ins_of S2 (.inl hd) q2
        have hr : RpAll _ (cut H1 ow2) (V.ref a :: vs) (d :: rest) := .cons hd tl
        exact ⟨a, vs, rfl, ⟨dx, _, ha⟩, ho mu ow2 q.2 σ H1 vs rest S2 tl q3, fn_use S2 (fr1.trans fr2) hr (by rw [hr.length]; exact hn _ _ _ q4) q4 q5 fun v H' ow' S3 fr3 r3 => ⟨hp _ _ _ _ _ _ _ q6 r3, kk v H' ow' S3 fr3 r3⟩⟩
/-! ### what the methods answer -/
noncomputable def lenOk : Val → Bool
  | .d (.int i) => bnd i && decide (0 ≤ i)
  | _ => false
def strOk : Val → Bool
  | .d (.str _) => true
  | _ => false
def blOk : Val → Bool
  | .d (.bl _) => true
  | _ => false
def anyO : SE → List D → Bool := fun _ l => l.isEmpty
def othD (c : Nat) (ε : SE) : D → Bool
  | .str _ => true
  | .lst _ => true
  | .tup _ => true
  | d => match insD ε d with | some (c', _, _) => c' == c | none => false
def othO (c : Nat) (ε : SE) : List D → Bool
  | [d] => othD c ε d
  | _ => false
theorem lenOk_p {mu : Nat → Option Addr} {K : PySem.W.Frag} {ow : OwF} {H0 : Hp} {σ : L2.St} {H : Hp} {v : V} {val : Val} (h : lenOk val = true) (r : VR ⟨K, ct, mu⟩ ow H0 σ H v val) : ∃ i : Int, v = .int i ∧ 0 ≤ i ∧ i < 2 ^ 63 := by
  cases val with
  | d d =>
    cases d with
    | int i =>
      have h' : (bnd i && decide (0 ≤ i)) = true := h
      rw [Bool.and_eq_true] at h'
      cases r
      have := bnd_of h'.1
      exact ⟨i, rfl, of_decide_eq_true h'.2, by omega⟩
    | _ => cases h
  | _ => cases h
theorem strOk_p {mu : Nat → Option Addr} {K : PySem.W.Frag} {ow : OwF} {H0 : Hp} {σ : L2.St} {H : Hp} {v : V} {val : Val} (h : strOk val = true) (r : VR ⟨K, ct, mu⟩ ow H0 σ H v val) : ∃ z : Str, v = .str z := by
  cases val with
  | d d =>
    cases d with
    | str z => cases r; exact ⟨z, rfl⟩
    | _ => cases h
  | _ => cases h
theorem blOk_p {mu : Nat → Option Addr} {K : PySem.W.Frag} {ow : OwF} {H0 : Hp} {σ : L2.St} {H : Hp} {v : V} {val : Val} (h : blOk val = true) (r : VR ⟨K, ct, mu⟩ ow H0 σ H v val) : ∃ b : Bool, v = .bl b := by
  cases val with
  | d d =>
    cases d with
    | bl b => cases r; exact ⟨b, rfl⟩
    | _ => cases h
  | _ => cases h
theorem othO_p {mu : Nat → Option Addr} {K : PySem.W.Frag} {ow : OwF} {ε : SE} {σ : L2.St} {H : Hp} {vs : List V} {ds : List D} (S : Sim ⟨K, ct, mu⟩ ow ε σ H) (r : RpAll ⟨K, ct, mu⟩ (cut H ow) vs ds) (h : othO c ε ds = true) :
    ∃ y, vs = [y] ∧ CmpTo K (ct c) H y := by
  match ds, vs, r, h with
  | [d], [y], .cons r .nil, h =>
    refine ⟨y, rfl, ?_⟩
    have h' : othD c ε d = true := h
    have ins : ∀ t, insD ε d = some t → (t.1 == c) = true → CmpTo K (ct c) H y := fun t e q => by
      obtain ⟨c', ns, ds⟩ := t
      obtain ⟨a, dx, vs, rfl, ha, _⟩ := ins_of S (.inl r) e
      obtain rfl := beq_iff_eq.mp q
      exact .inl ⟨a, rfl, dx, _, ha⟩
    cases d with
    | str z => cases r; exact .inr (.inr (.inr ⟨z, rfl⟩))
    | lst l => cases r with | lst h1 _ _ => exact .inr (.inl ⟨_, _, rfl, .inl (.inl (cut_sub _ _ h1))⟩)
    | tup l => cases r with | tup h1 _ _ => exact .inr (.inr (.inl ⟨_, _, rfl, (Sub.sqt cut_sub h1.sqt)⟩))
    | ins c' ns ds => exact ins _ rfl h'
    | ptr m =>
      have h' : (match insD ε (.ptr m) with | some (c', _, _) => c' == c | none => false) = true := h'
      cases e : insD ε (.ptr m) with
      | none => rw [e] at h'; cases h'
      | some t => rw [e] at h'; exact ins t e h'
    | _ => cases h'
theorem anyO_p {mu : Nat → Option Addr} {K : PySem.W.Frag} {F : Hp} {ε : SE} {vs : List V} {ds : List D} (r : RpAll ⟨K, ct, mu⟩ F vs ds) (h : anyO ε ds = true) : vs = [] := by
  cases r with
  | nil => rfl
  | cons _ _ => cases h
theorem tA_one_imp {K : PySem.W.Frag} {fa : AM} {te : TA} {σ : L2.St} {H : Hp} {R R' : List V → Hp → Prop} (h : tA K ct fa σ H R) (hr : ∀ vs H1, R vs H1 → R' vs H1) : tA K ct fa σ H R' :=
  let ⟨mu, ow, ε, vals, ε', S, hf, kk⟩ := h
  ⟨mu, ow, ε, vals, ε', S, hf, fun vs H' ow' S' fr r => hr _ _ (kk vs H' ow' S' fr r)⟩
theorem tA_two {K : PySem.W.Frag} {fa fb : EM} {σ : L2.St} {H : Hp} {R : List V → Hp → Prop} (h : tA K ct (aCons fa (aCons fb aNil)) σ H R) : tE K ct (fzE fa) σ H fun x H1 => tE K ct (fzE fb) σ H1 fun y H2 => R [x, y] H2 := by
  obtain ⟨mu, ow, ε, vals, ε', S, hf, kk⟩ := h
  obtain ⟨ra, rb, e1, e2, e3⟩ := aCons_some hf
  obtain ⟨rc, rd, e4, e5, e6⟩ := aCons_some e2
  cases e5
  cases e6
  cases e3
  refine ⟨mu, ow, ε, ra.1, ra.2, S, e1, fun x H1 ow1 S1 fr1 r1 => ⟨mu, ow1, ra.2, rc.1, rc.2, S1, e4, fun y H2 ow2 S2 fr2 r2 => kk [x, y] H2 ow2 S2 (fr1.trans fr2) ⟨?_, ?_, trivial⟩⟩⟩
  · obtain ⟨va, ha, hv⟩ := fzE_some e1
    rw [hv] at r1 ⊢
    rw [fzv_fzv]
    exact r1.carry fr2
  · obtain ⟨va, ha, hv⟩ := fzE_some e4
    rw [hv] at r2 ⊢
    rw [fzv_fzv]
    exact r2.carry Fr.refl
/-! ### the rules -/
section
variable (F : FnOk X.prog X.w X.K X.mg X.base CX k f fd ps (FnS X.K ct n fm))
include F
theorem de_lenOwn {x : Str} {p pos : Pos} {e : Expr} {fa : AM} (hm : Meth X.K (ct c) "__len__" f) (hr : Room (k + 1) X.A) (hb : Binds X.K fd ps []) (hx : Passes CX X E) (hn : ∀ ds M r, fm ds M = some r → ds.length = n)
    (ha : PA X [e] (tA X.K ct fa)) (hmg : X.mg x = none) (hg : Gl X x := by rfl)
    (hv : bootBuiltins x = some (.builtin "len") := by decide +kernel) (hnn : x ≠ "__name__" := by decide) (hdb : (x == ("__debug__" : Str)) = false := by decide)
    (he : starEach [e] X.env = (false, eval e X.env) :: starEach [] X.env := by rfl) (hpl : (backTo pos (starEach [] X.env)).any (·.1) = false := by rfl) :
    PE X (.Call (.Name x p) [e] [] pos) (tE X.K ct (eOwn c fm lenOk anyO fa)) :=
  (pe_callB (call_lenOwn F hm hr hb hx) hg hmg hv ha hnn hdb he hpl).imp fun σ H Q h => by
    refine tA_one_imp (te := fun _ _ _ => True) (own_imp (P := fun v => ∃ i : Int, v = .int i ∧ 0 ≤ i ∧ i < 2 ^ 63) (O := fun vs _ => vs = []) (E := E) hn (fun _ _ _ _ _ _ _ => lenOk_p) (fun _ _ _ _ _ _ _ _ => anyO_p) σ H Q h) fun vs H1 q => ?_
    obtain ⟨a, rest, rfl, hi, rfl, hs⟩ := q
    refine ⟨a, rfl, hi, ?_⟩
    refine FnS.mono hs fun v H' ⟨⟨i, hv, h0, h1⟩, hq⟩ => ⟨i, hv, h0, h1, hv ▸ hq⟩
end
end
end KD

set_option maxHeartbeats 4000000
namespace KD
open PySem PySem.Spec PyProof.Rows L2
section
variable {X : Cx} {CX : CXT} {ct : Nat → Addr} {Γ : Gam} {k n c : Nat} {f : Addr} {fd : FuncData} {ps : List Str} {fm : FM} {E : XK}
def nutE (g : EM) : EM := fun ε => (g ε).bind fun r => match r.1 with | .d (.bl b) => some (.d (.bl (!b)), r.2) | _ => none
theorem nutE_some {g : EM} {ε : SE} {r : Val × SE} (h : nutE g ε = some r) : ∃ b, g ε = some (.d (.bl b), r.2) ∧ r.1 = .d (.bl (!b)) := by
  unfold nutE at h
  cases e : g ε with
  | none => rw [e] at h; cases h
  | some z =>
    obtain ⟨v, ε1⟩ := z
    rw [e, Option.bind_some] at h
    dsimp only at h
    cases v with
    | d d =>
      cases d with
      | bl b => cases h; exact ⟨b, rfl, rfl⟩
      | _ => cases h
    | _ => cases h
theorem nutE_imp {K : PySem.W.Frag} {g : EM} {σ : L2.St} {H : Hp} {Q : VK} (h : tE K ct (nutE g) σ H Q) : tE K ct g σ H fun v H' => ∀ b, v = .bl b → Q (.bl (!b)) H' := by
  obtain ⟨mu, ow, ε, val, ε', S, hf, kk⟩ := h
  obtain ⟨b, e1, e2⟩ := nutE_some hf
  dsimp only at e1 e2
  subst e2
  refine ⟨mu, ow, ε, _, ε', S, e1, fun v H' ow' S' fr r b' hv => ?_⟩
  subst hv
  cases r
  exact kk _ H' ow' S' fr (.bl _)
section
variable (F : FnOk X.prog X.w X.K X.mg X.base CX k f fd ps (FnS X.K ct n fm))
include F
theorem de_strOwn {x : Str} {p pos : Pos} {e : Expr} {fa : AM} (hm : Meth X.K (ct c) "__str__" f) (hr : Room (k + 2) X.A) (hb : Binds X.K fd ps []) (hx : Passes CX X E) (hn : ∀ ds M r, fm ds M = some r → ds.length = n)
    (ha : PA X [e] (tA X.K ct fa)) (hmg : X.mg x = none) (hg : Gl X x := by rfl)
    (hv : bootBuiltins x = some (.type "str") := by decide +kernel) (hnn : x ≠ "__name__" := by decide) (hdb : (x == ("__debug__" : Str)) = false := by decide)
    (he : starEach [e] X.env = (false, eval e X.env) :: starEach [] X.env := by rfl) (hpl : (backTo pos (starEach [] X.env)).any (·.1) = false := by rfl) :
    PE X (.Call (.Name x p) [e] [] pos) (tE X.K ct (eOwn c fm strOk anyO fa)) :=
  (pe_callTy (call_strOwn F hm hr hb hx) hg hmg hv ha hnn hdb he hpl).imp fun σ H Q h => by
    refine tA_one_imp (te := fun _ _ _ => True) (own_imp (P := fun v => ∃ z : Str, v = .str z) (O := fun vs _ => vs = []) (E := E) hn (fun _ _ _ _ _ _ _ => strOk_p) (fun _ _ _ _ _ _ _ _ => anyO_p) σ H Q h) fun vs H1 q => ?_
    obtain ⟨a, rest, rfl, hi, rfl, hs⟩ := q
    refine ⟨a, rfl, hi, ?_⟩
    refine FnS.mono hs fun v H' ⟨⟨i, hv⟩, hq⟩ => ⟨i, hv, hv ▸ hq⟩
theorem op_neOwn (hm : Meth X.K (ct c) "__eq__" f) (nf : NotF X.K (ct c)) (hne : PySem.W.findIn X.K (.ref (ct c)) "__ne__" = some (some (.builtin "object.__ne__"))) (hob : PySem.W.subIn X.K (.ref (ct c)) (.type "object") = some true)
    (hr : Room (k + 1) X.A) (hb : Binds X.K fd ps []) (hx : Passes CX X E) :
    OpR X (compareOp .NotEq) (fun x y H Q => rOwnEq X.K (ct c) (FnS X.K ct n fm) E x y H fun v H' => ∀ b, v = .bl b → Q (.bl (!b)) H') := by
  intro pins s σ H x y v u Q I rx ry hq
  obtain ⟨a, rfl, ha, hy, hs⟩ := hq
  cases rx
  obtain ⟨dx, od, J⟩ := look_of I ha
  obtain ⟨m, hF⟩ := I.fr
  obtain ⟨tb, L, hn'⟩ := cmp_ty nf I hy ry
  have hr1 := hr.un
  show wpAny (model X.prog X.w) X.A (richCompare .NotEq (.ref a) u) (EP X pins σ Q) X.xe s
  refine GQ.cmp_ne (tb := tb) (by omega) hF I.ok.mod.kin J L hn' hne hob hm.at_ hm.fn (wpAny_mono (run_own F ⟨hr.in1, rfl⟩ hb hx I (show Vals [V.ref a, y] [Value.ref a, u] from .cons (show RelV (.ref a) (.ref a) from rfl) (.cons ry .nil)) hs) (fun v s' q => ?_) fun _ _ e => e)
  obtain ⟨w, H', I', rw_, b, rfl, q⟩ := q
  cases rw_
  exact ⟨b, rfl, .bl (!b), H', I', rfl, q b rfl⟩
end
theorem tE_weak {K : PySem.W.Frag} {g : EM} {σ : L2.St} {H : Hp} {Q Q' : VK} (h : tE K ct g σ H Q) (q : ∀ v H', Q v H' → Q' v H') : tE K ct g σ H Q' :=
  let ⟨mu, ow, ε, val, ε', S, hf, kk⟩ := h
  ⟨mu, ow, ε, val, ε', S, hf, fun v H' ow' S' fr r => q v H' (kk v H' ow' S' fr r)⟩
theorem ownEq_imp {K : PySem.W.Frag} {fa fb : EM} (hn : ∀ ds M r, fm ds M = some r → ds.length = n) (σ : L2.St) (H : Hp) (Q : VK) (h : tE K ct (eOwn c fm blOk (othO c) (aCons fa (aCons fb aNil))) σ H Q) :
    tOp (rOwnEq K (ct c) (FnS K ct n fm) E) (tE K ct (fzE fa)) (tE K ct (fzE fb)) σ H Q := by
  have q := tA_two (own_imp (P := fun v => ∃ b : Bool, v = .bl b) (O := fun vs H => ∃ y, vs = [y] ∧ CmpTo K (ct c) H y) (E := E) hn (fun _ _ _ _ _ _ _ => blOk_p) (fun _ _ _ _ _ _ _ => othO_p) σ H Q h)
  refine tE_weak q fun x H1 h1 => tE_weak h1 fun y H2 h2 => ?_
  obtain ⟨a, rest, e1, hi, ⟨y', e2, hc⟩, hs⟩ := h2
  subst e2
  cases e1
  exact ⟨a, rfl, hi, hc, FnS.mono hs fun v H' ⟨⟨b, hv⟩, hq⟩ => ⟨b, hv, hv ▸ hq⟩⟩
section
variable (F : FnOk X.prog X.w X.K X.mg X.base CX k f fd ps (FnS X.K ct n fm))
include F
theorem de_eqOwn {a b : Expr} {pos : Pos} {fa fb : EM} (hm : Meth X.K (ct c) "__eq__" f) (nf : NotF X.K (ct c)) (hr : Room k X.A) (hb : Binds X.K fd ps []) (hx : Passes CX X E) (hn : ∀ ds M r, fm ds M = some r → ds.length = n)
    (ha : PE X a (tE X.K ct fa)) (hb2 : PE X b (tE X.K ct fb)) (hmk : behindInMarks .Eq b = false := by rfl) : PE X (.Compare a [.Eq] [b] pos) (tE X.K ct (eOwn c fm blOk (othO c) (aCons fa (aCons fb aNil)))) :=
  (pe_cmpR (op_eqOwn F hm nf hr hb hx) (de_fz ha) (de_fz hb2) hmk).imp (ownEq_imp hn)
theorem dt_eqOwn {a b : Expr} {pos : Pos} {fa fb : EM} (hm : Meth X.K (ct c) "__eq__" f) (nf : NotF X.K (ct c)) (hr : Room k X.A) (hb : Binds X.K fd ps []) (hx : Passes CX X E) (hn : ∀ ds M r, fm ds M = some r → ds.length = n)
    (ha : PE X a (tE X.K ct fa)) (hb2 : PE X b (tE X.K ct fb)) (hmk : behindInMarks .Eq b = false := by rfl) : PT X (.Compare a [.Eq] [b] pos) (tT X.K ct (eB (eOwn c fm blOk (othO c) (aCons fa (aCons fb aNil))))) :=
  (pt_cmpR (op_eqOwn F hm nf hr hb hx) (de_fz ha) (de_fz hb2) hmk).imp (test_imp (ownEq_imp hn))
theorem neOwn_imp {fa fb : EM} (hn : ∀ ds M r, fm ds M = some r → ds.length = n) (σ : L2.St) (H : Hp) (Q : VK) (h : tE X.K ct (nutE (eOwn c fm blOk (othO c) (aCons fa (aCons fb aNil)))) σ H Q) :
    tOp (fun x y H Q => rOwnEq X.K (ct c) (FnS X.K ct n fm) E x y H fun v H' => ∀ b, v = .bl b → Q (.bl (!b)) H') (tE X.K ct (fzE fa)) (tE X.K ct (fzE fb)) σ H Q :=
  ownEq_imp hn σ H _ (nutE_imp h)
theorem de_neOwn {a b : Expr} {pos : Pos} {fa fb : EM} (hm : Meth X.K (ct c) "__eq__" f) (nf : NotF X.K (ct c)) (hne : PySem.W.findIn X.K (.ref (ct c)) "__ne__" = some (some (.builtin "object.__ne__"))) (hob : PySem.W.subIn X.K (.ref (ct c)) (.type "object") = some true)
    (hr : Room (k + 1) X.A) (hb : Binds X.K fd ps []) (hx : Passes CX X E) (hn : ∀ ds M r, fm ds M = some r → ds.length = n)
    (ha : PE X a (tE X.K ct fa)) (hb2 : PE X b (tE X.K ct fb)) (hmk : behindInMarks .NotEq b = false := by rfl) : PE X (.Compare a [.NotEq] [b] pos) (tE X.K ct (nutE (eOwn c fm blOk (othO c) (aCons fa (aCons fb aNil))))) :=
  (pe_cmpR (op_neOwn F hm nf hne hob hr hb hx) (de_fz ha) (de_fz hb2) hmk).imp (neOwn_imp F hn)
theorem dt_neOwn {a b : Expr} {pos : Pos} {fa fb : EM} (hm : Meth X.K (ct c) "__eq__" f) (nf : NotF X.K (ct c)) (hne : PySem.W.findIn X.K (.ref (ct c)) "__ne__" = some (some (.builtin "object.__ne__"))) (hob : PySem.W.subIn X.K (.ref (ct c)) (.type "object") = some true)
    (hr : Room (k + 1) X.A) (hb : Binds X.K fd ps []) (hx : Passes CX X E) (hn : ∀ ds M r, fm ds M = some r → ds.length = n)
    (ha : PE X a (tE X.K ct fa)) (hb2 : PE X b (tE X.K ct fb)) (hmk : behindInMarks .NotEq b = false := by rfl) : PT X (.Compare a [.NotEq] [b] pos) (tT X.K ct (eB (nutE (eOwn c fm blOk (othO c) (aCons fa (aCons fb aNil)))))) :=
  (pt_cmpR (op_neOwn F hm nf hne hob hr hb hx) (de_fz ha) (de_fz hb2) hmk).imp (test_imp (neOwn_imp F hn))
end
/-! ### lists of instances: != -/
def eqT (f : FM) (d e : D) : Bool := match f [d, e] [] with
  | some (.d (.bl true), []) => true
  | _ => false
def isInsD (c : Nat) : D → Bool
  | .ins c' _ _ => c' == c
  | _ => false
def pairT (c : Nat) (f : FM) : List D → List D → Bool
  | [], [] => true
  | d :: l, e :: m => isInsD c d && isInsD c e && eqT f d e && pairT c f l m
  | _, _ => false
def neLO (c : Nat) (f : FM) (d e : D) : Option Val := match d, e with
  | .lst l, .lst m => if pairT c f l m = true then some (.d (.bl false)) else none
  | _, _ => none
theorem eqT_some {f : FM} {d e : D} (h : eqT f d e = true) : f [d, e] [] = some (.d (.bl true), []) := by
  unfold eqT at h
  split at h
  · assumption
  · cases h
/-- both are instances by some reading, and the text's own == says yes -/
def RelEq (K : PySem.W.Frag) (ct : Nat → Addr) (fm : FM) (a b : Addr) (H : Hp) : Prop := ∃ mu F d e, Sub F H ∧ Rp ⟨K, ct, mu⟩ F (.ref a) d ∧ Rp ⟨K, ct, mu⟩ F (.ref b) e ∧ fm [d, e] [] = some (.d (.bl true), [])
theorem relEq_mono {K : PySem.W.Frag} : ∀ a b H H', Ext H H' → RelEq K ct fm a b H → RelEq K ct fm a b H' := fun a b H H' x ⟨mu, F, d, e, s, r1, r2, q⟩ => ⟨mu, F, d, e, fun p o h => x p o (s p o h), r1, r2, q⟩
theorem spEq_of {K : PySem.W.Frag} : ∀ vs H Q E, spEq (RelEq K ct fm) vs H Q E → FnS K ct 2 fm vs H Q E := fun vs H Q E ⟨a, b, hv, ⟨mu, F, d, e, s, r1, r2, q⟩, kk⟩ => by
  subst hv
  let ow : OwF := fun x => match F x with | some _ => none | none => some .ext
  have sF : Sub F (cut H ow) := fun x o h => cut_mk (by show (match F x with | some _ => none | none => some Ow.ext) = none; rw [h]) (s x o h)
  refine ⟨rfl, mu, ow, [d, e], [], _, fun x w h => ?_, .cons (r1.mono sF) (.cons (r2.mono sF) .nil), fun j m h => by simp at h, q, fun v H' ow' m fr vr => ?_⟩
  · have h' : (match F x with | some _ => none | none => some Ow.ext) = some w := h
    split at h'
    · cases h'
    · cases h'; exact .inl rfl
  · have hv : v = .bl true := by
      have vr' : Rp _ _ v (.bl true) := vr
      cases vr'; rfl
    subst hv
    refine kk H' fun x o h => ?_
    cases e : ow x with
    | none => exact (fr.fz x o h e).2
    | some w =>
      have : w = .ext := by
        have h' : (match F x with | some _ => none | none => some Ow.ext) = some w := e
        split at h'
        · cases h'
        · cases h'; rfl
      exact (fr.ke x o w h e (.inr this)).2
theorem pairT_prs {K : PySem.W.Frag} {mu : Nat → Option Addr} {F H : Hp} (s : Sub F H) : ∀ {l m : List D} {xs ys : List V}, RpAll ⟨K, ct, mu⟩ F xs l → RpAll ⟨K, ct, mu⟩ F ys m → pairT c fm l m = true → Prs (DIns (ct c) (RelEq K ct fm)) xs ys H
  | [], [], _, _, .nil, .nil, _ => Prs.nil
  | d :: l, e :: m, x :: xs, y :: ys, .cons r1 t1, .cons r2 t2, h => by
    have h' : (isInsD c d && isInsD c e && eqT fm d e && pairT c fm l m) = true := h
    rw [Bool.and_eq_true, Bool.and_eq_true, Bool.and_eq_true] at h'
    refine Prs.cons ?_ (pairT_prs s t1 t2 h'.2)
    obtain ⟨⟨⟨h1, h2⟩, h3⟩, _⟩ := h'
    cases d <;> first | cases h1 | skip
    cases e <;> first | cases h2 | skip
    rename_i c1 n1 l1 c2 n2 l2
    obtain rfl : c1 = c := beq_iff_eq.mp h1
    obtain rfl : c2 = c1 := beq_iff_eq.mp h2
    have r1' := r1
    have r2' := r2
    cases r1 with | ins q1 _ _ =>
    cases r2 with | ins q2 _ _ =>
    exact ⟨_, _, _, _, _, _, rfl, rfl, s _ _ q1, s _ _ q2, mu, F, _, _, s, r1', r2', eqT_some h3⟩
theorem op_neList {D' : Eqv} (hD : Mon D') (h : EqG X k D') (hr : Room (k + 1) X.A) : OpR X (compareOp .NotEq) (fun x y H Q => DList D' x y H ∧ ∀ H', Ext H H' → Q (.bl false) H') := by
  intro pins s σ H x y v u Q I rx ry hq
  obtain ⟨⟨a, b, xs, ys, rfl, rfl, ha, hb, p⟩, q⟩ := hq
  cases rx
  cases ry
  show wpAny (model X.prog X.w) X.A (richCompare .NotEq (.ref a) (.ref b)) (EP X pins σ Q) X.xe s
  refine GQ.rn_listG (N := xs.length) hr.units0 (fun _ s' => LoopI X pins σ H s') (fun i s' q => ?_) (fun s' ⟨H', I', e⟩ => ⟨.bl false, H', I', rfl, q H' e⟩) ⟨H, I, Ext.rfl'⟩
  obtain ⟨H1, I1, e1⟩ := id q
  obtain ⟨z, its, k, r, e⟩ := I1.hok a _ (e1 _ _ ha)
  obtain ⟨z2, its2, k2, r2, e2⟩ := I1.hok b _ (e1 _ _ hb)
  refine ⟨its.toArray, its2.toArray, k, k2, e, e2, by rw [List.size_toArray, ← r.length], by rw [List.size_toArray, ← r2.length, ← p.1], fun h1 h2 => ?_⟩
  exact turnG hD h ⟨hr, rfl⟩ p r r2 i h1 h2 s' q
theorem neLO_imp {K : PySem.W.Frag} {fa fb : EM} (σ : L2.St) (H : Hp) (Q : VK) (h : tE K ct (eOp (neLO c fm) fa fb) σ H Q) :
    tOp (fun x y H Q => DList (DIns (ct c) (RelEq K ct fm)) x y H ∧ ∀ H', Ext H H' → Q (.bl false) H') (tE K ct (fzE fa)) (tE K ct (fzE fb)) σ H Q := by
  obtain ⟨mu, ow, ε, val, ε', S, hf, kk⟩ := h
  obtain ⟨ra, rb, d, e, e1, e2, e3, e4, e5, e6⟩ := eOp_some hf
  dsimp only at e5 e6
  subst e6
  refine two e1 e2 e3 e4 S fun x y H2 ow2 S2 fr rx ry => ?_
  unfold neLO at e5
  split at e5
  · rename_i l m
    by_cases hp : pairT c fm l m = true
    · rw [if_pos hp] at e5
      cases e5
      have get : ∀ {x : V} {l : List D}, RpO ⟨K, ct, mu⟩ (cut H2 ow2) H2 x (.lst l) → ∃ a vs, x = .ref a ∧ H2 a = some (.lst vs) ∧ RpAll ⟨K, ct, mu⟩ (cut H2 ow2) vs l := fun r => by
        rcases r with r | ⟨p, m, rfl, ho, hm⟩
        · cases r with | lst h r l => exact ⟨_, _, rfl, cut_sub _ _ h, r⟩
        · cases m with
          | lst _ => cases hm; obtain ⟨vs, h1, h2, _⟩ := ho; exact ⟨_, _, rfl, h1, h2⟩
          | ins _ _ _ => cases hm
          | dct _ _ => cases hm
      obtain ⟨a, xs, rfl, ha, r1⟩ := get rx
      obtain ⟨b, ys, rfl, hb, r2⟩ := get ry
      refine ⟨⟨a, b, xs, ys, rfl, rfl, ha, hb, pairT_prs cut_sub r1 r2 hp⟩, fun H' ex => ?_⟩
      have s : Sub (cut H2 ow2) (cut H' ow2) := fun p o h => let ⟨h1, h2⟩ := cut_of h; cut_mk h1 (ex _ _ h2)
      refine kk _ H' ow2 (S2.move s fun p o w h e _ => ⟨e, ex _ _ h⟩) (fr.trans ⟨fun p o h e => ⟨e, ex _ _ h⟩, fun p o w h e _ => ⟨e, ex _ _ h⟩, fun p o h => ⟨o, ex _ _ h⟩, fun _ _ _ _ e => e⟩) (.bl _)
    · rw [if_neg hp] at e5; cases e5
  · cases e5
theorem dt_neList {a b : Expr} {pos : Pos} {fa fb : EM} (F : FnOk X.prog X.w X.K X.mg X.base CX k f fd ps (FnS X.K ct 2 fm)) (hm : Meth X.K (ct c) "__eq__" f) (hr : Room (k + 1) X.A) (hb : Binds X.K fd ps []) (hx : Passes CX X E)
    (ha : PE X a (tE X.K ct fa)) (hb2 : PE X b (tE X.K ct fb)) (hmk : behindInMarks .NotEq b = false := by rfl) : PT X (.Compare a [.NotEq] [b] pos) (tT X.K ct (eB (eOp (neLO c fm) fa fb))) :=
  (pt_cmpR (op_neList (mon_ins relEq_mono) (eqG_ins (F.imp spEq_of) hm.at_ hm.fn hb hx) hr) (de_fz ha) (de_fz hb2) hmk).imp (test_imp neLO_imp)
end
end KD

set_option maxHeartbeats 4000000
namespace KD
open PySem PySem.Spec PyProof.Rows L2
section
variable {X : Cx} {CX : CXT} {ct : Nat → Addr} {Γ : Gam} {K : PySem.W.Frag}
/-! ### text.split(text) -/
def splS (a b : Str) : List Str := (TL.spl (TL.tl b) 0 [] (TL.tl a)).map fun l => ⟨l.toArray⟩
def splitD : D → List D → Option Val
  | .str a, [.str b] => if b.cps.toList ≠ [] ∧ b.cps.all (· < 256) = true ∧ sOk a = true ∧ a.length + 2 ≤ 16777216 then some (.new (.lst ((splS a b).map D.str))) else none
  | _, _ => none
theorem spl_mem (S : List Nat) : ∀ (l : List Nat) (k : Nat) (acc : List Nat) (p : List Nat), p ∈ TL.spl S k acc l → (∀ c ∈ p, c ∈ acc ∨ c ∈ l) ∧ p.length ≤ acc.length + l.length
  | [], k, acc, p, h => by
    rw [TL.spl_nil, List.mem_singleton] at h
    subst h
    exact ⟨fun c hc => .inl hc, by simp⟩
  | c :: r, 0, acc, p, h => by
    cases hp : TL.pre S (c :: r)
    · rw [TL.spl_miss hp] at h
      obtain ⟨h1, h2⟩ := spl_mem S r 0 (acc ++ [c]) p h
      refine ⟨fun x hx => ?_, by simp only [List.length_append, List.length_cons, List.length_nil] at h2 ⊢; omega⟩
      rcases h1 x hx with q | q
      · rcases List.mem_append.mp q with q | q
        · exact .inl q
        · rw [List.mem_singleton] at q; exact .inr (q ▸ List.mem_cons_self)
      · exact .inr (List.mem_cons_of_mem _ q)
    · rw [TL.spl_hit hp] at h
      rcases List.mem_cons.mp h with rfl | h
      · exact ⟨fun x hx => .inl hx, by simp⟩
      · obtain ⟨h1, h2⟩ := spl_mem S r _ [] p h
        refine ⟨fun x hx => ?_, by simp only [List.length_cons, List.length_nil] at h2 ⊢; omega⟩
        rcases h1 x hx with q | q
        · cases q
        · exact .inr (List.mem_cons_of_mem _ q)
  | c :: r, k + 1, acc, p, h => by
    have h' : p ∈ TL.spl S k acc r := h
    obtain ⟨h1, h2⟩ := spl_mem S r k acc p h'
    refine ⟨fun x hx => (h1 x hx).imp id (List.mem_cons_of_mem _), by simp only [List.length_cons]; omega⟩
theorem spl_len (S : List Nat) : ∀ (l : List Nat) (k : Nat) (acc : List Nat), (TL.spl S k acc l).length ≤ l.length + 1
  | [], k, acc => by rw [TL.spl_nil]; simp
  | c :: r, 0, acc => by
    cases hp : TL.pre S (c :: r)
    · rw [TL.spl_miss hp]
      have := spl_len S r 0 (acc ++ [c])
      simp only [List.length_cons]; omega
    · rw [TL.spl_hit hp]
      have := spl_len S r (S.length - 1) []
      simp only [List.length_cons]; omega
  | c :: r, k + 1, acc => by
    show (TL.spl S k acc r).length ≤ _
    have := spl_len S r k acc
    simp only [List.length_cons]; omega
theorem split_splS {a b : Str} (hb : b.cps.toList ≠ []) (hk : b.cps.all (· < 256) = true) : Txt.split a b = splS a b := by
  have h := TL.split_spl a b hb (TL.kind_ok hk)
  refine TL.map_tl_inj ?_
  rw [h]
  unfold splS
  rw [List.map_map]
  have e : (TL.tl ∘ fun l : List Nat => (⟨l.toArray⟩ : Str)) = id := by funext l; rfl
  rw [e, List.map_id]
theorem sOk_piece {a b : Str} (h : sOk a = true) : ∀ z ∈ splS a b, sOk z = true := fun z hz => by
  unfold splS at hz
  obtain ⟨l, hl, rfl⟩ := List.mem_map.mp hz
  obtain ⟨h1, h2⟩ := spl_mem _ _ _ _ _ hl
  have ha := sOk_all h
  have hc : ∀ c ∈ l, c < 1114112 := fun c q => (h1 c q).elim (fun q => nomatch q) fun q => ha.1 c q
  unfold sOk
  rw [Bool.and_eq_true]
  refine ⟨?_, decide_eq_true ?_⟩
  · rw [← Array.all_toList]
    exact List.all_eq_true.mpr fun c q => decide_eq_true (hc c q)
  · have := ha.2
    have h2 : l.length ≤ 0 + a.cps.toList.length := h2
    show l.toArray.size ≤ _
    rw [List.size_toArray]
    omega
theorem rp_strs45 {F : Hp} : ∀ {ys : List Str}, (∀ z ∈ ys, sOk z = true) → RpAll Γ F (ys.map V.str) (ys.map D.str)
  | [], _ => .nil
  | y :: ys, h => .cons (.str y (h y List.mem_cons_self)) (rp_strs45 fun z hz => h z (List.mem_cons_of_mem _ hz))
theorem ms_split : MtS K ct "str" (fun x xs H Q => ∃ a b, x = .str a ∧ xs = [.str b] ∧ (b.length == 0) = false ∧ a.length + 2 ≤ sizeLine ∧ rNewStrs (Txt.split a b) H Q) splitD := fun mu F H x xs d ds val Q sb rx r h k => by
  unfold splitD at h
  split at h
  · rename_i a b
    by_cases hc : b.cps.toList ≠ [] ∧ b.cps.all (· < 256) = true ∧ sOk a = true ∧ a.length + 2 ≤ 16777216
    · rw [if_pos hc] at h
      cases h
      obtain ⟨h1, h2, h3, h4⟩ := hc
      obtain ⟨rfl, _⟩ := rx.str
      cases r with | cons r1 r2 =>
      cases r2
      obtain ⟨rfl, _⟩ := r1.str
      refine ⟨a, b, rfl, rfl, ?_, by rw [sizeLine_eq]; exact h4, fun p hp => ?_⟩
      · have : b.length ≠ 0 := fun z => h1 (List.eq_nil_of_length_eq_zero (by rw [← TL.len_tl]; exact z))
        simpa using this
      · rw [split_splS h1 h2]
        refine k _ _ (.lst hp (rp_strs45 (sOk_piece h3)) ?_)
        rw [List.length_map]
        unfold splS
        rw [List.length_map]
        have := spl_len (TL.tl b) (TL.tl a) 0 []
        have e : (TL.tl a).length = a.length := (TL.len_tl a).symm
        omega
    · rw [if_neg hc] at h; cases h
  · cases h
/-! ### classmethods -/
theorem FnR.ofOk {P : Program} {w : World} {mg : Str → Option Value} {base : Heap} {k : Nat} {f : Addr} {fd : FuncData} {ps : List Str} {sp : Sp} (F : FnOk P w K mg base CX k f fd ps sp) (hb : Binds K fd ps []) : FnR P w K mg base CX k f sp := fun A outer s H us vs Q E hr e0 r hs => by
  have KX : K.In s.heap := e0.mod.kin.keeps fun b o e => (e0.bs b o e).1
  refine F.run A outer s H ⟨us, []⟩ us vs Q E hr e0 ?_ r hs
  have := hb s us KX (by rw [List.append_nil, ← r.length]; exact F.len _ _ _ _ hs)
  rw [List.append_nil] at this
  exact this
def consCls (c : Nat) (fa : AM) : AM := fun ε => (fa ε).map fun r => (.d (.cls c) :: r.1, r.2)
theorem cm_imp {n c : Nat} {f : FM} {fa : AM} {E : XK} (hn : ∀ ds M o, f ds M = some o → ds.length = n) (σ : L2.St) (H : Hp) (Q : VK)
    (h : tE K ct (eCall f [] (consCls c fa)) σ H Q) : ClX.tCMeth (ct c) (FnS K ct n f) E (tC (.ref (ct c))) (tA K ct fa) σ H Q := by
  obtain ⟨mu, ow, ε, val, ε', S, hf, k⟩ := h
  obtain ⟨ra, q, o, e1, e2, e3, e4, e5⟩ := eCall_some hf
  unfold consCls at e1
  obtain ⟨rb, e0, rfl⟩ := Option.map_eq_some_iff.mp e1
  cases e5
  refine ⟨rfl, mu, ow, ε, rb.1, rb.2, S, e0, fun vs H1 ow1 S1 fr1 r1 => ?_⟩
  obtain ⟨ow2, S2, fr2, r2⟩ := VRs.esc (vs := .ref (ct c) :: vs) (as := .d (.cls c) :: rb.1) S1 ⟨.cls c, r1⟩ e2
  rw [List.append_nil] at e3
  exact fn_use S2 (fr1.trans fr2) r2 (by rw [r2.length]; exact hn _ _ _ e3) e3 e4 k
theorem de_cm {k n c : Nat} {x m : Str} {p g : Addr} {mc : Value} {fm : FM} {E : XK} {p1 apos pos : Pos} {e : Expr} {es : List Expr} {fa : AM} {pl : Sem Bool} (r : ClX.CRead X.K (ct c) mc) (cm : ClX.CMet X.K (ct c) mc m p g)
    (F : FnR X.prog X.w X.K X.mg X.base CX k g (FnS X.K ct n fm)) (hr : Room k X.A) (hx : Passes CX X E) (hmg : X.mg x = some (.ref (ct c))) (hn : ∀ ds M o, fm ds M = some o → ds.length = n) (ha : PA X (e :: es) (tA X.K ct fa))
    (hg : Gl X x := by rfl) (hdb : (x == ("__debug__" : Str)) = false := by decide)
    (hst : starEach (e :: es) X.env = (false, eval e X.env) :: starEach es X.env := by rfl) (hpl : (backTo pos (starEach es X.env)).any (·.1) = false := by rfl)
    (ht : eval (.Call (.Attribute (.Name x p1) m apos) (e :: es) [] pos) X.env = (do
      let ov ← eval (.Name x p1) X.env
      standAt apos.atName
      let (f, first) ← holding [ov] (getMethod ov m pl)
      callWith pos f first (backTo pos (starEach (e :: es) X.env)) (backToKw pos (keywordEach [] X.env))) := by rfl) :
    PE X (.Call (.Attribute (.Name x p1) m apos) (e :: es) [] pos) (tE X.K ct (eCall fm [] (consCls c fa))) :=
  (ClX.pe_cmeth (pe_glob hg hmg (show RelV (.ref (ct c)) (.ref (ct c)) from rfl) hdb) r cm F hr hx ha hst hpl ht).imp (cm_imp hn)
/-! ### a class held by a local name -/
def tMakeL (i : Nat) (C : Addr) (sp : Sp) (dvs : List V) (E : XK) (t : TA) : TE := fun σ H Q => σ[i]? = some (some (.ref C)) ∧ tMake C sp dvs E t σ H Q
theorem pe_makeL {k i : Nat} {f C : Addr} {fd : FuncData} {ps : List Str} {sp : Sp} {dvs : List V} {ds : List Value} {E : XK} {x : Str} {p pos : Pos} {e : Expr} {es : List Expr} {t : TA} (M : Mk X.K C f) (F : FnOk X.prog X.w X.K X.mg X.base CX k f fd ps sp) (hr : Room (k + 1) X.A) (hN : X.N[i]? = some x) (hv : Vis X.env.scope x)
    (hb : Binds X.K fd ps ds) (hd : Vals dvs ds) (hx : Passes CX X E) (ha : PA X (e :: es) t) (hdb : (x == ("__debug__" : Str)) = false := by decide) (hcd : (x == ("__classdict__" : Str)) = false := by decide)
    (he : starEach (e :: es) X.env = (false, eval e X.env) :: starEach es X.env := by rfl) (hpl : (backTo pos (starEach es X.env)).any (·.1) = false := by rfl) : PE X (.Call (.Name x p) (e :: es) [] pos) (tMakeL i C sp dvs E t) := by
  refine ⟨fun pins s σ H Q I h => ?_⟩
  obtain ⟨hs, ht⟩ := h
  refine wpAny_Call_Name_kw (thn ((pe_var (pos := p) hN hv hdb hcd).run pins s σ H (fun v H1 => v = .ref C ∧ H1 = H) I ⟨.ref C, hs, rfl, rfl⟩) fun u s1 ⟨v, H1, I1, r1, q1⟩ => ?_)
  obtain ⟨rfl, rfl⟩ := q1
  cases r1
  refine PySem.W.callWith_K (h₀ := X.base) I.ok.mod.kin M.kp (thn (ha.run pos pins s1 σ _ _ I1 ht) fun us s2 ⟨vs, H2, I2, r, q⟩ => ⟨I2.kIn, ?_⟩) he hpl
  exact run_make M F hr hb hd hx I2 r q
def clsAt (ε : SE) (i : Nat) : Option Nat := match ε.sl[i]? with
  | some (.d (.cls c)) => some c
  | _ => none
def eMakeL (i c : Nat) (f : FM) (dd : List D) (fa : AM) : EM := fun ε => if clsAt ε i = some c then eMake c f dd fa ε else none
theorem makeL_imp {n i c : Nat} {f : FM} {fa : AM} {dvs : List V} {dd : List D} {E : XK} (hd : ∀ mu F, RpAll ⟨K, ct, mu⟩ F dvs dd) (hn : ∀ ds M o, f ds M = some o → ds.length = n) (σ : L2.St) (H : Hp) (Q : VK)
    (h : tE K ct (eMakeL i c f dd fa) σ H Q) : tMakeL i (ct c) (FnS K ct n f) dvs E (tA K ct fa) σ H Q := by
  obtain ⟨mu, ow, ε, val, ε', S, hf, k⟩ := h
  unfold eMakeL at hf
  by_cases hc : clsAt ε i = some c
  · rw [if_pos hc] at hf
    refine ⟨?_, make_imp hd hn σ H Q ⟨mu, ow, ε, val, ε', S, hf, k⟩⟩
    unfold clsAt at hc
    split at hc
    · rename_i c' he
      cases hc
      obtain ⟨v, h1, h2⟩ := S.sd i _ he
      cases h2
      exact h1
    · cases hc
  · rw [if_neg hc] at hf; cases hf
theorem de_makeL {k n i c : Nat} {f : Addr} {fd : FuncData} {ps : List Str} {fm : FM} {dvs : List V} {dd : List D} {ds : List Value} {E : XK} {x : Str} {p pos : Pos} {e : Expr} {es : List Expr} {fa : AM} (M : Mk X.K (ct c) f)
    (F : FnOk X.prog X.w X.K X.mg X.base CX k f fd ps (FnS X.K ct n fm)) (hr : Room (k + 1) X.A) (hN : X.N[i]? = some x) (hv : Vis X.env.scope x) (hb : Binds X.K fd ps ds) (hd : Vals dvs ds) (hx : Passes CX X E)
    (hdd : ∀ mu F, RpAll ⟨X.K, ct, mu⟩ F dvs dd) (hn : ∀ ds M o, fm ds M = some o → ds.length = n) (ha : PA X (e :: es) (tA X.K ct fa)) (hdb : (x == ("__debug__" : Str)) = false := by decide) (hcd : (x == ("__classdict__" : Str)) = false := by decide)
    (he : starEach (e :: es) X.env = (false, eval e X.env) :: starEach es X.env := by rfl) (hpl : (backTo pos (starEach es X.env)).any (·.1) = false := by rfl) : PE X (.Call (.Name x p) (e :: es) [] pos) (tE X.K ct (eMakeL i c fm dd fa)) :=
  (pe_makeL M F hr hN hv hb hd hx ha hdb hcd he hpl).imp (makeL_imp hdd hn)
end
end KD

set_option maxHeartbeats 4000000
namespace KD
open PySem PySem.Spec PyProof.Rows L2
/-! ### a head's facts with defs behind classmethods -/
open He in
structure SaysY (fa : List Fa) (fn : List DefD) (ts : List Tab) (tf : List Defn) (da : List He5.DefA) (ex : PySem.W.Frag → Bool) (w : World) (h : Heap) (K : PySem.W.Frag) : Prop where
  x : SaysX fa fn ts tf ex w h K
  da : ∀ d ∈ da, ∃ fd, FunD K d.name d.qual d.params d.body d.scope (d.dvs K) (d.kws K) (d.at_ K) fd
theorem SaysY.t {fa : List He.Fa} {fn : List He.DefD} {ts : List He.Tab} {tf : List He.Defn} {da : List He5.DefA} {ex : PySem.W.Frag → Bool} {w : World} {h : Heap} {K : PySem.W.Frag} (c : SaysY fa fn ts tf da ex w h K) : He.SaysT fa fn ts w K := c.x.t
theorem SaysY.more {fa : List He.Fa} {fn : List He.DefD} {ts : List He.Tab} {tf : List He.Defn} {da : List He5.DefA} {ex : PySem.W.Frag → Bool} {w : World} {h : Heap} {K : PySem.W.Frag} (c : SaysY fa fn ts tf da ex w h K) : ex K = true := c.x.more
section
open He
abbrev AlY : Type := AlX × AlD
/-- K: what the names reach in n steps, and the interpreter's own statics -/
def frY (g : Addr → Option Obj) (n : Nat) : PySem.W.Frag := frT g (asD g n ++ [cStatics])
def obsY (n : Nat) (fa : List Fa) (fn : List DefD) (ts : List Tab) (tf : List Defn) (da : List He5.DefA) (ex : PySem.W.Frag → Bool) (g : Addr → Option Obj) : AlY :=
  ((obsT fa fn ts (frY g n), ex (frY g n) && tabsB g tf (frY g n)), (da.all fun d => d.ok (frY g n), da.map fun d => He5.fnA (frY g n) (d.at_ (frY g n))))
def valY (fn : List DefD) (ts : List Tab) (da : List He5.DefA) (w : World) : AlY := ((valT fn ts w, true), (true, da.map He5.DefA.val))
theorem saysY_of {n : Nat} {fa : List Fa} {fn : List DefD} {ts : List Tab} {tf : List Defn} {da : List He5.DefA} {ex : PySem.W.Frag → Bool} {w : World} {h : Heap} (e : obsY n fa fn ts tf da ex h.get? = valY fn ts da w) : SaysY fa fn ts tf da ex w h (frY h.get? n) := by
  have e1 : obsT fa fn ts (frY h.get? n) = valT fn ts w := congrArg (fun z : AlY => z.1.1) e
  have e2 : (ex (frY h.get? n) && tabsB h.get? tf (frY h.get? n)) = true := congrArg (fun z : AlY => z.1.2) e
  have e3 : (da.all fun d => d.ok (frY h.get? n)) = true := congrArg (fun z : AlY => z.2.1) e
  have e4 : (da.map fun d => He5.fnA (frY h.get? n) (d.at_ (frY h.get? n))) = da.map He5.DefA.val := congrArg (fun z : AlY => z.2.2) e
  obtain ⟨h1, h2⟩ := Bool.and_eq_true_iff.mp e2
  have key : ∀ p ∈ tf, PySem.W.codeHdIn (frY h.get? n) (cT (frY h.get? n) p).1 (cT (frY h.get? n) p).2 = true ∧ ∃ o, h.get? (cT (frY h.get? n) p).2 = some o ∧ emptyTab o = true := fun p hp => by
    obtain ⟨h3, h4⟩ := Bool.and_eq_true_iff.mp (List.all_eq_true.mp h2 p hp)
    refine ⟨h3, ?_⟩
    cases q : h.get? (cT (frY h.get? n) p).2 with
    | none => rw [q] at h4; cases h4
    | some o => rw [q] at h4; exact ⟨o, rfl, h4⟩
  refine ⟨⟨e1, h1, fun p hp => (key p hp).1, fun p hp => ?_, fun p hp => ?_⟩, fun d hd => ?_⟩
  · obtain ⟨_, o, q, z⟩ := key p hp
    exact frT_none q z
  · obtain ⟨_, o, q, z⟩ := key p hp
    rw [q, emptyTab_eq z]
  · refine He5.DefA.funD ?_ (List.all_eq_true.mp e3 d hd)
    obtain ⟨i, hi⟩ := List.getElem?_of_mem hd
    have := congrArg (fun l : List FnW => l[i]?) e4
    simp only [List.getElem?_map, hi, Option.map_some] at this
    exact Option.some.inj this
def hookY (n : Nat) (fa : List Fa) (fn : List DefD) (ts : List Tab) (tf : List Defn) (da : List He5.DefA) (ex : PySem.W.Frag → Bool) : PySem.W.Hook where
  α := AlY
  obs := fun s => obsY n fa fn ts tf da ex s.heap.get?
  val := fun w => valY fn ts da w
  says := fun w h => ∃ K : PySem.W.Frag, K.In h ∧ SaysY fa fn ts tf da ex w h K
  of := fun _ _ e => ⟨_, frT_in, saysY_of e⟩
  keeps := fun _ _ _ ⟨K, hK, c⟩ k => ⟨K, PySem.W.Frag.In.keeps hK k, ⟨⟨c.x.t, c.x.more, c.x.hd, c.x.out, fun p hp => k _ _ (c.x.empty p hp)⟩, c.da⟩⟩
theorem obsY_eq {n : Nat} {fa : List Fa} {fn : List DefD} {ts : List Tab} {tf : List Defn} {da : List He5.DefA} {ex : PySem.W.Frag → Bool} {g : Addr → Option Obj} {s : Shared} (h : ∀ a, g a = s.heap.get? a) : obsY n fa fn ts tf da ex g = (hookY n fa fn ts tf da ex).obs s := by
  have e : g = s.heap.get? := funext h
  rw [e] <;> rfl
end
/-- the def behind a classmethod -/
noncomputable def fdA (K : PySem.W.Frag) (d : He5.DefA) : FuncData := @dite _ (∃ fd, FunD K d.name d.qual d.params d.body d.scope (d.dvs K) (d.kws K) (d.at_ K) fd) (Classical.propDecidable _) (fun h => h.choose) (fun _ => (PySem.W.fnOf Str.empty Str.empty d.params d.body d.scope .none .none .none .none none .none .none))
theorem fdA_ok {K : PySem.W.Frag} {d : He5.DefA} (h : ∃ fd, FunD K d.name d.qual d.params d.body d.scope (d.dvs K) (d.kws K) (d.at_ K) fd) : FunD K d.name d.qual d.params d.body d.scope (d.dvs K) (d.kws K) (d.at_ K) (fdA K d) := by
  unfold fdA
  rw [dif_pos h]
  exact h.choose_spec
/-- where a class's classmethod stands -/
def cmAd (c m : Str) (K : PySem.W.Frag) : Addr := He5.wf K (He.ga K c) "classmethod" m
def cmB (K : PySem.W.Frag) (c m : Str) : Bool := He5.wrapB K (He.ga K c) "classmethod" "classmethod.__get__" m && (PySem.W.fnIn K (cmAd c m K) && (PySem.W.readsIn K (He.ga K c) (.type "type") && decide (PySem.W.specialIn K (.ref (He.ga K c)) "__getattribute__" = some (some (.builtin "type.__getattribute__")))))
theorem cmB_cm {K : PySem.W.Frag} {c m : Str} (h : cmB K c m = true) : ClX.CMet K (He.ga K c) (.type "type") m (He.ma K (He.ga K c) m) (cmAd c m K) := by
  unfold cmB at h
  rw [Bool.and_eq_true, Bool.and_eq_true] at h
  exact He5.cmet_of h.1 h.2.1
theorem cmB_rd {K : PySem.W.Frag} {c m : Str} (h : cmB K c m = true) : ClX.CRead K (He.ga K c) (.type "type") := by
  unfold cmB at h
  rw [Bool.and_eq_true, Bool.and_eq_true, Bool.and_eq_true] at h
  exact ⟨h.2.2.1, of_decide_eq_true h.2.2.2⟩
end KD
namespace KD
open PySem L2
/-- != of a class's instances goes by its own == -/
def neOB (K : PySem.W.Frag) (c : Str) : Bool := decide (PySem.W.findIn K (.ref (He.ga K c)) "__ne__" = some (some (.builtin "object.__ne__"))) && decide (PySem.W.subIn K (.ref (He.ga K c)) (.type "object") = some true)
theorem neOB_ne {K : PySem.W.Frag} {c : Str} (h : neOB K c = true) : PySem.W.findIn K (.ref (He.ga K c)) "__ne__" = some (some (.builtin "object.__ne__")) := of_decide_eq_true (Bool.and_eq_true_iff.mp h).1
theorem neOB_ob {K : PySem.W.Frag} {c : Str} (h : neOB K c = true) : PySem.W.subIn K (.ref (He.ga K c)) (.type "object") = some true := of_decide_eq_true (Bool.and_eq_true_iff.mp h).2
end KD

set_option maxHeartbeats 4000000
namespace KD
open PySem PySem.Spec PyProof.Rows L2
section
variable {X : Cx} {CX : CXT} {ct : Nat → Addr} {Γ : Gam} {K : PySem.W.Frag}
/-! ### calls by names alone -/
def permA (n : Nat) (is : List Nat) (fa : AM) : AM := fun ε => (fa ε).bind fun r => if r.1.length = n then some (pick is r.1, r.2) else none
theorem VRs.pick {ow : OwF} {σ : L2.St} {H H0 : Hp} {vs : List V} {as : List Val} (r : VRs Γ ow H0 σ H vs as) : ∀ is : List Nat, VRs Γ ow H0 σ H (KD.pick is vs) (KD.pick is as)
  | [] => trivial
  | i :: is => by
    have at_ : ∀ {vs : List V} {as : List Val} (i : Nat), VRs Γ ow H0 σ H vs as → (vs[i]? = none ∧ as[i]? = none) ∨ ∃ v a, vs[i]? = some v ∧ as[i]? = some a ∧ VR Γ ow H0 σ H v (fzv a) := by
      intro vs
      induction vs with
      | nil => intro as i h; cases as with
        | nil => exact .inl ⟨rfl, rfl⟩
        | cons _ _ => exact h.elim
      | cons v vs ih => intro as i h; cases as with
        | nil => exact h.elim
        | cons a as => cases i with
          | zero => exact .inr ⟨v, a, rfl, rfl, h.1⟩
          | succ i => simpa using ih i h.2
    unfold KD.pick
    rcases at_ i r with ⟨q1, q2⟩ | ⟨v, u, q1, q2, q3⟩
    · rw [List.filterMap_cons_none q1, List.filterMap_cons_none q2]
      exact VRs.pick r is
    · rw [List.filterMap_cons_some q1, List.filterMap_cons_some q2]
      exact ⟨q3, VRs.pick r is⟩
theorem perm_imp {n : Nat} {is : List Nat} {fa : AM} {σ : L2.St} {H : Hp} {R : List V → Hp → Prop} (h : tA K ct (permA n is fa) σ H R) : tA K ct fa σ H fun zs H1 => zs.length = n ∧ R (pick is zs) H1 := by
  obtain ⟨mu, ow, ε, vals, ε', S, hf, k⟩ := h
  unfold permA at hf
  cases e : fa ε with
  | none => rw [e] at hf; cases hf
  | some r =>
    rw [e, Option.bind_some] at hf
    by_cases hl : r.1.length = n
    · rw [if_pos hl] at hf
      cases hf
      refine ⟨mu, ow, ε, r.1, r.2, S, e, fun vs H' ow' S' fr rv => ⟨by rw [VRs.len rv]; exact hl, k _ H' ow' S' fr (VRs.pick rv is)⟩⟩
    · rw [if_neg hl] at hf; cases hf
theorem pick_self {α : Type} (x : α) (zs : List α) (is : List Nat) : pick (0 :: is.map (· + 1)) (x :: zs) = x :: pick is zs := by
  unfold pick
  rw [List.filterMap_cons_some (f := fun i => (x :: zs)[i]?) (a := 0) (b := x) rfl, List.filterMap_map]
  rfl
section
variable {k n c m : Nat} {f : Addr} {fd : FuncData} {ps ks : List Str} {fm : FM} {E : XK} {x nm : Str} {p pos apos : Pos} {kws : List Keyword} {fk : AM} {is : List Nat}
/-- C(k = v, ..) -/
theorem de_makeK0 (M : Mk X.K (ct c) f) (F : FnOk X.prog X.w X.K X.mg X.base CX k f fd ps (FnS X.K ct n fm)) (hr : Room (k + 1) X.A) (hm : X.mg x = some (.ref (ct c))) (hb : KBn X.K fd ps 1 ks (fun us ws => pick (0 :: is.map (· + 1)) (us ++ ws)) (fun vs zs => pick (0 :: is.map (· + 1)) (vs ++ zs))) (hx : Passes CX X E)
    (hn : ∀ ds M o, fm ds M = some o → ds.length = n) (hkw : PK X kws (tA X.K ct fk)) (hg : Gl X x := by rfl)
    (hall : (backToKw pos (keywordEach kws X.env)).all (·.1.isSome) = true := by rfl) (hks : (backToKw pos (keywordEach kws X.env)).filterMap (·.1) = ks := by rfl) (hdb : (x == ("__debug__" : Str)) = false := by decide)
    (hpl : ((backTo pos (starEach [] X.env)).any (·.1) || (backToKw pos (keywordEach kws X.env)).any (·.1.isNone)) = false := by rfl) :
    PE X (.Call (.Name x p) [] kws pos) (tE X.K ct (eMake c fm [] (permA ks.length is fk))) := (pe_makeK0 M F hr hg hm hb hx hkw hall hks hdb hpl).imp fun σ H Q h => by
  have q := perm_imp (make_imp (E := E) (dvs := []) (dd := []) (fun _ _ => .nil) hn σ H Q h)
  refine tA_one_imp (te := fun _ _ _ => True) q fun zs H1 ⟨hl, g⟩ => ⟨rfl, hl, fun a dx h1 h2 h3 => ?_⟩
  have g' := g a dx h1 h2 h3
  rw [List.append_nil] at g'
  show FnS X.K ct n fm (pick (0 :: is.map (· + 1)) ([V.ref a] ++ zs)) _ _ _
  rw [List.singleton_append, pick_self]
  exact g'
/-- o.m(k = v, ..) -/
theorem pe_methK0 {sp : Sp} {C : Addr} {te : TE} {tk : TA} {o : Expr} {pl : Sem Bool} {g : List Value → List Value → List Value} {gV : List V → List V → List V} (he : PE X o te) (cl : Cls X.K C) (hm : Meth X.K C nm f) (F : FnOk X.prog X.w X.K X.mg X.base CX k f fd ps sp) (hr : Room k X.A) (hb : KBn X.K fd ps 1 ks g gV) (hx : Passes CX X E)
    (hkw : PK X kws tk) (hall : (backToKw pos (keywordEach kws X.env)).all (·.1.isSome) = true := by rfl) (hks : (backToKw pos (keywordEach kws X.env)).filterMap (·.1) = ks := by rfl)
    (hpl : ((backTo pos (starEach [] X.env)).any (·.1) || (backToKw pos (keywordEach kws X.env)).any (·.1.isNone)) = false := by rfl)
    (ht : eval (.Call (.Attribute o nm apos) [] kws pos) X.env = (do
      let ov ← eval o X.env
      standAt apos.atName
      let (f, first) ← holding [ov] (getMethod ov nm pl)
      callWith pos f first (backTo pos (starEach [] X.env)) (backToKw pos (keywordEach kws X.env))) := by rfl) :
    PE X (.Call (.Attribute o nm apos) [] kws pos) (fun σ H Q => te σ H fun x H1 => ∃ a dx fs, x = .ref a ∧ H1 a = some (.ins C dx fs) ∧ fs.lookup nm = none ∧ tk σ H1 fun zs H2 => zs.length = ks.length ∧ sp (gV [.ref a] zs) H2 Q E) := by
  refine ⟨fun pins s σ H Q I h => ?_⟩
  refine PySem.W.methodCall_KW (pl := pl) (thn (he.run pins s σ H _ I h) fun u s1 ⟨x, H1, I1, rx, a, dx, fs, ex, ea, l, q⟩ => ?_) ht
  subst ex
  obtain rfl : u = Value.ref a := rx
  refine getmeth_ok I1 ea cl hm l ?_
  refine PySem.W.callWith_KW0 (h₀ := X.base) (first := [.ref a]) I.ok.mod.kin hm.kp hall (thn (hkw.run pos pins s1 σ H1 _ I1 q) fun ws s2 ⟨zs, H2, I2, rz, l1, q2⟩ => ⟨I2.kIn, ?_⟩) hpl
  rw [hks]
  exact run_fnN F hr hb hx I2 (show Vals [V.ref a] [Value.ref a] from .cons (show RelV (.ref a) (.ref a) from rfl) .nil) rz rfl l1 q2
theorem de_methK0 {o : Expr} {fo : EM} {pl : Sem Bool} (F : FnOk X.prog X.w X.K X.mg X.base CX k f fd ps (FnS X.K ct n fm)) (hr : Room k X.A) (cl : Cls X.K (ct c)) (hm : Meth X.K (ct c) nm f) (hb : KBn X.K fd ps 1 ks (fun us ws => pick (0 :: is.map (· + 1)) (us ++ ws)) (fun vs zs => pick (0 :: is.map (· + 1)) (vs ++ zs))) (hx : Passes CX X E)
    (hn : ∀ ds M o, fm ds M = some o → ds.length = n) (ho : PE X o (tE X.K ct fo)) (hkw : PK X kws (tA X.K ct fk))
    (hall : (backToKw pos (keywordEach kws X.env)).all (·.1.isSome) = true := by rfl) (hks : (backToKw pos (keywordEach kws X.env)).filterMap (·.1) = ks := by rfl)
    (hpl : ((backTo pos (starEach [] X.env)).any (·.1) || (backToKw pos (keywordEach kws X.env)).any (·.1.isNone)) = false := by rfl)
    (ht : eval (.Call (.Attribute o nm apos) [] kws pos) X.env = (do
      let ov ← eval o X.env
      standAt apos.atName
      let (f, first) ← holding [ov] (getMethod ov nm pl)
      callWith pos f first (backTo pos (starEach [] X.env)) (backToKw pos (keywordEach kws X.env))) := by rfl) :
    PE X (.Call (.Attribute o nm apos) [] kws pos) (tE X.K ct (eMeth c nm fm [] fo (permA ks.length is fk))) := (pe_methK0 (de_fz ho) cl hm F hr hb hx hkw hall hks hpl ht).imp fun σ H Q h => by
  have q := meth_imp (E := E) (dvs := []) (dd := []) (fun _ _ => .nil) hn σ H Q h
  refine tE_weak q fun v H1 ⟨a, dx, fs, h1, h2, h3, h4⟩ => ⟨a, dx, fs, h1, h2, h3, ?_⟩
  refine tA_one_imp (te := fun _ _ _ => True) (perm_imp h4) fun zs H2 ⟨hl, g⟩ => ⟨hl, ?_⟩
  rw [List.append_nil, h1] at g
  rw [List.singleton_append, pick_self]
  exact g
/-- C.m(k = v, ..), m a classmethod -/
theorem pe_cmethK0 {sp : Sp} {C q g : Addr} {mc : Value} {te : TE} {tk : TA} {o : Expr} {pl : Sem Bool} {gg : List Value → List Value → List Value} {gV : List V → List V → List V} (he : PE X o te) (r : ClX.CRead X.K C mc) (cm : ClX.CMet X.K C mc nm q g) (F : FnOk X.prog X.w X.K X.mg X.base CX k g fd ps sp) (hr : Room k X.A) (hb : KBn X.K fd ps 1 ks gg gV) (hx : Passes CX X E)
    (hkw : PK X kws tk) (hall : (backToKw pos (keywordEach kws X.env)).all (·.1.isSome) = true := by rfl) (hks : (backToKw pos (keywordEach kws X.env)).filterMap (·.1) = ks := by rfl)
    (hpl : ((backTo pos (starEach [] X.env)).any (·.1) || (backToKw pos (keywordEach kws X.env)).any (·.1.isNone)) = false := by rfl)
    (ht : eval (.Call (.Attribute o nm apos) [] kws pos) X.env = (do
      let ov ← eval o X.env
      standAt apos.atName
      let (f, first) ← holding [ov] (getMethod ov nm pl)
      callWith pos f first (backTo pos (starEach [] X.env)) (backToKw pos (keywordEach kws X.env))) := by rfl) :
    PE X (.Call (.Attribute o nm apos) [] kws pos) (fun σ H Q => te σ H fun x H1 => x = .ref C ∧ tk σ H1 fun zs H2 => zs.length = ks.length ∧ sp (gV [.ref C] zs) H2 Q E) := by
  refine ⟨fun pins s σ H Q I h => ?_⟩
  refine PySem.W.methodCall_KW (pl := pl) (thn (he.run pins s σ H _ I h) fun u s1 ⟨x, H1, I1, rx, ex, q⟩ => ?_) ht
  subst ex
  obtain rfl : u = Value.ref C := rx
  refine ClX.getmethcm_ok I1 r cm fun s2 I2 => ?_
  have hq := ClX.pin_at I2
  have hbn : X.base.get? s1.heap.objs.size = none := ClX.base_none I1 (Nat.le_refl _)
  have hM : PySem.W.MethP X.K s1.heap.objs.size g (.ref C) s2.heap := ⟨hq, I2.kIn⟩
  refine PySem.W.callWith_of hpl (PySem.W.keeps_M cm.fi) (evalArgs_kw2_nil hall (thn (hkw.run pos _ s2 σ H1 _ I2 q) fun ws s3 ⟨zs, H2, I3, rz, l1, q2⟩ => ⟨⟨ClX.pin_at I3, I3.kIn⟩, ?_⟩))
  rw [hks]
  have z : wpAny (model X.prog X.w) X.A (call (.ref s1.heap.objs.size) [] (ks.zip ws)) (EP X ((s1.heap.objs.size, PySem.W.methodObj (.ref g) (.ref C)) :: pins) σ Q) X.xe s3 := by
    have r2 := hb.rel (show Vals [V.ref C] [Value.ref C] from .cons (show RelV (.ref C) (.ref C) from rfl) .nil) rz
    refine wpAny_call (PySem.W.method_call (ClX.pin_at I3) (codeAny_mono (F.run X.A X.stack s3 H2 ⟨[.ref C], ks.zip ws⟩ (gg [.ref C] ws) (gV [.ref C] zs) Q E hr I3.env0 (hb.to s3 [.ref C] ws I3.kIn rfl (rz.length.symm.trans l1)) r2 q2) fun rr s' hq => ?_))
    cases rr with
    | error e => exact hx _ σ H2 s3 e s' I3 hq
    | ok fl =>
      cases fl with
      | ret u => exact I3.after hq
      | next => exact False.elim hq
      | brk => exact False.elim hq
      | cont => exact False.elim hq
  exact thn z fun _ _ y => ClX.unpinE y
theorem de_cmK0 {g : Addr} {q : Addr} {mc : Value} {p1 : Pos} {pl : Sem Bool} (r : ClX.CRead X.K (ct c) mc) (cm : ClX.CMet X.K (ct c) mc nm q g) (F : FnOk X.prog X.w X.K X.mg X.base CX k g fd ps (FnS X.K ct n fm)) (hr : Room k X.A) (hb : KBn X.K fd ps 1 ks (fun us ws => pick (0 :: is.map (· + 1)) (us ++ ws)) (fun vs zs => pick (0 :: is.map (· + 1)) (vs ++ zs))) (hx : Passes CX X E)
    (hmg : X.mg x = some (.ref (ct c))) (hn : ∀ ds M o, fm ds M = some o → ds.length = n) (hkw : PK X kws (tA X.K ct fk)) (hg : Gl X x := by rfl) (hdb : (x == ("__debug__" : Str)) = false := by decide)
    (hall : (backToKw pos (keywordEach kws X.env)).all (·.1.isSome) = true := by rfl) (hks : (backToKw pos (keywordEach kws X.env)).filterMap (·.1) = ks := by rfl)
    (hpl : ((backTo pos (starEach [] X.env)).any (·.1) || (backToKw pos (keywordEach kws X.env)).any (·.1.isNone)) = false := by rfl)
    (ht : eval (.Call (.Attribute (.Name x p1) nm apos) [] kws pos) X.env = (do
      let ov ← eval (.Name x p1) X.env
      standAt apos.atName
      let (f, first) ← holding [ov] (getMethod ov nm pl)
      callWith pos f first (backTo pos (starEach [] X.env)) (backToKw pos (keywordEach kws X.env))) := by rfl) :
    PE X (.Call (.Attribute (.Name x p1) nm apos) [] kws pos) (tE X.K ct (eCall fm [] (consCls c (permA ks.length is fk)))) :=
  (pe_cmethK0 (pe_glob hg hmg (show RelV (.ref (ct c)) (.ref (ct c)) from rfl) hdb) r cm F hr hb hx hkw hall hks hpl ht).imp fun σ H Q h => by
    obtain ⟨_, h4⟩ := cm_imp (E := E) hn σ H Q h
    refine ⟨rfl, tA_one_imp (te := fun _ _ _ => True) (perm_imp h4) fun zs H2 ⟨hl, g⟩ => ⟨hl, ?_⟩⟩
    rw [List.singleton_append, pick_self]
    exact g
end
/-! ### f'..' -/
def fmtD : D → Option Val
  | .str y => some (.d (.str y))
  | .int i => if i.natAbs.log2 < 1920 ∧ sOk (toString i) = true then some (.d (.str (toString i))) else none
  | _ => none
def eFmt (f : EM) : EM := fun ε => (fzE f ε).bind fun r => (r.1.res r.2).bind fun d => (fmtD d).map fun v => (v, r.2)
theorem fmt_imp {f : EM} (σ : L2.St) (H : Hp) (Q : VK) (h : tE K ct (eFmt f) σ H Q) : tFmt (tE K ct (fzE f)) σ H Q := by
  obtain ⟨mu, ow, ε, val, ε', S, hf, k⟩ := h
  unfold eFmt at hf
  cases e1 : fzE f ε with
  | none => rw [e1] at hf; cases hf
  | some r =>
    rw [e1, Option.bind_some] at hf
    cases e2 : r.1.res r.2 with
    | none => rw [e2] at hf; cases hf
    | some d =>
      rw [e2, Option.bind_some] at hf
      obtain ⟨v, e3, e4⟩ := Option.map_eq_some_iff.mp hf
      cases e4
      refine ⟨mu, ow, ε, r.1, r.2, S, e1, fun x H1 ow1 S1 fr1 r1 => ?_⟩
      have rx := VR.res S1 r1 e2
      cases d with
      | str y =>
        cases e3
        obtain ⟨rfl, hy⟩ := rx.str
        refine .inl ⟨y, rfl, by rw [sizeLine_eq]; exact (sOk_all hy).2, k _ H1 ow1 S1 fr1 (.str y hy)⟩
      | int i =>
        have e3' : (if i.natAbs.log2 < 1920 ∧ sOk (toString i) = true then some (Val.d (.str (toString i))) else none) = some val := e3
        by_cases hc : i.natAbs.log2 < 1920 ∧ sOk (toString i) = true
        · rw [if_pos hc] at e3'
          cases e3'
          obtain rfl := rx.int
          exact .inr ⟨i, rfl, hc.1, k _ H1 ow1 S1 fr1 (.str _ hc.2)⟩
        · rw [if_neg hc] at e3'; cases e3'
      | _ => cases e3
theorem de_fmt {e : Expr} {f : EM} {pos : Pos} (he : PE X e (tE X.K ct f)) : PE X (.FormattedValue e (-1) none pos) (tE X.K ct (eFmt f)) := (pe_fmt (de_fz he)).imp fmt_imp
theorem de_fs1 {e : Expr} {f : EM} {pos : Pos} (he : PE X e (tE X.K ct f)) : PE X (.JoinedStr [e] pos) (tE X.K ct f) := pe_fs1 he
def jsF : List EM → Str → SE → Option (Str × SE)
  | [], acc, ε => some (acc, ε)
  | f :: fs, acc, ε => (f ε).bind fun r => match r.1 with
    | .d (.str y) => if sOk (acc ++ y) = true then jsF fs (acc ++ y) r.2 else none
    | _ => none
def eJs (fs : List EM) : EM := fun ε => (jsF fs Str.empty ε).map fun r => (.d (.str r.1), r.2)
inductive DJ (X : Cx) (ct : Nat → Addr) : List Expr → List EM → Prop
  | nil : DJ X ct [] []
  | cons {e : Expr} {f : EM} {es : List Expr} {fs : List EM} (h : PE X e (tE X.K ct f)) (r : DJ X ct es fs) : DJ X ct (e :: es) (f :: fs)
theorem DJ.pj {es : List Expr} {fs : List EM} (h : DJ X ct es fs) : PJ X es (fs.map (tE X.K ct)) := by
  induction h with
  | nil => exact .nil
  | cons h _ ih => exact .cons h ih
theorem js_imp {mu : Nat → Option Addr} : ∀ {fs : List EM} {acc : Str} {ow : OwF} {ε : SE} {σ : L2.St} {H : Hp} {r : Str × SE} {Q : Str → Hp → Prop}, sOk acc = true → Sim ⟨K, ct, mu⟩ ow ε σ H → jsF fs acc ε = some r →
    (∀ H' ow', Sim ⟨K, ct, mu⟩ ow' r.2 σ H' → Fr ow H ow' H' → sOk r.1 = true → Q r.1 H') → tJs (fs.map (tE K ct)) acc σ H Q
  | [], acc, ow, ε, σ, H, r, Q, ha, S, h, k => by
    cases h
    exact k H ow S Fr.refl ha
  | f :: fs, acc, ow, ε, σ, H, r, Q, ha, S, h, k => by
    have h' : ((f ε).bind fun r => match r.1 with
      | .d (.str y) => if sOk (acc ++ y) = true then jsF fs (acc ++ y) r.2 else none
      | _ => none) = some r := h
    cases e : f ε with
    | none => rw [e] at h'; cases h'
    | some z =>
      obtain ⟨v, ε1⟩ := z
      rw [e, Option.bind_some] at h'
      refine ⟨mu, ow, ε, v, ε1, S, e, fun x H1 ow1 S1 fr1 r1 => ?_⟩
      cases v with
      | d d =>
        cases d with
        | str y =>
          have h2 : (if sOk (acc ++ y) = true then jsF fs (acc ++ y) ε1 else none) = some r := h'
          by_cases hc : sOk (acc ++ y) = true
          · rw [if_pos hc] at h2
            cases r1
            exact ⟨y, rfl, by rw [sizeLine_eq]; exact (sOk_all hc).2, js_imp hc S1 h2 fun H' ow' S' fr' hs => k H' ow' S' (fr1.trans fr') hs⟩
          · rw [if_neg hc] at h2; cases h2
        | _ => cases h'
      | _ => cases h'
theorem de_js {v1 v2 : Expr} {rest : List Expr} {fs : List EM} {pos : Pos} (h : DJ X ct (v1 :: v2 :: rest) fs) : PE X (.JoinedStr (v1 :: v2 :: rest) pos) (tE X.K ct (eJs fs)) := (pe_joined h.pj).imp fun σ H Q ⟨mu, ow, ε, val, ε', S, hf, k⟩ => by
  obtain ⟨r, e1, e2⟩ := Option.map_eq_some_iff.mp hf
  cases e2
  exact js_imp (by decide +kernel) S e1 fun H' ow' S' fr hs => k _ H' ow' S' fr (.str _ hs)
end
end KD
namespace KD
open PySem PySem.Spec PyProof.Rows L2
theorem kb_one {K : PySem.W.Frag} {fd : FuncData} {ps ks : List Str} {is : List Nat} (h : KB K fd ps 1 ks (0 :: is.map (· + 1)) [] []) : KBn K fd ps 1 ks (fun us ws => pick (0 :: is.map (· + 1)) (us ++ ws)) (fun vs zs => pick (0 :: is.map (· + 1)) (vs ++ zs)) := by
  unfold KB at h
  simpa only [List.append_nil] using h
end KD
namespace KD
open PySem PySem.Spec PyProof.Rows L2
/-- a default that is the empty tuple -/
def dflTB (K : PySem.W.Frag) (a : Addr) : Bool := match K.lookup a with
  | some ⟨.type "tuple", none, .seq its _, _⟩ => its.isEmpty
  | _ => false
theorem dfl_rp {K : PySem.W.Frag} {ct : Nat → Addr} {a : Addr} (h : dflTB K a = true) (mu : Nat → Option Addr) (F : Hp) : RpAll ⟨K, ct, mu⟩ F [V.ref a] [.tup []] := by
  unfold dflTB at h
  split at h
  · rename_i its n sl e
    have hz : its = #[] := by simpa using h
    subst hz
    exact .cons (.tup (.inr ⟨_, #[], n, e, rfl, rfl, rfl, by decide, .nil⟩) .nil (by decide)) .nil
  · cases h
end KD

set_option maxHeartbeats 4000000
namespace L03
open PySem PySem.Spec PyProof.Rows L2 KD
def top (i : Nat) : Stmt := PySem.Challenge.pw_kempemoves_k03_texts_of_webs.main.body.getD i (.Pass ⟨0, 0, 0, 0⟩)
def ctOf (K : PySem.W.Frag) : Nat → Addr
  | 0 => He.ga K "Web"
  | _ => 0
abbrev s_l_draw : Stmt := top 22
def d_l_draw : He.DefD := ⟨("_law_draw", none), "_law_draw", "_law_draw", defArgs s_l_draw, defBody s_l_draw, defScope s_l_draw, [], []⟩
theorem sc_l_draw : FnScope ["_law_bag_here", "_law_wide", "_law_kept", "_law_times", "_law_figure"] ["_law_bag_here", "_law_wide"] (defScope s_l_draw) := ⟨rfl, rfl, rfl, by decide +kernel, rfl, by decide +kernel, by decide +kernel⟩
abbrev s_l_one : Stmt := top 23
def d_l_one : He.DefD := ⟨("_law_one", none), "_law_one", "_law_one", defArgs s_l_one, defBody s_l_one, defScope s_l_one, [], []⟩
theorem sc_l_one : FnScope ["_law_bag_here", "_law_some"] ["_law_bag_here", "_law_some"] (defScope s_l_one) := ⟨rfl, rfl, rfl, by decide +kernel, rfl, by decide +kernel, by decide +kernel⟩
abbrev s_l_web : Stmt := top 24
def d_l_web : He.DefD := ⟨("_law_web", none), "_law_web", "_law_web", defArgs s_l_web, defBody s_l_web, defScope s_l_web, [], []⟩
theorem sc_l_web : FnScope ["_law_bag_here", "_law_most_places", "_law_most_ties", "_law_pool", "_law_every", "_law_k", "_law_few", "_law_some", "_law_turn", "_law_places", "_law_tie", "_law_other"] ["_law_bag_here", "_law_most_places", "_law_most_ties"] (defScope s_l_web) := ⟨rfl, rfl, rfl, by decide +kernel, rfl, by decide +kernel, by decide +kernel⟩
abbrev s_is_letter : Stmt := top 9
def d_is_letter : He.DefD := ⟨("is_letter", none), "is_letter", "is_letter", defArgs s_is_letter, defBody s_is_letter, defScope s_is_letter, [], []⟩
theorem sc_is_letter : FnScope ["value"] ["value"] (defScope s_is_letter) := ⟨rfl, rfl, rfl, by decide +kernel, rfl, by decide +kernel, by decide +kernel⟩
abbrev s_wrong_place : Stmt := top 11
def d_wrong_place : He.DefD := ⟨("wrong_place", none), "wrong_place", "wrong_place", defArgs s_wrong_place, defBody s_wrong_place, defScope s_wrong_place, [], []⟩
theorem sc_wrong_place : FnScope ["value", "index", "place"] ["value"] (defScope s_wrong_place) := ⟨rfl, rfl, rfl, by decide +kernel, rfl, by decide +kernel, by decide +kernel⟩
abbrev s_check_places : Stmt := top 15
def d_check_places : He.DefD := ⟨("check_places", none), "check_places", "check_places", defArgs s_check_places, defBody s_check_places, defScope s_check_places, [], []⟩
theorem sc_check_places : FnScope ["places", "wrong"] ["places"] (defScope s_check_places) := ⟨rfl, rfl, rfl, by decide +kernel, rfl, by decide +kernel, by decide +kernel⟩
abbrev s_rank : Stmt := top 12
def d_rank : He.DefD := ⟨("rank", none), "rank", "rank", defArgs s_rank, defBody s_rank, defScope s_rank, [], []⟩
theorem sc_rank : FnScope ["tie", "places"] ["tie", "places"] (defScope s_rank) := ⟨rfl, rfl, rfl, by decide +kernel, rfl, by decide +kernel, by decide +kernel⟩
abbrev s_is_tie : Stmt := top 13
def d_is_tie : He.DefD := ⟨("is_tie", none), "is_tie", "is_tie", defArgs s_is_tie, defBody s_is_tie, defScope s_is_tie, [], []⟩
theorem sc_is_tie : FnScope ["value", "places", "one", "two", "sign"] ["value", "places"] (defScope s_is_tie) := ⟨rfl, rfl, rfl, by decide +kernel, rfl, by decide +kernel, by decide +kernel⟩
abbrev s_wrong_tie : Stmt := top 14
def d_wrong_tie : He.DefD := ⟨("wrong_tie", none), "wrong_tie", "wrong_tie", defArgs s_wrong_tie, defBody s_wrong_tie, defScope s_wrong_tie, [], []⟩
theorem sc_wrong_tie : FnScope ["value", "places", "index", "tie"] ["value", "places"] (defScope s_wrong_tie) := ⟨rfl, rfl, rfl, by decide +kernel, rfl, by decide +kernel, by decide +kernel⟩
abbrev s_check_ties : Stmt := top 16
def d_check_ties : He.DefD := ⟨("check_ties", none), "check_ties", "check_ties", defArgs s_check_ties, defBody s_check_ties, defScope s_check_ties, [], []⟩
theorem sc_check_ties : FnScope ["ties", "places", "wrong"] ["ties", "places"] (defScope s_check_ties) := ⟨rfl, rfl, rfl, by decide +kernel, rfl, by decide +kernel, by decide +kernel⟩
abbrev s_Web_init : Stmt := inClass (top 19) 0
def d_Web_init : He.DefD := ⟨("Web", some "__init__"), "__init__", "Web.__init__", defArgs s_Web_init, defBody s_Web_init, defScope s_Web_init, [.adr (He.dflAt ("Web", some "__init__") 0)], []⟩
theorem sc_Web_init : FnScope ["self", "places", "ties"] ["self", "places", "ties"] (defScope s_Web_init) := ⟨rfl, rfl, rfl, by decide +kernel, rfl, by decide +kernel, by decide +kernel⟩
abbrev s_l_made : Stmt := top 25
def d_l_made : He.DefD := ⟨("_law_made", none), "_law_made", "_law_made", defArgs s_l_made, defBody s_l_made, defScope s_l_made, [], []⟩
theorem sc_l_made : FnScope ["_law_net"] ["_law_net"] (defScope s_l_made) := ⟨rfl, rfl, rfl, by decide +kernel, rfl, by decide +kernel, by decide +kernel⟩
abbrev s_l_text : Stmt := top 26
def d_l_text : He.DefD := ⟨("_law_text", none), "_law_text", "_law_text", defArgs s_l_text, defBody s_l_text, defScope s_l_text, [], []⟩
theorem sc_l_text : FnScope ["_law_parts", "_law_some"] ["_law_parts"] (defScope s_l_text) := ⟨rfl, rfl, rfl, by decide +kernel, rfl, by decide +kernel, by decide +kernel⟩
abbrev s_web_text : Stmt := top 17
def d_web_text : He.DefD := ⟨("web_text", none), "web_text", "web_text", defArgs s_web_text, defBody s_web_text, defScope s_web_text, [], []⟩
theorem sc_web_text : FnScope ["places", "ties"] ["places", "ties"] (defScope s_web_text) := ⟨rfl, rfl, rfl, by decide +kernel, rfl, by decide +kernel, by decide +kernel⟩
abbrev s_Web_text : Stmt := inClass (top 19) 7
def d_Web_text : He.DefD := ⟨("Web", some "text"), "text", "Web.text", defArgs s_Web_text, defBody s_Web_text, defScope s_Web_text, [], []⟩
theorem sc_Web_text : FnScope ["self"] ["self"] (defScope s_Web_text) := ⟨rfl, rfl, rfl, by decide +kernel, rfl, by decide +kernel, by decide +kernel⟩
abbrev s_Web_str : Stmt := inClass (top 19) 8
def d_Web_str : He.DefD := ⟨("Web", some "__str__"), "__str__", "Web.__str__", defArgs s_Web_str, defBody s_Web_str, defScope s_Web_str, [], []⟩
theorem sc_Web_str : FnScope ["self"] ["self"] (defScope s_Web_str) := ⟨rfl, rfl, rfl, by decide +kernel, rfl, by decide +kernel, by decide +kernel⟩
abbrev s_web_in : Stmt := top 18
def d_web_in : He.DefD := ⟨("web_in", none), "web_in", "web_in", defArgs s_web_in, defBody s_web_in, defScope s_web_in, [], []⟩
theorem sc_web_in : FnScope ["value", "rows", "places", "ties"] ["value"] (defScope s_web_in) := ⟨rfl, rfl, rfl, by decide +kernel, rfl, by decide +kernel, by decide +kernel⟩
abbrev s_Web_read : Stmt := inClass (top 19) 1
def a_Web_read : He5.DefA := ⟨cmAd "Web" "read", "read", "Web.read", defArgs s_Web_read, defBody s_Web_read, defScope s_Web_read, [], []⟩
theorem sc_Web_read : FnScope ["cls", "text", "parts"] ["cls", "text"] (defScope s_Web_read) := ⟨rfl, rfl, rfl, by decide +kernel, rfl, by decide +kernel, by decide +kernel⟩
abbrev s_Web_eq : Stmt := inClass (top 19) 9
def d_Web_eq : He.DefD := ⟨("Web", some "__eq__"), "__eq__", "Web.__eq__", defArgs s_Web_eq, defBody s_Web_eq, defScope s_Web_eq, [], []⟩
theorem sc_Web_eq : FnScope ["self", "other"] ["self", "other"] (defScope s_Web_eq) := ⟨rfl, rfl, rfl, by decide +kernel, rfl, by decide +kernel, by decide +kernel⟩
abbrev s_l_right_v2 : Stmt := top 27
def d_l_right_v2 : He.DefD := ⟨("_law_right", none), "_law_right", "_law_right", defArgs s_l_right_v2, defBody s_l_right_v2, defScope s_l_right_v2, [], []⟩
theorem sc_l_right_v2 : FnScope ["_law_bag_here", "_law_made_here", "_law_turn", "_law_parts", "_law_mate", "_law_mine", "_law_line", "_law_each"] ["_law_bag_here"] (defScope s_l_right_v2) := ⟨rfl, rfl, rfl, by decide +kernel, rfl, by decide +kernel, by decide +kernel⟩
abbrev s_l_bag : Stmt := top 21
def d_l_bag : He.DefD := ⟨("_law_bag", none), "_law_bag", "_law_bag", defArgs s_l_bag, defBody s_l_bag, defScope s_l_bag, [], []⟩
theorem sc_l_bag : FnScope ["_law_script", "_law_k", "_law_this", "_law_held_signs", "_law_held_cell", "_law_seed"] ["_law_script", "_law_k"] (defScope s_l_bag) := ⟨rfl, rfl, rfl, by decide +kernel, rfl, by decide +kernel, by decide +kernel⟩
abbrev s_law_v2 : Stmt := top 28
def d_law_v2 : He.DefD := ⟨("law", none), "law", "law", defArgs s_law_v2, defBody s_law_v2, defScope s_law_v2, [], []⟩
theorem sc_law_v2 : FnScope ["_law_script", "_law_mine", "_law_k"] ["_law_script"] (defScope s_law_v2) := ⟨rfl, rfl, rfl, by decide +kernel, rfl, by decide +kernel, by decide +kernel⟩
def da : List He5.DefA := [a_Web_read]
def fn : List He.DefD := ([d_l_draw, d_l_one, d_l_web, d_is_letter, d_wrong_place, d_check_places, d_rank, d_is_tie, d_wrong_tie, d_check_ties, d_Web_init, d_l_made] : List He.DefD) ++ ([d_l_text, d_web_text, d_Web_text, d_Web_str, d_web_in, d_Web_eq, d_l_right_v2, d_l_bag, d_law_v2] : List He.DefD)
def fa : List He.Fa := ([.free "len", .free "min", .free "max", .free "range", .free "int", .glo "_law_draw", .free "tuple", .glo "_law_one", .glo "_law_web", .free "isinstance", .free "enumerate", .str "LETTERS" ("abcdefghijklmnopqrstuvwxyz" : Str)] : List He.Fa) ++ ([.free "str", .glo "is_letter", .int "MOST_PLACES" 6, .glo "wrong_place", .glo "check_places", .free "all", .glo "rank", .glo "is_tie", .glo "wrong_tie", .glo "check_ties", .cls "Web", .glo "Web"] : List He.Fa) ++ ([.noat "Web" "places", .noat "Web" "ties", .mkr "Web", .glo "_law_made", .glo "_law_text", .glo "web_text", .meth "Web" "text", .meth "Web" "__str__", .free "repr", .glo "web_in", .meth "Web" "__eq__", .glo "_law_right"] : List He.Fa) ++ ([.free "abs", .glo "_law_bag", .glo "law"] : List He.Fa)
def exs : List (PySem.W.Frag → Bool) := [fun K => cmB K "Web" "read", fun K => notFB K "Web", fun K => neOB K "Web", fun K => clsB K "Web", fun K => kit2B K "Web" "Web" true, fun K => kitTB K "Web"]
def exB (K : PySem.W.Frag) : Bool := exs.all fun f => f K
end L03

set_option maxHeartbeats 0
namespace L03
open PySem PySem.Spec PyProof.Rows L2 KD
abbrev R : PySem.W.OpenRow := PySem.W.OpenLaw.row PySem.Challenge.rw_kempemoves_k03_texts_of_webs
abbrev hk : PySem.W.Hook := hookY 5 fa fn [] [] da exB
def ob (s : PySem.W.SharedT) : AlY := obsY 5 fa fn [] [] da exB (HandSHeadRun.getT s)
theorem ob_eq (s : PySem.W.SharedT) : ob s = hk.obs s.abs := obsY_eq (HandSHeadRun.getT_eq s)
def names : List PySem.Str := (["_wall", "ShapeError", "InvalidPlaces", "InvalidTies", "InvalidText", "MOST_PLACES", "LETTERS", "is_letter", "wrong_place", "rank", "is_tie", "wrong_tie"] : List PySem.Str) ++ (["check_places", "check_ties", "web_text", "web_in", "Web", "_law_bag", "_law_draw", "_law_one", "_law_web", "_law_made", "_law_text", "_law_right"] : List PySem.Str)
theorem run (w : World) : HandSHeadRun.RunEq R (PySem.W.view R.prog [28]) hk ob 20000 names w := by
  intro os
  kernel_rfl
end L03

set_option maxHeartbeats 4000000
/-! rules to compute mirrors by simp -/
namespace KD
open PySem PySem.Spec PyProof.Rows L2
/-- sizes, kept out of simp's arithmetic -/
def Fit (n : Nat) : Prop := n < 16777216
def FitE (n : Nat) : Prop := n ≤ 16777216
theorem fit {n : Nat} (h : n < 1000000) : Fit n := Nat.lt_trans h (by decide)
theorem fitE {n : Nat} (h : n < 1000000) : FitE n := Nat.le_of_lt (Nat.lt_trans h (by decide))
@[simp] theorem fit_0 : Fit 0 := fit (by decide)
@[simp] theorem fitE_0 : FitE 0 := fitE (by decide)
@[simp] theorem fit_1 : Fit 1 := fit (by decide)
@[simp] theorem fitE_1 : FitE 1 := fitE (by decide)
@[simp] theorem fit_2 : Fit 2 := fit (by decide)
@[simp] theorem fitE_2 : FitE 2 := fitE (by decide)
@[simp] theorem fit_3 : Fit 3 := fit (by decide)
@[simp] theorem fitE_3 : FitE 3 := fitE (by decide)
@[simp] theorem fit_4 : Fit 4 := fit (by decide)
@[simp] theorem fitE_4 : FitE 4 := fitE (by decide)
@[simp] theorem fit_5 : Fit 5 := fit (by decide)
@[simp] theorem fitE_5 : FitE 5 := fitE (by decide)
@[simp] theorem fit_6 : Fit 6 := fit (by decide)
@[simp] theorem fitE_6 : FitE 6 := fitE (by decide)
@[simp] theorem fit_7 : Fit 7 := fit (by decide)
@[simp] theorem fitE_7 : FitE 7 := fitE (by decide)
@[simp] theorem fit_8 : Fit 8 := fit (by decide)
@[simp] theorem fitE_8 : FitE 8 := fitE (by decide)
@[simp] theorem fit_9 : Fit 9 := fit (by decide)
@[simp] theorem fitE_9 : FitE 9 := fitE (by decide)
@[simp] theorem fit_10 : Fit 10 := fit (by decide)
@[simp] theorem fitE_10 : FitE 10 := fitE (by decide)
@[simp] theorem fit_11 : Fit 11 := fit (by decide)
@[simp] theorem fitE_11 : FitE 11 := fitE (by decide)
@[simp] theorem fit_12 : Fit 12 := fit (by decide)
@[simp] theorem fitE_12 : FitE 12 := fitE (by decide)
@[simp] theorem fit_13 : Fit 13 := fit (by decide)
@[simp] theorem fitE_13 : FitE 13 := fitE (by decide)
@[simp] theorem fit_14 : Fit 14 := fit (by decide)
@[simp] theorem fitE_14 : FitE 14 := fitE (by decide)
@[simp] theorem fit_15 : Fit 15 := fit (by decide)
@[simp] theorem fitE_15 : FitE 15 := fitE (by decide)
@[simp] theorem fit_16 : Fit 16 := fit (by decide)
@[simp] theorem fitE_16 : FitE 16 := fitE (by decide)
@[simp] theorem fit_17 : Fit 17 := fit (by decide)
@[simp] theorem fitE_17 : FitE 17 := fitE (by decide)
@[simp] theorem fit_18 : Fit 18 := fit (by decide)
@[simp] theorem fitE_18 : FitE 18 := fitE (by decide)
@[simp] theorem fit_19 : Fit 19 := fit (by decide)
@[simp] theorem fitE_19 : FitE 19 := fitE (by decide)
@[simp] theorem fit_20 : Fit 20 := fit (by decide)
@[simp] theorem fitE_20 : FitE 20 := fitE (by decide)
@[simp] theorem fit_21 : Fit 21 := fit (by decide)
@[simp] theorem fitE_21 : FitE 21 := fitE (by decide)
@[simp] theorem fit_22 : Fit 22 := fit (by decide)
@[simp] theorem fitE_22 : FitE 22 := fitE (by decide)
@[simp] theorem fit_23 : Fit 23 := fit (by decide)
@[simp] theorem fitE_23 : FitE 23 := fitE (by decide)
@[simp] theorem fit_24 : Fit 24 := fit (by decide)
@[simp] theorem fitE_24 : FitE 24 := fitE (by decide)
@[simp] theorem fit_25 : Fit 25 := fit (by decide)
@[simp] theorem fitE_25 : FitE 25 := fitE (by decide)
@[simp] theorem fit_26 : Fit 26 := fit (by decide)
@[simp] theorem fitE_26 : FitE 26 := fitE (by decide)
@[simp] theorem fit_27 : Fit 27 := fit (by decide)
@[simp] theorem fitE_27 : FitE 27 := fitE (by decide)
@[simp] theorem fit_28 : Fit 28 := fit (by decide)
@[simp] theorem fitE_28 : FitE 28 := fitE (by decide)
@[simp] theorem fit_29 : Fit 29 := fit (by decide)
@[simp] theorem fitE_29 : FitE 29 := fitE (by decide)
@[simp] theorem fit_30 : Fit 30 := fit (by decide)
@[simp] theorem fitE_30 : FitE 30 := fitE (by decide)
@[simp] theorem fit_31 : Fit 31 := fit (by decide)
@[simp] theorem fitE_31 : FitE 31 := fitE (by decide)
@[simp] theorem fit_32 : Fit 32 := fit (by decide)
@[simp] theorem fitE_32 : FitE 32 := fitE (by decide)
def nth {α : Type} (l : List α) (i : Nat) : Option α := l[i]?
def setN {α : Type} (l : List α) (i : Nat) (x : α) : List α := l.set i x
@[simp] theorem nth_0 {α : Type} { x : α} {l : List α} : nth (x :: l) 0 = some x := id rfl
@[simp] theorem setN_0 {α : Type} { x y : α} {l : List α} : setN (x :: l) 0 y = y :: l := id rfl
@[simp] theorem nth_1 {α : Type} {a0 x : α} {l : List α} : nth (a0 :: x :: l) 1 = some x := id rfl
@[simp] theorem setN_1 {α : Type} {a0 x y : α} {l : List α} : setN (a0 :: x :: l) 1 y = a0 :: y :: l := id rfl
@[simp] theorem nth_2 {α : Type} {a0 a1 x : α} {l : List α} : nth (a0 :: a1 :: x :: l) 2 = some x := id rfl
@[simp] theorem setN_2 {α : Type} {a0 a1 x y : α} {l : List α} : setN (a0 :: a1 :: x :: l) 2 y = a0 :: a1 :: y :: l := id rfl
@[simp] theorem nth_3 {α : Type} {a0 a1 a2 x : α} {l : List α} : nth (a0 :: a1 :: a2 :: x :: l) 3 = some x := id rfl
@[simp] theorem setN_3 {α : Type} {a0 a1 a2 x y : α} {l : List α} : setN (a0 :: a1 :: a2 :: x :: l) 3 y = a0 :: a1 :: a2 :: y :: l := id rfl
@[simp] theorem nth_4 {α : Type} {a0 a1 a2 a3 x : α} {l : List α} : nth (a0 :: a1 :: a2 :: a3 :: x :: l) 4 = some x := id rfl
@[simp] theorem setN_4 {α : Type} {a0 a1 a2 a3 x y : α} {l : List α} : setN (a0 :: a1 :: a2 :: a3 :: x :: l) 4 y = a0 :: a1 :: a2 :: a3 :: y :: l := id rfl
@[simp] theorem nth_5 {α : Type} {a0 a1 a2 a3 a4 x : α} {l : List α} : nth (a0 :: a1 :: a2 :: a3 :: a4 :: x :: l) 5 = some x := id rfl
@[simp] theorem setN_5 {α : Type} {a0 a1 a2 a3 a4 x y : α} {l : List α} : setN (a0 :: a1 :: a2 :: a3 :: a4 :: x :: l) 5 y = a0 :: a1 :: a2 :: a3 :: a4 :: y :: l := id rfl
@[simp] theorem nth_6 {α : Type} {a0 a1 a2 a3 a4 a5 x : α} {l : List α} : nth (a0 :: a1 :: a2 :: a3 :: a4 :: a5 :: x :: l) 6 = some x := id rfl
@[simp] theorem setN_6 {α : Type} {a0 a1 a2 a3 a4 a5 x y : α} {l : List α} : setN (a0 :: a1 :: a2 :: a3 :: a4 :: a5 :: x :: l) 6 y = a0 :: a1 :: a2 :: a3 :: a4 :: a5 :: y :: l := id rfl
@[simp] theorem nth_7 {α : Type} {a0 a1 a2 a3 a4 a5 a6 x : α} {l : List α} : nth (a0 :: a1 :: a2 :: a3 :: a4 :: a5 :: a6 :: x :: l) 7 = some x := id rfl
@[simp] theorem setN_7 {α : Type} {a0 a1 a2 a3 a4 a5 a6 x y : α} {l : List α} : setN (a0 :: a1 :: a2 :: a3 :: a4 :: a5 :: a6 :: x :: l) 7 y = a0 :: a1 :: a2 :: a3 :: a4 :: a5 :: a6 :: y :: l := id rfl
@[simp] theorem nth_8 {α : Type} {a0 a1 a2 a3 a4 a5 a6 a7 x : α} {l : List α} : nth (a0 :: a1 :: a2 :: a3 :: a4 :: a5 :: a6 :: a7 :: x :: l) 8 = some x := id rfl
@[simp] theorem setN_8 {α : Type} {a0 a1 a2 a3 a4 a5 a6 a7 x y : α} {l : List α} : setN (a0 :: a1 :: a2 :: a3 :: a4 :: a5 :: a6 :: a7 :: x :: l) 8 y = a0 :: a1 :: a2 :: a3 :: a4 :: a5 :: a6 :: a7 :: y :: l := id rfl
@[simp] theorem nth_9 {α : Type} {a0 a1 a2 a3 a4 a5 a6 a7 a8 x : α} {l : List α} : nth (a0 :: a1 :: a2 :: a3 :: a4 :: a5 :: a6 :: a7 :: a8 :: x :: l) 9 = some x := id rfl
@[simp] theorem setN_9 {α : Type} {a0 a1 a2 a3 a4 a5 a6 a7 a8 x y : α} {l : List α} : setN (a0 :: a1 :: a2 :: a3 :: a4 :: a5 :: a6 :: a7 :: a8 :: x :: l) 9 y = a0 :: a1 :: a2 :: a3 :: a4 :: a5 :: a6 :: a7 :: a8 :: y :: l := id rfl
@[simp] theorem nth_10 {α : Type} {a0 a1 a2 a3 a4 a5 a6 a7 a8 a9 x : α} {l : List α} : nth (a0 :: a1 :: a2 :: a3 :: a4 :: a5 :: a6 :: a7 :: a8 :: a9 :: x :: l) 10 = some x := id rfl
@[simp] theorem setN_10 {α : Type} {a0 a1 a2 a3 a4 a5 a6 a7 a8 a9 x y : α} {l : List α} : setN (a0 :: a1 :: a2 :: a3 :: a4 :: a5 :: a6 :: a7 :: a8 :: a9 :: x :: l) 10 y = a0 :: a1 :: a2 :: a3 :: a4 :: a5 :: a6 :: a7 :: a8 :: a9 :: y :: l := id rfl
@[simp] theorem nth_11 {α : Type} {a0 a1 a2 a3 a4 a5 a6 a7 a8 a9 a10 x : α} {l : List α} : nth (a0 :: a1 :: a2 :: a3 :: a4 :: a5 :: a6 :: a7 :: a8 :: a9 :: a10 :: x :: l) 11 = some x := id rfl
@[simp] theorem setN_11 {α : Type} {a0 a1 a2 a3 a4 a5 a6 a7 a8 a9 a10 x y : α} {l : List α} : setN (a0 :: a1 :: a2 :: a3 :: a4 :: a5 :: a6 :: a7 :: a8 :: a9 :: a10 :: x :: l) 11 y = a0 :: a1 :: a2 :: a3 :: a4 :: a5 :: a6 :: a7 :: a8 :: a9 :: a10 :: y :: l := id rfl
@[simp] theorem nth_12 {α : Type} {a0 a1 a2 a3 a4 a5 a6 a7 a8 a9 a10 a11 x : α} {l : List α} : nth (a0 :: a1 :: a2 :: a3 :: a4 :: a5 :: a6 :: a7 :: a8 :: a9 :: a10 :: a11 :: x :: l) 12 = some x := id rfl
@[simp] theorem setN_12 {α : Type} {a0 a1 a2 a3 a4 a5 a6 a7 a8 a9 a10 a11 x y : α} {l : List α} : setN (a0 :: a1 :: a2 :: a3 :: a4 :: a5 :: a6 :: a7 :: a8 :: a9 :: a10 :: a11 :: x :: l) 12 y = a0 :: a1 :: a2 :: a3 :: a4 :: a5 :: a6 :: a7 :: a8 :: a9 :: a10 :: a11 :: y :: l := id rfl
@[simp] theorem nth_13 {α : Type} {a0 a1 a2 a3 a4 a5 a6 a7 a8 a9 a10 a11 a12 x : α} {l : List α} : nth (a0 :: a1 :: a2 :: a3 :: a4 :: a5 :: a6 :: a7 :: a8 :: a9 :: a10 :: a11 :: a12 :: x :: l) 13 = some x := id rfl
@[simp] theorem setN_13 {α : Type} {a0 a1 a2 a3 a4 a5 a6 a7 a8 a9 a10 a11 a12 x y : α} {l : List α} : setN (a0 :: a1 :: a2 :: a3 :: a4 :: a5 :: a6 :: a7 :: a8 :: a9 :: a10 :: a11 :: a12 :: x :: l) 13 y = a0 :: a1 :: a2 :: a3 :: a4 :: a5 :: a6 :: a7 :: a8 :: a9 :: a10 :: a11 :: a12 :: y :: l := id rfl
@[simp] theorem nth_14 {α : Type} {a0 a1 a2 a3 a4 a5 a6 a7 a8 a9 a10 a11 a12 a13 x : α} {l : List α} : nth (a0 :: a1 :: a2 :: a3 :: a4 :: a5 :: a6 :: a7 :: a8 :: a9 :: a10 :: a11 :: a12 :: a13 :: x :: l) 14 = some x := id rfl
@[simp] theorem setN_14 {α : Type} {a0 a1 a2 a3 a4 a5 a6 a7 a8 a9 a10 a11 a12 a13 x y : α} {l : List α} : setN (a0 :: a1 :: a2 :: a3 :: a4 :: a5 :: a6 :: a7 :: a8 :: a9 :: a10 :: a11 :: a12 :: a13 :: x :: l) 14 y = a0 :: a1 :: a2 :: a3 :: a4 :: a5 :: a6 :: a7 :: a8 :: a9 :: a10 :: a11 :: a12 :: a13 :: y :: l := id rfl
@[simp] theorem nth_15 {α : Type} {a0 a1 a2 a3 a4 a5 a6 a7 a8 a9 a10 a11 a12 a13 a14 x : α} {l : List α} : nth (a0 :: a1 :: a2 :: a3 :: a4 :: a5 :: a6 :: a7 :: a8 :: a9 :: a10 :: a11 :: a12 :: a13 :: a14 :: x :: l) 15 = some x := id rfl
@[simp] theorem setN_15 {α : Type} {a0 a1 a2 a3 a4 a5 a6 a7 a8 a9 a10 a11 a12 a13 a14 x y : α} {l : List α} : setN (a0 :: a1 :: a2 :: a3 :: a4 :: a5 :: a6 :: a7 :: a8 :: a9 :: a10 :: a11 :: a12 :: a13 :: a14 :: x :: l) 15 y = a0 :: a1 :: a2 :: a3 :: a4 :: a5 :: a6 :: a7 :: a8 :: a9 :: a10 :: a11 :: a12 :: a13 :: a14 :: y :: l := id rfl
@[simp] theorem nth_16 {α : Type} {a0 a1 a2 a3 a4 a5 a6 a7 a8 a9 a10 a11 a12 a13 a14 a15 x : α} {l : List α} : nth (a0 :: a1 :: a2 :: a3 :: a4 :: a5 :: a6 :: a7 :: a8 :: a9 :: a10 :: a11 :: a12 :: a13 :: a14 :: a15 :: x :: l) 16 = some x := id rfl
@[simp] theorem setN_16 {α : Type} {a0 a1 a2 a3 a4 a5 a6 a7 a8 a9 a10 a11 a12 a13 a14 a15 x y : α} {l : List α} : setN (a0 :: a1 :: a2 :: a3 :: a4 :: a5 :: a6 :: a7 :: a8 :: a9 :: a10 :: a11 :: a12 :: a13 :: a14 :: a15 :: x :: l) 16 y = a0 :: a1 :: a2 :: a3 :: a4 :: a5 :: a6 :: a7 :: a8 :: a9 :: a10 :: a11 :: a12 :: a13 :: a14 :: a15 :: y :: l := id rfl
@[simp] theorem nth_17 {α : Type} {a0 a1 a2 a3 a4 a5 a6 a7 a8 a9 a10 a11 a12 a13 a14 a15 a16 x : α} {l : List α} : nth (a0 :: a1 :: a2 :: a3 :: a4 :: a5 :: a6 :: a7 :: a8 :: a9 :: a10 :: a11 :: a12 :: a13 :: a14 :: a15 :: a16 :: x :: l) 17 = some x := id rfl
@[simp] theorem setN_17 {α : Type} {a0 a1 a2 a3 a4 a5 a6 a7 a8 a9 a10 a11 a12 a13 a14 a15 a16 x y : α} {l : List α} : setN (a0 :: a1 :: a2 :: a3 :: a4 :: a5 :: a6 :: a7 :: a8 :: a9 :: a10 :: a11 :: a12 :: a13 :: a14 :: a15 :: a16 :: x :: l) 17 y = a0 :: a1 :: a2 :: a3 :: a4 :: a5 :: a6 :: a7 :: a8 :: a9 :: a10 :: a11 :: a12 :: a13 :: a14 :: a15 :: a16 :: y :: l := id rfl
@[simp] theorem nth_18 {α : Type} {a0 a1 a2 a3 a4 a5 a6 a7 a8 a9 a10 a11 a12 a13 a14 a15 a16 a17 x : α} {l : List α} : nth (a0 :: a1 :: a2 :: a3 :: a4 :: a5 :: a6 :: a7 :: a8 :: a9 :: a10 :: a11 :: a12 :: a13 :: a14 :: a15 :: a16 :: a17 :: x :: l) 18 = some x := id rfl
@[simp] theorem setN_18 {α : Type} {a0 a1 a2 a3 a4 a5 a6 a7 a8 a9 a10 a11 a12 a13 a14 a15 a16 a17 x y : α} {l : List α} : setN (a0 :: a1 :: a2 :: a3 :: a4 :: a5 :: a6 :: a7 :: a8 :: a9 :: a10 :: a11 :: a12 :: a13 :: a14 :: a15 :: a16 :: a17 :: x :: l) 18 y = a0 :: a1 :: a2 :: a3 :: a4 :: a5 :: a6 :: a7 :: a8 :: a9 :: a10 :: a11 :: a12 :: a13 :: a14 :: a15 :: a16 :: a17 :: y :: l := id rfl
@[simp] theorem nth_19 {α : Type} {a0 a1 a2 a3 a4 a5 a6 a7 a8 a9 a10 a11 a12 a13 a14 a15 a16 a17 a18 x : α} {l : List α} : nth (a0 :: a1 :: a2 :: a3 :: a4 :: a5 :: a6 :: a7 :: a8 :: a9 :: a10 :: a11 :: a12 :: a13 :: a14 :: a15 :: a16 :: a17 :: a18 :: x :: l) 19 = some x := id rfl
@[simp] theorem setN_19 {α : Type} {a0 a1 a2 a3 a4 a5 a6 a7 a8 a9 a10 a11 a12 a13 a14 a15 a16 a17 a18 x y : α} {l : List α} : setN (a0 :: a1 :: a2 :: a3 :: a4 :: a5 :: a6 :: a7 :: a8 :: a9 :: a10 :: a11 :: a12 :: a13 :: a14 :: a15 :: a16 :: a17 :: a18 :: x :: l) 19 y = a0 :: a1 :: a2 :: a3 :: a4 :: a5 :: a6 :: a7 :: a8 :: a9 :: a10 :: a11 :: a12 :: a13 :: a14 :: a15 :: a16 :: a17 :: a18 :: y :: l := id rfl
@[simp] theorem nth_20 {α : Type} {a0 a1 a2 a3 a4 a5 a6 a7 a8 a9 a10 a11 a12 a13 a14 a15 a16 a17 a18 a19 x : α} {l : List α} : nth (a0 :: a1 :: a2 :: a3 :: a4 :: a5 :: a6 :: a7 :: a8 :: a9 :: a10 :: a11 :: a12 :: a13 :: a14 :: a15 :: a16 :: a17 :: a18 :: a19 :: x :: l) 20 = some x := id rfl
@[simp] theorem setN_20 {α : Type} {a0 a1 a2 a3 a4 a5 a6 a7 a8 a9 a10 a11 a12 a13 a14 a15 a16 a17 a18 a19 x y : α} {l : List α} : setN (a0 :: a1 :: a2 :: a3 :: a4 :: a5 :: a6 :: a7 :: a8 :: a9 :: a10 :: a11 :: a12 :: a13 :: a14 :: a15 :: a16 :: a17 :: a18 :: a19 :: x :: l) 20 y = a0 :: a1 :: a2 :: a3 :: a4 :: a5 :: a6 :: a7 :: a8 :: a9 :: a10 :: a11 :: a12 :: a13 :: a14 :: a15 :: a16 :: a17 :: a18 :: a19 :: y :: l := id rfl
@[simp] theorem nth_21 {α : Type} {a0 a1 a2 a3 a4 a5 a6 a7 a8 a9 a10 a11 a12 a13 a14 a15 a16 a17 a18 a19 a20 x : α} {l : List α} : nth (a0 :: a1 :: a2 :: a3 :: a4 :: a5 :: a6 :: a7 :: a8 :: a9 :: a10 :: a11 :: a12 :: a13 :: a14 :: a15 :: a16 :: a17 :: a18 :: a19 :: a20 :: x :: l) 21 = some x := id rfl
@[simp] theorem setN_21 {α : Type} {a0 a1 a2 a3 a4 a5 a6 a7 a8 a9 a10 a11 a12 a13 a14 a15 a16 a17 a18 a19 a20 x y : α} {l : List α} : setN (a0 :: a1 :: a2 :: a3 :: a4 :: a5 :: a6 :: a7 :: a8 :: a9 :: a10 :: a11 :: a12 :: a13 :: a14 :: a15 :: a16 :: a17 :: a18 :: a19 :: a20 :: x :: l) 21 y = a0 :: a1 :: a2 :: a3 :: a4 :: a5 :: a6 :: a7 :: a8 :: a9 :: a10 :: a11 :: a12 :: a13 :: a14 :: a15 :: a16 :: a17 :: a18 :: a19 :: a20 :: y :: l := id rfl
@[simp] theorem nth_22 {α : Type} {a0 a1 a2 a3 a4 a5 a6 a7 a8 a9 a10 a11 a12 a13 a14 a15 a16 a17 a18 a19 a20 a21 x : α} {l : List α} : nth (a0 :: a1 :: a2 :: a3 :: a4 :: a5 :: a6 :: a7 :: a8 :: a9 :: a10 :: a11 :: a12 :: a13 :: a14 :: a15 :: a16 :: a17 :: a18 :: a19 :: a20 :: a21 :: x :: l) 22 = some x := id rfl
@[simp] theorem setN_22 {α : Type} {a0 a1 a2 a3 a4 a5 a6 a7 a8 a9 a10 a11 a12 a13 a14 a15 a16 a17 a18 a19 a20 a21 x y : α} {l : List α} : setN (a0 :: a1 :: a2 :: a3 :: a4 :: a5 :: a6 :: a7 :: a8 :: a9 :: a10 :: a11 :: a12 :: a13 :: a14 :: a15 :: a16 :: a17 :: a18 :: a19 :: a20 :: a21 :: x :: l) 22 y = a0 :: a1 :: a2 :: a3 :: a4 :: a5 :: a6 :: a7 :: a8 :: a9 :: a10 :: a11 :: a12 :: a13 :: a14 :: a15 :: a16 :: a17 :: a18 :: a19 :: a20 :: a21 :: y :: l := id rfl
@[simp] theorem nth_23 {α : Type} {a0 a1 a2 a3 a4 a5 a6 a7 a8 a9 a10 a11 a12 a13 a14 a15 a16 a17 a18 a19 a20 a21 a22 x : α} {l : List α} : nth (a0 :: a1 :: a2 :: a3 :: a4 :: a5 :: a6 :: a7 :: a8 :: a9 :: a10 :: a11 :: a12 :: a13 :: a14 :: a15 :: a16 :: a17 :: a18 :: a19 :: a20 :: a21 :: a22 :: x :: l) 23 = some x := id rfl
@[simp] theorem setN_23 {α : Type} {a0 a1 a2 a3 a4 a5 a6 a7 a8 a9 a10 a11 a12 a13 a14 a15 a16 a17 a18 a19 a20 a21 a22 x y : α} {l : List α} : setN (a0 :: a1 :: a2 :: a3 :: a4 :: a5 :: a6 :: a7 :: a8 :: a9 :: a10 :: a11 :: a12 :: a13 :: a14 :: a15 :: a16 :: a17 :: a18 :: a19 :: a20 :: a21 :: a22 :: x :: l) 23 y = a0 :: a1 :: a2 :: a3 :: a4 :: a5 :: a6 :: a7 :: a8 :: a9 :: a10 :: a11 :: a12 :: a13 :: a14 :: a15 :: a16 :: a17 :: a18 :: a19 :: a20 :: a21 :: a22 :: y :: l := id rfl
@[simp] theorem nth_24 {α : Type} {a0 a1 a2 a3 a4 a5 a6 a7 a8 a9 a10 a11 a12 a13 a14 a15 a16 a17 a18 a19 a20 a21 a22 a23 x : α} {l : List α} : nth (a0 :: a1 :: a2 :: a3 :: a4 :: a5 :: a6 :: a7 :: a8 :: a9 :: a10 :: a11 :: a12 :: a13 :: a14 :: a15 :: a16 :: a17 :: a18 :: a19 :: a20 :: a21 :: a22 :: a23 :: x :: l) 24 = some x := id rfl
@[simp] theorem setN_24 {α : Type} {a0 a1 a2 a3 a4 a5 a6 a7 a8 a9 a10 a11 a12 a13 a14 a15 a16 a17 a18 a19 a20 a21 a22 a23 x y : α} {l : List α} : setN (a0 :: a1 :: a2 :: a3 :: a4 :: a5 :: a6 :: a7 :: a8 :: a9 :: a10 :: a11 :: a12 :: a13 :: a14 :: a15 :: a16 :: a17 :: a18 :: a19 :: a20 :: a21 :: a22 :: a23 :: x :: l) 24 y = a0 :: a1 :: a2 :: a3 :: a4 :: a5 :: a6 :: a7 :: a8 :: a9 :: a10 :: a11 :: a12 :: a13 :: a14 :: a15 :: a16 :: a17 :: a18 :: a19 :: a20 :: a21 :: a22 :: a23 :: y :: l := id rfl
@[simp] theorem nth_25 {α : Type} {a0 a1 a2 a3 a4 a5 a6 a7 a8 a9 a10 a11 a12 a13 a14 a15 a16 a17 a18 a19 a20 a21 a22 a23 a24 x : α} {l : List α} : nth (a0 :: a1 :: a2 :: a3 :: a4 :: a5 :: a6 :: a7 :: a8 :: a9 :: a10 :: a11 :: a12 :: a13 :: a14 :: a15 :: a16 :: a17 :: a18 :: a19 :: a20 :: a21 :: a22 :: a23 :: a24 :: x :: l) 25 = some x := id rfl
@[simp] theorem setN_25 {α : Type} {a0 a1 a2 a3 a4 a5 a6 a7 a8 a9 a10 a11 a12 a13 a14 a15 a16 a17 a18 a19 a20 a21 a22 a23 a24 x y : α} {l : List α} : setN (a0 :: a1 :: a2 :: a3 :: a4 :: a5 :: a6 :: a7 :: a8 :: a9 :: a10 :: a11 :: a12 :: a13 :: a14 :: a15 :: a16 :: a17 :: a18 :: a19 :: a20 :: a21 :: a22 :: a23 :: a24 :: x :: l) 25 y = a0 :: a1 :: a2 :: a3 :: a4 :: a5 :: a6 :: a7 :: a8 :: a9 :: a10 :: a11 :: a12 :: a13 :: a14 :: a15 :: a16 :: a17 :: a18 :: a19 :: a20 :: a21 :: a22 :: a23 :: a24 :: y :: l := id rfl
def varR : Option Sl → Nat → SE → Option (Val × SE)
  | some (.d d), _, ε => some (.d d, ε)
  | some (.own _), i, ε => some (.old i, ε)
  | _, _, _ => none
@[simp] theorem varR_d {d : D} {i : Nat} {ε : SE} : varR (some (.d d)) i ε = some (.d d, ε) := id rfl
@[simp] theorem varR_o {m : MO} {i : Nat} {ε : SE} : varR (some (.own m)) i ε = some (.old i, ε) := id rfl
@[simp] theorem eVar_s {i : Nat} {ε : SE} : eVar i ε = varR (nth ε.sl i) i ε := by
  unfold eVar varR nth
  split <;> simp_all
@[simp] theorem eC_s {d : D} {ε : SE} : eC d ε = some (.d d, ε) := id rfl
@[simp] theorem fzE_s {f : EM} {ε : SE} : fzE f ε = (f ε).map fun r => (fzv r.1, r.2) := id rfl
@[simp] theorem fzv_d {d : D} : fzv (.d d) = .d d := id rfl
@[simp] theorem fzv_n {m : MO} : fzv (.new m) = .d m.toD := id rfl
@[simp] theorem fzv_o {i : Nat} : fzv (.old i) = .old i := id rfl
@[simp] theorem toD_l {l : List D} : (MO.lst l).toD = .lst l := id rfl
@[simp] theorem toD_i {c : Nat} {ns : List Str} {l : List D} : (MO.ins c ns l).toD = .ins c ns l := id rfl
@[simp] theorem toD_d {ks : List L2.Key} {l : List D} : (MO.dct ks l).toD = .dct ks l := id rfl
def ownR : Option Sl → Option D
  | some (.own m) => some m.toD
  | _ => none
@[simp] theorem ownR_o {m : MO} : ownR (some (.own m)) = some m.toD := id rfl
@[simp] theorem ownD_s {ε : SE} {i : Nat} : ownD ε i = ownR (nth ε.sl i) := by
  unfold ownD ownR nth
  split <;> simp_all
section
variable {ε : SE}
@[simp] theorem res_non : Val.res ε (.d .non) = some .non := id rfl
@[simp] theorem res_bl {b : Bool} : Val.res ε (.d (.bl b)) = some (.bl b) := id rfl
@[simp] theorem res_int {b : Int} : Val.res ε (.d (.int b)) = some (.int b) := id rfl
@[simp] theorem res_str {b : Str} : Val.res ε (.d (.str b)) = some (.str b) := id rfl
@[simp] theorem res_tup {b : List D} : Val.res ε (.d (.tup b)) = some (.tup b) := id rfl
@[simp] theorem res_pair {b : List D} : Val.res ε (.d (.pair b)) = some (.pair b) := id rfl
@[simp] theorem res_lst {b : List D} : Val.res ε (.d (.lst b)) = some (.lst b) := id rfl
@[simp] theorem res_scr {b : List Int} : Val.res ε (.d (.scr b)) = some (.scr b) := id rfl
@[simp] theorem res_ins {c : Nat} {ns : List Str} {l : List D} : Val.res ε (.d (.ins c ns l)) = some (.ins c ns l) := id rfl
@[simp] theorem res_dct {ks : List L2.Key} {l : List D} : Val.res ε (.d (.dct ks l)) = some (.dct ks l) := id rfl
@[simp] theorem res_ptr {n : Nat} : Val.res ε (.d (.ptr n)) = (nth ε.M n).map MO.toD := id rfl
@[simp] theorem res_new {m : MO} : Val.res ε (.new m) = some m.toD := id rfl
@[simp] theorem res_old {i : Nat} : Val.res ε (.old i) = ownR (nth ε.sl i) := ownD_s
end
def escR : Option Sl → Nat → SE → Option (D × SE)
  | some (.own m), i, ε => some (m.toD, setS ε i (.d m.toD))
  | some (.d x), _, ε => some (x, ε)
  | _, _, _ => none
@[simp] theorem escR_o {m : MO} {i : Nat} {ε : SE} : escR (some (.own m)) i ε = some (m.toD, setS ε i (.d m.toD)) := id rfl
@[simp] theorem escR_d {x : D} {i : Nat} {ε : SE} : escR (some (.d x)) i ε = some (x, ε) := id rfl
@[simp] theorem escV_d {x : D} {ε : SE} : escV ε (.d x) = some (x, ε) := id rfl
@[simp] theorem escV_n {m : MO} {ε : SE} : escV ε (.new m) = some (m.toD, ε) := id rfl
@[simp] theorem escV_o {i : Nat} {ε : SE} : escV ε (.old i) = escR (nth ε.sl i) i ε := by
  show (match ε.sl[i]? with | some (.own m) => some (m.toD, setS ε i (.d m.toD)) | some (.d x) => some (x, ε) | _ => none) = _
  unfold escR nth
  split <;> simp_all
@[simp] theorem escE_s {f : EM} {ε : SE} : escE f ε = (fzE f ε).bind fun r => escV r.2 r.1 := id rfl
@[simp] theorem escL_n {ε : SE} : escL ε [] = some ([], ε) := id rfl
@[simp] theorem escL_c {ε : SE} {v : Val} {vs : List Val} : escL ε (v :: vs) = (escV ε (fzv v)).bind fun r => (escL r.2 vs).map fun q => (r.1 :: q.1, q.2) := id rfl
@[simp] theorem resL_n {ε : SE} : resL ε [] = some [] := id rfl
@[simp] theorem resL_c {ε : SE} {v : Val} {vs : List Val} : resL ε (v :: vs) = (v.res ε).bind fun d => (resL ε vs).map fun ds => d :: ds := id rfl
@[simp] theorem eOp_s {g : D → D → Option Val} {fa fb : EM} {ε : SE} : eOp g fa fb ε = (fzE fa ε).bind fun ra => (fzE fb ra.2).bind fun rb => (ra.1.res rb.2).bind fun d => (rb.1.res rb.2).bind fun e => (g d e).map fun r => (r, rb.2) := id rfl
@[simp] theorem toB_b {b : Bool} : toB (.d (.bl b)) = some b := id rfl
@[simp] theorem eB_s {f : EM} {ε : SE} : eB f ε = (f ε).bind fun r => (toB r.1).map fun b => (b, r.2) := id rfl
@[simp] theorem truD_non : truD .non = some false := id rfl
@[simp] theorem truD_bl {b : Bool} : truD (.bl b) = some b := id rfl
@[simp] theorem truD_int {i : Int} : truD (.int i) = some (i != 0) := id rfl
@[simp] theorem truD_str {s : Str} : truD (.str s) = some ((s.length : Int) != 0) := id rfl
@[simp] theorem truD_tup {l : List D} : truD (.tup l) = some (!l.isEmpty) := id rfl
@[simp] theorem truD_lst {l : List D} : truD (.lst l) = some (!l.isEmpty) := id rfl
@[simp] theorem truB_s {f : EM} {ε : SE} : truB f ε = (fzE f ε).bind fun r => (r.1.res r.2).bind fun d => (truD d).map fun b => (b, r.2) := id rfl
@[simp] theorem notB_s {f : BM} {ε : SE} : notB f ε = (f ε).map fun r => (!r.1, r.2) := id rfl
@[simp] theorem andB_s {f g : BM} {ε : SE} : andB f g ε = (f ε).bind fun r => if r.1 = true then g r.2 else some (false, r.2) := id rfl
@[simp] theorem orB_s {f g : BM} {ε : SE} : orB f g ε = (f ε).bind fun r => if r.1 = true then some (true, r.2) else g r.2 := id rfl
@[simp] theorem andE_s {f g : EM} {ε : SE} : andE f g ε = (eB f ε).bind fun r => if r.1 = true then g r.2 else some (.d (.bl false), r.2) := id rfl
@[simp] theorem orE_s {f g : EM} {ε : SE} : orE f g ε = (eB f ε).bind fun r => if r.1 = true then some (.d (.bl true), r.2) else g r.2 := id rfl
@[simp] theorem notE_s {f : EM} {ε : SE} : notE f ε = (eB f ε).map fun r => (.d (.bl (!r.1)), r.2) := id rfl
@[simp] theorem ifE_s {c : BM} {f g : EM} {ε : SE} : ifE c f g ε = (c ε).bind fun r => if r.1 = true then f r.2 else g r.2 := id rfl
@[simp] theorem aNil_s {ε : SE} : aNil ε = some ([], ε) := id rfl
@[simp] theorem aCons_s {f : EM} {g : AM} {ε : SE} : aCons f g ε = (fzE f ε).bind fun r => (g r.2).map fun q => (r.1 :: q.1, q.2) := id rfl
@[simp] theorem aConsN_s {f : EM} {g : AM} {ε : SE} : aConsN f g ε = (f ε).bind fun r => (g r.2).map fun q => (r.1 :: q.1, q.2) := id rfl
@[simp] theorem eCB_s {g : List D → Option Val} {f : AM} {ε : SE} : eCB g f ε = (f ε).bind fun r => (resL r.2 r.1).bind fun ds => (g ds).map fun v => (v, r.2) := id rfl
@[simp] theorem eCall_s {f : FM} {dd : List D} {fa : AM} {ε : SE} : eCall f dd fa ε = (fa ε).bind fun r => (escL r.2 r.1).bind fun q => (f (q.1 ++ dd) q.2.M).bind fun o => if o.2.length = q.2.M.length then some (o.1, { q.2 with M := o.2 }) else none := id rfl
def tupR (q : List D × SE) : Option (Val × SE) := if q.1.length ≤ 16777216 then some (.d (.tup q.1), q.2) else none
def lstR (q : List D × SE) : Option (Val × SE) := if q.1.length ≤ 16777216 then some (.new (.lst q.1), q.2) else none
@[simp] theorem tupR_s {l : List D} {ε : SE} (h : FitE l.length) : tupR (l, ε) = some (.d (.tup l), ε) := if_pos h
@[simp] theorem lstR_s {l : List D} {ε : SE} (h : FitE l.length) : lstR (l, ε) = some (.new (.lst l), ε) := if_pos h
@[simp] theorem eTup_s {f : AM} {ε : SE} : eTup f ε = (f ε).bind fun r => (escL r.2 r.1).bind tupR := id rfl
@[simp] theorem eLst_s {f : AM} {ε : SE} : eLst f ε = (f ε).bind fun r => (escL r.2 r.1).bind lstR := id rfl
@[simp] theorem eBM_s {p : D → Bool} {g : D → List D → Option Val} {fo : EM} {f : AM} {ε : SE} : eBM p g fo f ε = (fzE fo ε).bind fun ro => (ro.1.res ro.2).bind fun d0 => if p d0 = true then
  (f ro.2).bind fun r => (ro.1.res r.2).bind fun d => (resL r.2 r.1).bind fun ds => (g d ds).map fun v => (v, r.2) else none := id rfl
@[simp] theorem eMut_s {p : MO → Bool} {g : MO → List D → Option (MO × D)} {fo : EM} {f : AM} {ε : SE} : eMut p g fo f ε = (fzE fo ε).bind fun ro => (tgt ro.2 ro.1).bind fun m0 => if p m0 = true then
  (f ro.2).bind fun r => (escL r.2 r.1).bind fun q => (tgt q.2 ro.1).bind fun m => (g m q.1).map fun w => (.d w.2, put q.2 w.1 ro.1) else none := id rfl
def tgtR : Option Sl → Option MO
  | some (.own m) => some m
  | _ => none
@[simp] theorem tgtR_o {m : MO} : tgtR (some (.own m)) = some m := id rfl
@[simp] theorem tgt_o {ε : SE} {i : Nat} : tgt ε (.old i) = tgtR (nth ε.sl i) := by
  show (match ε.sl[i]? with | some (.own m) => some m | _ => none) = _
  unfold tgtR nth
  split <;> simp_all
@[simp] theorem tgt_p {ε : SE} {i : Nat} : tgt ε (.d (.ptr i)) = nth ε.M i := id rfl
@[simp] theorem put_o {ε : SE} {i : Nat} {m : MO} : put ε m (.old i) = setS ε i (.own m) := id rfl
@[simp] theorem put_p {ε : SE} {i : Nat} {m : MO} : put ε m (.d (.ptr i)) = { ε with M := setN ε.M i m } := id rfl
@[simp] theorem setS_s {sl : List Sl} {M : List MO} {i : Nat} {s : Sl} : setS ⟨sl, M⟩ i s = ⟨setN sl i s, M⟩ := id rfl
@[simp] theorem isL_l {l : List D} : isL (.lst l) = true := id rfl
@[simp] theorem appM_s {l : List D} {d : D} (h : Fit l.length) : appM (.lst l) [d] = some (.lst (l ++ [d]), .non) := if_pos h
@[simp] theorem popM_s {l : List D} {i : Int} (h : bnd i = true) : popM (.lst l) [.int i] = (ixN l.length i).bind fun j => (l[j]?).map fun x => (.lst (l.eraseIdx j), x) := if_pos h
/-! statements -/
def seqR (g : SM) : Out → Option Out
  | .nx ε => g ε
  | o => some o
@[simp] theorem seqR_nx {g : SM} {ε : SE} : seqR g (.nx ε) = g ε := id rfl
@[simp] theorem seqR_rt {g : SM} {ε : SE} {v : Val} : seqR g (.rt v ε) = some (.rt v ε) := id rfl
@[simp] theorem seqR_bk {g : SM} {ε : SE} : seqR g (.bk ε) = some (.bk ε) := id rfl
@[simp] theorem seqR_ct {g : SM} {ε : SE} : seqR g (.ct ε) = some (.ct ε) := id rfl
@[simp] theorem sSeq_s {f g : SM} {ε : SE} : sSeq f g ε = (f ε).bind (seqR g) := by
  unfold sSeq
  refine congrArg _ (funext fun o => ?_)
  cases o <;> rfl
@[simp] theorem sNil_s {ε : SE} : sNil ε = some (.nx ε) := id rfl
@[simp] theorem sErr_s {ε : SE} : sErr ε = none := id rfl
@[simp] theorem sExpr_s {f : EM} {ε : SE} : sExpr f ε = (f ε).map fun r => .nx r.2 := id rfl
@[simp] theorem sRet_s {f : EM} {ε : SE} : sRet f ε = (f ε).map fun r => .rt r.1 r.2 := id rfl
@[simp] theorem sRetN_s {ε : SE} : sRetN ε = some (.rt (.d .non) ε) := id rfl
@[simp] theorem sIf_s {c : BM} {f g : SM} {ε : SE} : sIf c f g ε = (c ε).bind fun r => if r.1 = true then f r.2 else g r.2 := id rfl
@[simp] theorem storeV_d {ε : SE} {i : Nat} {x : D} : storeV ε i (.d x) = some (setS ε i (.d x)) := id rfl
@[simp] theorem storeV_n {ε : SE} {i : Nat} {m : MO} : storeV ε i (.new m) = some (setS ε i (.own m)) := id rfl
@[simp] theorem storeV_o {ε : SE} {i j : Nat} : storeV ε i (.old j) = (escR (nth ε.sl j) j ε).map fun r => setS r.2 i (.d r.1) := by rw [← escV_o]; rfl
@[simp] theorem sSet_s {i : Nat} {f : EM} {ε : SE} : sSet i f ε = (f ε).bind fun r => (storeV r.2 i r.1).map fun ε' => .nx ε' := id rfl
@[simp] theorem sAsg_s {g : GM} {f : EM} {ε : SE} : sAsg g f ε = (fzE f ε).bind fun r => (escV r.2 r.1).bind fun q => (g q.1 q.2).map fun ε' => .nx ε' := id rfl
@[simp] theorem gN_s {i : Nat} {d : D} {ε : SE} : gN i d ε = some (setS ε i (.d d)) := id rfl
@[simp] theorem gsNil_s {ε : SE} : gsNil [] ε = some ε := id rfl
@[simp] theorem gsCons_s {g : GM} {gs : GsM} {d : D} {ds : List D} {ε : SE} : gsCons g gs (d :: ds) ε = (g d ε).bind fun ε1 => gs ds ε1 := id rfl
@[simp] theorem deold_n {ε : SE} : deold ε [] = some ([], ε) := id rfl
@[simp] theorem deold_o {ε : SE} {i : Nat} {vs : List Val} : deold ε (.old i :: vs) = (escR (nth ε.sl i) i ε).bind fun r => (deold r.2 vs).map fun q => (.d r.1 :: q.1, q.2) := by rw [← escV_o]; rfl
@[simp] theorem deold_d {ε : SE} {x : D} {vs : List Val} : deold ε (.d x :: vs) = (deold ε vs).map fun q => (.d x :: q.1, q.2) := id rfl
@[simp] theorem deold_m {ε : SE} {x : MO} {vs : List Val} : deold ε (.new x :: vs) = (deold ε vs).map fun q => (.new x :: q.1, q.2) := id rfl
@[simp] theorem storeL_n {ε : SE} : storeL ε [] [] = some ε := id rfl
@[simp] theorem storeL_c {ε : SE} {i : Nat} {is : List Nat} {a : Val} {as : List Val} : storeL ε (i :: is) (a :: as) = (storeV ε i a).bind fun ε1 => storeL ε1 is as := id rfl
@[simp] theorem sPar_s {is : List Nat} {f : AM} {ε : SE} : sPar is f ε = (f ε).bind fun r => (deold r.2 r.1).bind fun q => (storeL q.2 is q.1).map fun ε' => .nx ε' := id rfl
def setIxR : Option MO → Option D → D → Val → SE → Option Out
  | some (.lst l), some (.int i), x, v, ε => (ixN l.length i).map fun j => .nx (put ε (.lst (l.set j x)) v)
  | _, _, _, _, _ => none
@[simp] theorem setIxR_l {l : List D} {i : Int} {x : D} {v : Val} {ε : SE} : setIxR (some (.lst l)) (some (.int i)) x v ε = (ixN l.length i).map fun j => .nx (put ε (.lst (l.set j x)) v) := id rfl
@[simp] theorem sSetIx_s {fo fi fe : EM} {ε : SE} : sSetIx fo fi fe ε = (escE fe ε).bind fun re => (fzE fo re.2).bind fun ro => (fzE fi ro.2).bind fun ri => setIxR (tgt ri.2 ro.1) (ri.1.res ri.2) re.1 ro.1 ri.2 := by
  unfold sSetIx
  refine congrArg _ (funext fun re => congrArg _ (funext fun ro => congrArg _ (funext fun ri => ?_)))
  unfold setIxR
  split <;> simp_all
/-! loops -/
def loopR (g : GM) (body : SM) (ds : List D) : Out → Option Out
  | .nx ε => loopF g body ds ε
  | .ct ε => loopF g body ds ε
  | .bk ε => some (.nx ε)
  | .rt v ε => some (.rt v ε)
@[simp] theorem loopR_nx {g : GM} {body : SM} {ds : List D} {ε : SE} : loopR g body ds (.nx ε) = loopF g body ds ε := id rfl
@[simp] theorem loopR_ct {g : GM} {body : SM} {ds : List D} {ε : SE} : loopR g body ds (.ct ε) = loopF g body ds ε := id rfl
@[simp] theorem loopR_bk {g : GM} {body : SM} {ds : List D} {ε : SE} : loopR g body ds (.bk ε) = some (.nx ε) := id rfl
@[simp] theorem loopR_rt {g : GM} {body : SM} {ds : List D} {ε : SE} {v : Val} : loopR g body ds (.rt v ε) = some (.rt v ε) := id rfl
theorem loopF_n {g : GM} {body : SM} {ε : SE} : loopF g body [] ε = some (.nx ε) := rfl
theorem loopF_c {g : GM} {body : SM} {d : D} {ds : List D} {ε : SE} : loopF g body (d :: ds) ε = (g d ε).bind fun ε1 => (body ε1).bind (loopR g body ds) := by
  show ((g d ε).bind fun ε1 => (body ε1).bind fun o => match o with | .nx ε2 => loopF g body ds ε2 | .ct ε2 => loopF g body ds ε2 | .bk ε2 => some (.nx ε2) | .rt v ε2 => some (.rt v ε2)) = _
  refine congrArg _ (funext fun ε1 => congrArg _ (funext fun o => ?_))
  cases o <;> rfl
@[simp] theorem sFor_s {fi : IM} {g : GM} {body : SM} {ε : SE} : sFor fi g body ε = (fi ε).bind fun r => loopF g body r.1 r.2 := id rfl
@[simp] theorem iSeq_s {fe : EM} {ε : SE} : iSeq fe ε = (escE fe ε).bind fun r => (seqD r.1).map fun l => (l, r.2) := id rfl
@[simp] theorem seqD_l {l : List D} : seqD (.lst l) = some l := id rfl
@[simp] theorem seqD_t {l : List D} : seqD (.tup l) = some l := id rfl
@[simp] theorem seqD_s {s : Str} : seqD (.str s) = some (s.cps.toList.map chD) := id rfl
@[simp] theorem seqD_c {l : List Int} : seqD (.scr l) = some (l.map .int) := id rfl
@[simp] theorem iEnum1_s {fe : EM} {ε : SE} : iEnum1 fe ε = (iSeq fe ε).map fun r => (enumD r.1, r.2) := id rfl
noncomputable def rngR : List D → SE → Option (List D × SE)
  | [.int j], ε => if bnd j = true ∧ j.toNat ≤ 16777216 then some (rngD 0 j.toNat, ε) else none
  | [.int i, .int j], ε => if bnd i = true ∧ bnd j = true ∧ (j - i).toNat ≤ 16777216 then some (rngD i (j - i).toNat, ε) else none
  | _, _ => none
@[simp] theorem rngR_1 {j : Int} {ε : SE} (h : bnd j = true) (h2 : FitE j.toNat) : rngR [.int j] ε = some (rngD 0 j.toNat, ε) := if_pos ⟨h, h2⟩
@[simp] theorem rngR_2 {i j : Int} {ε : SE} (h : bnd i = true) (h1 : bnd j = true) (h2 : FitE (j - i).toNat) : rngR [.int i, .int j] ε = some (rngD i (j - i).toNat, ε) := if_pos ⟨h, h1, h2⟩
@[simp] theorem iRange_s {f : AM} {ε : SE} : iRange f ε = (f ε).bind fun r => (resL r.2 r.1).bind fun ds => rngR ds r.2 := by
  unfold iRange
  refine congrArg _ (funext fun r => congrArg _ (funext fun ds => ?_))
  unfold rngR
  split <;> simp_all
@[simp] theorem eLc_s {fi : IM} {g : GM} {tt : BM} {te : EM} {vs : List Nat} {ε : SE} : eLc fi g tt te vs ε = (fi ε).bind fun r => (compL g tt te vs r.1 r.2).map fun q => (.new (.lst q.1), restS r.2 q.2 vs) := id rfl
@[simp] theorem wipeS_n {ε : SE} : wipeS ε [] = ε := id rfl
@[simp] theorem wipeS_c {ε : SE} {v : Nat} {vs : List Nat} : wipeS ε (v :: vs) = setS (wipeS ε vs) v .no := id rfl
@[simp] theorem restS_n {ε0 ε : SE} : restS ε0 ε [] = ε := id rfl
@[simp] theorem restS_c {ε0 ε : SE} {v : Nat} {vs : List Nat} : restS ε0 ε (v :: vs) = setS (restS ε0 ε vs) v (keepS (nth ε0.sl v)) := id rfl
@[simp] theorem keepS_d {d : D} : keepS (some (.d d)) = .d d := id rfl
@[simp] theorem keepS_n : keepS (some .no) = .no := id rfl
@[simp] theorem yesB_s {ε : SE} : yesB ε = some (true, ε) := id rfl
/-! slices, attributes, methods -/
@[simp] theorem oNone_s {ε : SE} : oNone ε = some (none, ε) := id rfl
def oR : D → SE → Option (Option Int × SE)
  | .int i, ε => some (some i, ε)
  | _, _ => none
@[simp] theorem oR_i {i : Int} {ε : SE} : oR (.int i) ε = some (some i, ε) := id rfl
@[simp] theorem oSome_s {f : EM} {ε : SE} : oSome f ε = (fzE f ε).bind fun r => (r.1.res r.2).bind fun d => oR d r.2 := by
  unfold oSome
  refine congrArg _ (funext fun r => congrArg _ (funext fun d => ?_))
  cases d <;> rfl
@[simp] theorem eSlice_s {fe : EM} {fl fh : OM} {ε : SE} : eSlice fe fl fh ε = (fzE fe ε).bind fun r => (fl r.2).bind fun l => (fh l.2).bind fun h => (r.1.res h.2).bind fun d => (sliceD d l.1 h.1).map fun v => (v, h.2) := id rfl
@[simp] theorem sliceD_l {l : List D} {lo hi : Option Int} : sliceD (.lst l) lo hi = some (.new (.lst (cutD l lo hi))) := id rfl
@[simp] theorem sliceD_t {l : List D} {lo hi : Option Int} : sliceD (.tup l) lo hi = some (.d (.tup (cutD l lo hi))) := id rfl
@[simp] theorem sliceD_s {s : Str} {lo hi : Option Int} : sliceD (.str s) lo hi = some (.d (.str (cutS s lo hi))) := id rfl
@[simp] theorem sliceD_c {l : List Int} {lo hi : Option Int} : sliceD (.scr l) lo hi = some (.new (.lst (cutD (l.map .int) lo hi))) := id rfl
def fldR (c : Nat) (f : Str) (ε : SE) : Option (Nat × List Str × List D) → Option (Val × SE)
  | some (c', ns, ds) => if c' = c then ((ns.zip ds).lookup f).map fun x => (.d x, ε) else none
  | none => none
@[simp] theorem fldR_s {c c' : Nat} {f : Str} {ε : SE} {ns : List Str} {ds : List D} : fldR c f ε (some (c', ns, ds)) = if c' = c then ((ns.zip ds).lookup f).map fun x => (.d x, ε) else none := id rfl
@[simp] theorem insD_i {ε : SE} {c : Nat} {ns : List Str} {ds : List D} : insD ε (.ins c ns ds) = some (c, ns, ds) := id rfl
@[simp] theorem eFld_s {c : Nat} {f : Str} {fo : EM} {ε : SE} : eFld c f fo ε = (fzE fo ε).bind fun r => (r.1.res r.2).bind fun d => fldR c f r.2 (insD r.2 d) := by
  unfold eFld
  refine congrArg _ (funext fun r => congrArg _ (funext fun d => ?_))
  unfold fldR
  split <;> simp_all
def methR (c : Nat) (m : Str) (f : FM) (dd : List D) (fa : AM) (v : Val) (ε : SE) : Option (Nat × List Str × List D) → Option (Val × SE)
  | some (c', ns, _) => if c' = c ∧ ns.contains m = false then eCall f dd (fun ε1 => (fa ε1).map fun r => (v :: r.1, r.2)) ε else none
  | none => none
@[simp] theorem methR_s {c c' : Nat} {m : Str} {f : FM} {dd : List D} {fa : AM} {v : Val} {ε : SE} {ns : List Str} {ds : List D} : methR c m f dd fa v ε (some (c', ns, ds)) = if c' = c ∧ ns.contains m = false then eCall f dd (fun ε1 => (fa ε1).map fun r => (v :: r.1, r.2)) ε else none := id rfl
@[simp] theorem eMeth_s {c : Nat} {m : Str} {f : FM} {dd : List D} {fo : EM} {fa : AM} {ε : SE} : eMeth c m f dd fo fa ε = (fzE fo ε).bind fun ro => (ro.1.res ro.2).bind fun d => methR c m f dd fa ro.1 ro.2 (insD ro.2 d) := by
  unfold eMeth
  refine congrArg _ (funext fun r => congrArg _ (funext fun d => ?_))
  unfold methR
  split <;> simp_all
def fldS (c : Nat) (f : Str) (x : D) (v : Val) (ε : SE) : Option MO → Option Out
  | some (.ins c' ns ds) => if c' = c then some (.nx (put ε (.ins c' (putFD f x ns ds).1 (putFD f x ns ds).2) v)) else none
  | _ => none
/-! defs -/
@[simp] theorem finV_nx {ε : SE} : finV (.nx ε) = some (.d .non, ε.M) := id rfl
@[simp] theorem finV_d {x : D} {ε : SE} : finV (.rt (.d x) ε) = some (.d x, ε.M) := id rfl
@[simp] theorem finV_n {m : MO} {ε : SE} : finV (.rt (.new m) ε) = some (.new m, ε.M) := id rfl
def finR : Option Sl → List MO → Option (Val × List MO)
  | some (.own m), M => some (.new m, M)
  | some (.d x), M => some (.d x, M)
  | _, _ => none
@[simp] theorem finR_o {m : MO} {M : List MO} : finR (some (.own m)) M = some (.new m, M) := id rfl
@[simp] theorem finR_d {x : D} {M : List MO} : finR (some (.d x)) M = some (.d x, M) := id rfl
@[simp] theorem finV_o {i : Nat} {ε : SE} : finV (.rt (.old i) ε) = finR (nth ε.sl i) ε.M := by
  show (match ε.sl[i]? with | some (.own m) => some (Val.new m, ε.M) | some (.d x) => some (.d x, ε.M) | _ => none) = _
  unfold finR nth
  split <;> simp_all
theorem runF_s {n N : Nat} {f : SM} {ds : List D} {M : List MO} (h : ds.length = n) : runF n N f ds M = (f ⟨slots0 ds N, M⟩).bind finV := if_pos h
@[simp] theorem runF_if {n N : Nat} {f : SM} {ds : List D} {M : List MO} : runF n N f ds M = if ds.length = n then (f ⟨slots0 ds N, M⟩).bind finV else none := id rfl
/-! built-ins -/
@[simp] theorem lenD_l {l : List D} : lenD [.lst l] = some (.d (.int (l.length : Nat))) := id rfl
@[simp] theorem lenD_t {l : List D} : lenD [.tup l] = some (.d (.int (l.length : Nat))) := id rfl
@[simp] theorem lenD_c {l : List Int} : lenD [.scr l] = some (.d (.int (l.length : Nat))) := id rfl
@[simp] theorem lenD_s {l : Str} : lenD [.str l] = some (.d (.int (l.length : Nat))) := id rfl
@[simp] theorem intD_i {i : Int} : intD [.int i] = some (.d (.int i)) := id rfl
@[simp] theorem intU_i {i : Int} : intD' [.int i] = some (.d (.int i)) := id rfl
@[simp] theorem absD_i {i : Int} : absD [.int i] = some (.d (.int (if i < 0 then -i else i))) := id rfl
@[simp] theorem max2D_i {i j : Int} : max2D [.int i, .int j] = some (.d (.int (if j > i then j else i))) := id rfl
@[simp] theorem min2D_i {i j : Int} : min2D [.int i, .int j] = some (.d (.int (if j < i then j else i))) := id rfl
@[simp] theorem listD_s {d : D} : listD [d] = (seqD d).map fun l => .new (.lst l) := id rfl
@[simp] theorem tupD_t {l : List D} : tupD [.tup l] = some (.d (.tup l)) := id rfl
@[simp] theorem tupD_l {l : List D} : tupD [.lst l] = some (.d (.tup l)) := id rfl
@[simp] theorem allD_l {l : List D} : allD [.lst l] = (blsD l).map fun b => .d (.bl (b.all id)) := id rfl
@[simp] theorem anyD_l {l : List D} : anyD [.lst l] = (blsD l).map fun b => .d (.bl (b.any id)) := id rfl
@[simp] theorem addD_i {i j : Int} : addD (.int i) (.int j) = some (.d (.int (i + j))) := id rfl
@[simp] theorem addD_s {i j : Str} (h : FitE (i.length + j.length)) : addD (.str i) (.str j) = some (.d (.str (i ++ j))) := if_pos h
@[simp] theorem addD_t {i j : List D} (h : FitE (i.length + j.length)) : addD (.tup i) (.tup j) = some (.d (.tup (i ++ j))) := if_pos h
@[simp] theorem addD_l {i j : List D} (h : FitE (i.length + j.length)) : addD (.lst i) (.lst j) = some (.new (.lst (i ++ j))) := if_pos h
@[simp] theorem ixD_l {l : List D} {i : Int} : ixD (.lst l) (.int i) = (atI l i).map .d := id rfl
@[simp] theorem ixD_t {l : List D} {i : Int} : ixD (.tup l) (.int i) = (atI l i).map .d := id rfl
@[simp] theorem ixD_c {l : List Int} {i : Int} : ixD (.scr l) (.int i) = (atI l i).map fun n => .d (.int n) := id rfl
@[simp] theorem ixD_s {s : Str} {i : Int} : ixD (.str s) (.int i) = (atI s.cps.toList i).map fun c => .d (chD c) := id rfl
@[simp] theorem ltD_i {i j : Int} : ltD (.int i) (.int j) = some (.d (.bl (decide (i < j)))) := id rfl
@[simp] theorem leD_i {i j : Int} : leD (.int i) (.int j) = some (.d (.bl (decide (i ≤ j)))) := id rfl
@[simp] theorem gtD_i {i j : Int} : gtD (.int i) (.int j) = some (.d (.bl (decide (j < i)))) := id rfl
@[simp] theorem geD_i {i j : Int} : geD (.int i) (.int j) = some (.d (.bl (decide (j ≤ i)))) := id rfl
theorem atI_nat' {α : Type} {l : List α} {i : Nat} (h : i < l.length) : atI l (i : Int) = l[i]? := by
  unfold atI ixN
  rw [if_pos (by omega), if_pos (by omega)]
  rfl
theorem ixN_nat {n i : Nat} (h : i < n) : ixN n (i : Int) = some i := by
  unfold ixN
  rw [if_pos (by omega), if_pos (by omega)]
  rfl
theorem ixN_int {n : Nat} {i : Int} (h0 : 0 ≤ i) (h : i < n) : ixN n i = some i.toNat := by
  unfold ixN
  rw [if_pos h0, if_pos h]
end KD
namespace KD
open PySem PySem.Spec PyProof.Rows L2
theorem modD_i {i j : Int} (h : 0 < j) : modD (.int i) (.int j) = some (.d (.int (i % j))) := by
  unfold modD KD.intOp
  simp [h]
theorem fdivD_i {i j : Int} (h : 0 < j) (h2 : j < 1073741824) : fdivD (.int i) (.int j) = some (.d (.int (i / j))) := by
  unfold fdivD KD.intOp
  simp [h, h2]
theorem mulD_l {i j : Int} (h : wid i = true) : mulD (.int i) (.int j) = some (.d (.int (i * j))) := by
  unfold mulD
  simp [h]
theorem mulD_r {i j : Int} (h : wid j = true) : mulD (.int i) (.int j) = some (.d (.int (i * j))) := by
  unfold mulD
  simp [h]
theorem wid_mk {i : Int} (h : -18446744073709551616 < i) (h2 : i < 18446744073709551616) : wid i = true := by
  unfold wid
  exact @decide_eq_true _ (Classical.propDecidable _) ⟨h, h2⟩
end KD

set_option maxHeartbeats 4000000
namespace KD
open PySem PySem.Spec PyProof.Rows L2
/-! ### equality, membership of texts and numbers -/
theorem eqd_str (a b : Str) : eqd (.str a) (.str b) = decide (a = b) := by
  unfold eqd toPy
  simp [PyData.eqv]
  by_cases h : a = b <;> simp [h]
theorem eqd_int (a b : Int) : eqd (.int a) (.int b) = decide (a = b) := by
  unfold eqd toPy
  simp [PyData.eqv]
  by_cases h : a = b <;> simp [h]
@[simp] theorem eqD_int {a b : Int} : eqD (.int a) (.int b) = some (.d (.bl (decide (a = b)))) := by
  unfold eqD
  rw [okD_flat (d := .int a) rfl, okD_flat (d := .int b) rfl, eqd_int]
  rfl
@[simp] theorem neD_int {a b : Int} : neD (.int a) (.int b) = some (.d (.bl (!decide (a = b)))) := by
  unfold neD
  rw [okD_flat (d := .int a) rfl, okD_flat (d := .int b) rfl, eqd_int]
  rfl
@[simp] theorem eqD_str {a b : Str} : eqD (.str a) (.str b) = some (.d (.bl (decide (a = b)))) := by
  unfold eqD
  rw [okD_flat (d := .str a) rfl, okD_flat (d := .str b) rfl, eqd_str]
  rfl
@[simp] theorem neD_str {a b : Str} : neD (.str a) (.str b) = some (.d (.bl (!decide (a = b)))) := by
  unfold neD
  rw [okD_flat (d := .str a) rfl, okD_flat (d := .str b) rfl, eqd_str]
  rfl
theorem flatAll_strs : ∀ ts : List Str, flatAll (ts.map D.str) = true
  | [] => rfl
  | t :: ts => flatAll_strs ts
theorem inL_strs (s : Str) : ∀ ts : List Str, inL (.str s) (ts.map D.str) = decide (s ∈ ts)
  | [] => rfl
  | t :: ts => by
    show (eqd (.str t) (.str s) || inL (.str s) (ts.map D.str)) = _
    rw [eqd_str, inL_strs s ts]
    by_cases h : t = s
    · simp [h]
    · have h' : ¬ s = t := fun z => h z.symm
      simp [h, h']
theorem inD_strs {s : Str} {ts : List Str} : inD (.str s) (.tup (ts.map D.str)) = some (decide (s ∈ ts)) := by
  show (if (isFlat (.str s) && flatAll (ts.map D.str)) = true then some (inL (.str s) (ts.map D.str)) else none) = _
  rw [flatAll_strs, inL_strs]
  rfl
theorem inD_strsL {s : Str} {ts : List Str} : inD (.str s) (.lst (ts.map D.str)) = some (decide (s ∈ ts)) := by
  show (if (isFlat (.str s) && flatAll (ts.map D.str)) = true then some (inL (.str s) (ts.map D.str)) else if (okD (.str s) && okD (.lst (ts.map D.str))) = true then some (inL (.str s) (ts.map D.str)) else none) = _
  rw [flatAll_strs, inL_strs]
  rfl
def chS (c : Nat) : Str := ⟨#[c]⟩
theorem chD_eq (c : Nat) : chD c = .str (chS c) := rfl
theorem map_chD (cs : List Nat) : cs.map chD = (cs.map chS).map D.str := by rw [List.map_map]; rfl
theorem chS_inj {a b : Nat} (h : chS a = chS b) : a = b := by
  unfold chS at h
  simpa using h
theorem mem_chS {a : Nat} {cs : List Nat} : chS a ∈ cs.map chS ↔ a ∈ cs := by
  constructor
  · intro h
    obtain ⟨b, hb, e⟩ := List.mem_map.mp h
    rw [← chS_inj e]; exact hb
  · exact fun h => List.mem_map.mpr ⟨a, h, rfl⟩
theorem inD_chs {a : Nat} {cs : List Nat} : inD (chD a) (.tup (cs.map chD)) = some (decide (a ∈ cs)) := by
  rw [map_chD, chD_eq, inD_strs]
  simp only [mem_chS]
theorem inD_chsL {a : Nat} {cs : List Nat} : inD (chD a) (.lst (cs.map chD)) = some (decide (a ∈ cs)) := by
  rw [map_chD, chD_eq, inD_strsL]
  simp only [mem_chS]
@[simp] theorem inV1_s {d e : D} : inV1 d e = (inD d e).map fun b => .d (.bl b) := id rfl
@[simp] theorem ninV1_s {d e : D} : ninV1 d e = (inD d e).map fun b => .d (.bl (!b)) := id rfl
@[simp] theorem isND_n : isND .non .non = some (.d (.bl true)) := id rfl
@[simp] theorem isND_i {i : Int} : isND (.int i) .non = some (.d (.bl false)) := id rfl
@[simp] theorem notND_n : notND .non .non = some (.d (.bl false)) := id rfl
@[simp] theorem notND_i {i : Int} : notND (.int i) .non = some (.d (.bl true)) := id rfl
/-! ### walks -/
theorem loopF_inv {g : GM} {body : SM} (I : Nat → SE → Prop) : ∀ (ds : List D) (k : Nat) (ε : SE), I k ε →
    (∀ (i : Nat) (ε : SE) (d : D), ds[i]? = some d → I (k + i) ε → ∃ ε1 ε2, g d ε = some ε1 ∧ (body ε1 = some (.nx ε2) ∨ body ε1 = some (.ct ε2)) ∧ I (k + i + 1) ε2) →
    ∃ ε', loopF g body ds ε = some (.nx ε') ∧ I (k + ds.length) ε'
  | [], k, ε, h, _ => ⟨ε, rfl, h⟩
  | d :: ds, k, ε, h, st => by
    obtain ⟨ε1, ε2, h1, h2, h3⟩ := st 0 ε d rfl h
    obtain ⟨ε', h4, h5⟩ := loopF_inv I ds (k + 1) ε2 h3 fun i ε d hd hi => by
      have := st (i + 1) ε d (by simpa using hd) (by rw [show k + (i + 1) = k + 1 + i by omega]; exact hi)
      rw [show k + 1 + i + 1 = k + (i + 1) + 1 by omega]
      exact this
    refine ⟨ε', ?_, by rw [List.length_cons, show k + (ds.length + 1) = k + 1 + ds.length by omega]; exact h5⟩
    rw [loopF_c, h1]
    rcases h2 with h2 | h2 <;> simp [h2, h4]
theorem compL_pure {g : GM} {tt : BM} {te : EM} {vs : List Nat} (p : D → Bool) (f : D → D) (I : SE → Prop) : ∀ (ds : List D),
    (∀ ε, I ε → ∀ d ∈ ds, ∃ ε1, g d (wipeS ε vs) = some ε1 ∧ ∃ ε2, tt ε1 = some (p d, ε2) ∧ (p d = false → I ε2) ∧ (p d = true → ∃ ε3, escE te ε2 = some (f d, ε3) ∧ I ε3)) →
    ∀ ε, I ε → ∃ ε', compL g tt te vs ds ε = some ((ds.filter p).map f, ε') ∧ I ε'
  | [], _, ε, h => ⟨ε, rfl, h⟩
  | d :: ds, st, ε, h => by
    obtain ⟨ε1, h1, ε2, h2, h3, h4⟩ := st ε h d List.mem_cons_self
    have ih := compL_pure p f I ds fun ε h d hd => st ε h d (List.mem_cons_of_mem _ hd)
    have e : compL g tt te vs (d :: ds) ε = (g d (wipeS ε vs)).bind fun ε1 => (tt ε1).bind fun r => if r.1 = true then (escE te r.2).bind fun y => (compL g tt te vs ds y.2).map fun q => (y.1 :: q.1, q.2) else compL g tt te vs ds r.2 := rfl
    rw [e, h1, Option.bind_some, h2, Option.bind_some]
    cases hp : p d with
    | false =>
      obtain ⟨ε', q1, q2⟩ := ih ε2 (h3 hp)
      exact ⟨ε', by simp [hp, q1], q2⟩
    | true =>
      obtain ⟨ε3, h5, h6⟩ := h4 hp
      obtain ⟨ε', q1, q2⟩ := ih ε3 h6
      refine ⟨ε', ?_, q2⟩
      rw [if_pos rfl, h5, Option.bind_some, q1, List.filter_cons_of_pos hp]
      rfl
@[simp] theorem gT_pair {n : Nat} {gs : GsM} {l : List D} {ε : SE} : gT n gs (.pair l) ε = if l.length = n then gs l ε else none := id rfl
@[simp] theorem gT_tup {n : Nat} {gs : GsM} {l : List D} {ε : SE} : gT n gs (.tup l) ε = if l.length = n then gs l ε else none := id rfl
/-! ### slices -/
theorem sIx_int {n d : Nat} {k : Int} (h : 0 ≤ k) : HT.sIx n d (some k) = min k.toNat n := by
  obtain ⟨m, rfl⟩ := Int.eq_ofNat_of_zero_le h
  rw [HT.sIx_nat]
  rfl
theorem cutD_to {l : List D} {k : Int} (h : 0 ≤ k) : cutD l none (some k) = l.take k.toNat := by
  unfold cutD
  rw [HT.sIx_none, sIx_int h, Nat.sub_zero, List.drop_zero]
  by_cases q : k.toNat ≤ l.length
  · rw [Nat.min_eq_left q]
  · rw [Nat.min_eq_right (by omega), List.take_length, List.take_of_length_le (by omega)]
theorem cutD_from {l : List D} {k : Int} (h : 0 ≤ k) : cutD l (some k) none = l.drop k.toNat := by
  unfold cutD
  rw [HT.sIx_none, sIx_int h]
  by_cases q : k.toNat ≤ l.length
  · rw [Nat.min_eq_left q, List.take_of_length_le (by rw [List.length_drop]; omega)]
  · rw [Nat.min_eq_right (by omega), Nat.sub_self, List.take_zero, List.drop_eq_nil_of_le (by omega)]
theorem bnd_mk {i : Int} (h : -(4611686018427387904) ≤ i) (h2 : i < 4611686018427387904) : bnd i = true := by
  unfold bnd
  exact @decide_eq_true _ (Classical.propDecidable _) ⟨h, h2⟩
theorem rngD_len {lo : Int} {n : Nat} : (rngD lo n).length = n := by unfold rngD; simp
theorem rngD_get {lo : Int} {n i : Nat} {d : D} (h : (rngD lo n)[i]? = some d) : i < n ∧ d = .int (lo + i) := by
  unfold rngD at h
  rw [List.getElem?_map] at h
  obtain ⟨j, hj, e⟩ := Option.map_eq_some_iff.mp h
  have hi : i < n := by
    have := (List.getElem?_eq_some_iff.mp hj).1
    simpa using this
  rw [List.getElem?_range hi] at hj
  cases hj
  exact ⟨hi, e.symm⟩
theorem map_erase {α β : Type} (f : α → β) : ∀ (l : List α) (i : Nat), (l.map f).eraseIdx i = (l.eraseIdx i).map f
  | [], _ => rfl
  | _ :: _, 0 => rfl
  | a :: l, i + 1 => by
    show f a :: (l.map f).eraseIdx i = f a :: (l.eraseIdx i).map f
    rw [map_erase f l i]
theorem erase_perm {α : Type} : ∀ (l : List α) (i : Nat) (h : i < l.length), List.Perm (l[i] :: l.eraseIdx i) l
  | [], _, h => by cases h
  | a :: l, 0, _ => .refl _
  | a :: l, i + 1, h => by
    have ih := erase_perm l i (by simpa using h)
    show List.Perm ((l[i]'(by simpa using h)) :: a :: l.eraseIdx i) (a :: l)
    exact (List.Perm.swap _ _ _).trans (ih.cons a)
theorem erase_len {α : Type} (l : List α) (i : Nat) (h : i < l.length) : (l.eraseIdx i).length = l.length - 1 := by
  rw [List.length_eraseIdx, if_pos h]
end KD

set_option maxHeartbeats 4000000
namespace KD
open PySem PySem.Spec PyProof.Rows L2
/-! comprehensions and loops over encoded lists -/
theorem setS_setS {ε : SE} {v : Nat} {a b : Sl} : setS (setS ε v a) v b = setS ε v b := by
  unfold setS
  simp [List.set_set]
/-- a comprehension over one name, which changes nothing -/
theorem lc_one {α : Type} {fi : IM} {tt : BM} {te : EM} {v : Nat} {ε ε' : SE} (enc : α → D) (p : α → Bool) (f : α → D) (xs : List α)
    (hi : fi ε = some (xs.map enc, ε')) (hk : setS ε' v (keepS (nth ε'.sl v)) = ε')
    (hb : ∀ a ∈ xs, tt (setS ε' v (.d (enc a))) = some (p a, setS ε' v (.d (enc a))))
    (he : ∀ a ∈ xs, p a = true → escE te (setS ε' v (.d (enc a))) = some (f a, setS ε' v (.d (enc a)))) :
    eLc fi (gN v) tt te [v] ε = some (.new (.lst ((xs.filter p).map f)), ε') := by
  have key : ∀ (xs : List α), (∀ a ∈ xs, tt (setS ε' v (.d (enc a))) = some (p a, setS ε' v (.d (enc a)))) →
      (∀ a ∈ xs, p a = true → escE te (setS ε' v (.d (enc a))) = some (f a, setS ε' v (.d (enc a)))) →
      ∀ ε2 : SE, (∃ s, ε2 = setS ε' v s) → ∃ s, compL (gN v) tt te [v] (xs.map enc) ε2 = some ((xs.filter p).map f, setS ε' v s) := by
    intro xs
    induction xs with
    | nil => intro _ _ ε2 ⟨s, e⟩; exact ⟨s, by rw [e]; rfl⟩
    | cons a xs ih =>
      intro hb he ε2 ⟨s, e⟩
      subst e
      have h1 := hb a List.mem_cons_self
      have ih' := ih (fun b hb' => hb b (List.mem_cons_of_mem _ hb')) (fun b hb' => he b (List.mem_cons_of_mem _ hb')) (setS ε' v (.d (enc a))) ⟨_, rfl⟩
      obtain ⟨s', ih'⟩ := ih'
      refine ⟨s', ?_⟩
      show ((gN v (enc a) (wipeS (setS ε' v s) [v])).bind fun ε1 => (tt ε1).bind fun r => if r.1 = true then (escE te r.2).bind fun y => (compL (gN v) tt te [v] (xs.map enc) y.2).map fun q => (y.1 :: q.1, q.2) else compL (gN v) tt te [v] (xs.map enc) r.2) = _
      rw [gN_s, wipeS_c, wipeS_n, setS_setS, setS_setS, Option.bind_some, h1, Option.bind_some]
      cases hp : p a with
      | false => simp [hp, ih']
      | true => simp only [if_true, he a List.mem_cons_self hp, Option.bind_some, ih', Option.map_some, List.filter_cons_of_pos hp, List.map_cons]
  obtain ⟨s, e⟩ := key xs hb he ε' ⟨keepS (nth ε'.sl v), hk.symm⟩
  rw [eLc_s, hi, Option.bind_some]
  simp only []
  rw [e, Option.map_some, restS_c, restS_n, setS_setS, hk]
/-- the same without a test -/
theorem lc_map {α : Type} {fi : IM} {te : EM} {v : Nat} {ε ε' : SE} (enc : α → D) (f : α → D) (xs : List α)
    (hi : fi ε = some (xs.map enc, ε')) (hk : setS ε' v (keepS (nth ε'.sl v)) = ε')
    (he : ∀ a ∈ xs, escE te (setS ε' v (.d (enc a))) = some (f a, setS ε' v (.d (enc a)))) :
    eLc fi (gN v) yesB te [v] ε = some (.new (.lst (xs.map f)), ε') := by
  have := lc_one (tt := yesB) enc (fun _ => true) f xs hi hk (fun a _ => rfl) (fun a ha _ => he a ha)
  rw [List.filter_eq_self.mpr (fun _ _ => rfl)] at this
  exact this
/-- a for loop, each turn by a step of what is carried -/
theorem for_fold {α β : Type} {g : GM} {body : SM} (enc : α → D) (I : β → SE → Prop) (stp : β → α → β) : ∀ (xs : List α) (b : β) (ε : SE), I b ε →
    (∀ b a ε, a ∈ xs → I b ε → ∃ ε1 ε2, g (enc a) ε = some ε1 ∧ (body ε1 = some (.nx ε2) ∨ body ε1 = some (.ct ε2)) ∧ I (stp b a) ε2) →
    ∃ ε', loopF g body (xs.map enc) ε = some (.nx ε') ∧ I (xs.foldl stp b) ε'
  | [], b, ε, h, _ => ⟨ε, rfl, h⟩
  | a :: xs, b, ε, h, st => by
    obtain ⟨ε1, ε2, h1, h2, h3⟩ := st b a ε List.mem_cons_self h
    obtain ⟨ε', h4, h5⟩ := for_fold enc I stp xs (stp b a) ε2 h3 fun b a' ε hm hi => st b a' ε (List.mem_cons_of_mem _ hm) hi
    refine ⟨ε', ?_, h5⟩
    rw [List.map_cons, loopF_c, h1]
    rcases h2 with h2 | h2 <;> simp [h2, h4]
/-- a for loop that goes on, or hands back -/
theorem for_pass {α : Type} {g : GM} {body : SM} (enc : α → D) (I : SE → Prop) : ∀ (xs : List α) (ε : SE), I ε →
    (∀ a ε, a ∈ xs → I ε → ∃ ε1 ε2, g (enc a) ε = some ε1 ∧ (body ε1 = some (.nx ε2) ∨ body ε1 = some (.ct ε2)) ∧ I ε2) →
    ∃ ε', loopF g body (xs.map enc) ε = some (.nx ε') ∧ I ε' := fun xs ε h st =>
  for_fold (β := Unit) enc (fun _ => I) (fun _ _ => ()) xs () ε h (fun _ a ε ha hi => st a ε ha hi)
/-- a while loop by what is carried and a measure -/
theorem while_st {β : Type} {c : BM} {body : SM} (I : β → SE → Prop) (J : SE → Prop) (ms : β → Nat)
    (st : ∀ b ε, I b ε → (∃ ε', c ε = some (false, ε') ∧ J ε') ∨ ∃ b' ε1 ε2, c ε = some (true, ε1) ∧ (body ε1 = some (.nx ε2) ∨ body ε1 = some (.ct ε2)) ∧ I b' ε2 ∧ ms b' < ms b) :
    ∀ (n : Nat) (b : β) (ε : SE), I b ε → ms b < n → ∃ ε', loopW c body n ε = some (.nx ε') ∧ J ε'
  | 0, b, ε, _, hm => by omega
  | n + 1, b, ε, h, hm => by
    have e : loopW c body (n + 1) ε = ((c ε).bind fun r => if r.1 = true then (body r.2).bind fun o => match o with
      | .nx ε2 => loopW c body n ε2
      | .ct ε2 => loopW c body n ε2
      | .bk ε2 => some (.nx ε2)
      | .rt v ε2 => some (.rt v ε2)
      else some (.nx r.2)) := rfl
    rcases st b ε h with ⟨ε', h1, h2⟩ | ⟨b', ε1, ε2, h1, h2, h3, h4⟩
    · exact ⟨ε', by rw [e, h1]; rfl, h2⟩
    · obtain ⟨ε', h5, h6⟩ := while_st I J ms st n b' ε2 h3 (by omega)
      refine ⟨ε', ?_, h6⟩
      rw [e, h1]
      rcases h2 with h2 | h2 <;> simp [h2, h5]
@[simp] theorem sWhile_s {n : Nat} {c : BM} {body : SM} {ε : SE} : sWhile n c body ε = loopW c body n ε := id rfl
end KD

set_option maxHeartbeats 4000000
namespace KD
open PySem PySem.Spec PyProof.Rows L2
/-! encodings: equality, membership, repr -/
structure Enc {α : Type} [DecidableEq α] (e : α → D) (k : Nat) : Prop where
  pl : ∀ a, plain (e a) = true
  dp : ∀ a, (toPy (e a)).depth ≤ k
  eq : ∀ a b, eqd (e a) (e b) = decide (a = b)
theorem plainL_map {α : Type} {e : α → D} (h : ∀ a, plain (e a) = true) : ∀ l : List α, plainL (l.map e) = true
  | [] => rfl
  | a :: l => by
    show (plain (e a) && plainL (l.map e)) = true
    rw [h a, plainL_map h l]; rfl
theorem depthAll_map {α : Type} {e : α → D} {k : Nat} (h : ∀ a, (toPy (e a)).depth ≤ k) : ∀ l : List α, PyData.depthAll (toPyL (l.map e)) ≤ k
  | [] => Nat.zero_le _
  | a :: l => by
    have h1 := h a
    have h2 := depthAll_map h l
    show max (toPy (e a)).depth (PyData.depthAll (toPyL (l.map e))) ≤ k
    omega
theorem eqvAll_map {α : Type} [DecidableEq α] {e : α → D} (h : ∀ a b, eqd (e a) (e b) = decide (a = b)) : ∀ l m : List α, PyData.eqvAll (toPyL (l.map e)) (toPyL (m.map e)) = decide (l = m)
  | [], [] => rfl
  | [], b :: m => by
    show false = _
    simp
  | a :: l, [] => by
    show false = _
    simp
  | a :: l, b :: m => by
    show (eqd (e a) (e b) && PyData.eqvAll (toPyL (l.map e)) (toPyL (m.map e))) = _
    rw [h a b, eqvAll_map h l m]
    by_cases h1 : a = b <;> by_cases h2 : l = m <;> simp [h1, h2]
section
variable {α β : Type} [DecidableEq α] [DecidableEq β] {e : α → D} {k : Nat}
theorem Enc.lst (h : Enc e k) : Enc (fun l : List α => .lst (l.map e)) (k + 1) :=
  ⟨plainL_map h.pl, fun l => Nat.succ_le_succ (depthAll_map h.dp l), eqvAll_map h.eq⟩
theorem Enc.tup (h : Enc e k) : Enc (fun l : List α => .tup (l.map e)) (k + 1) :=
  ⟨plainL_map h.pl, fun l => Nat.succ_le_succ (depthAll_map h.dp l), eqvAll_map h.eq⟩
theorem Enc.pr {f : β → D} (h : Enc e k) (g : Enc f k) : Enc (fun p : α × β => .tup [e p.1, f p.2]) (k + 1) :=
  ⟨fun p => by
    show (plain (e p.1) && (plain (f p.2) && true)) = true
    rw [h.pl, g.pl]; rfl, fun p => by
    have h1 := h.dp p.1
    have h2 := g.dp p.2
    show max (toPy (e p.1)).depth (max (toPy (f p.2)).depth 0) + 1 ≤ k + 1
    omega, fun p q => by
    show (eqd (e p.1) (e q.1) && (eqd (f p.2) (f q.2) && true)) = _
    rw [h.eq, g.eq]
    obtain ⟨a, b⟩ := p
    obtain ⟨c, d⟩ := q
    by_cases h1 : a = c <;> by_cases h2 : b = d <;> simp [h1, h2]⟩
theorem Enc.up (h : Enc e k) {m : Nat} (q : k ≤ m) : Enc e m := ⟨h.pl, fun a => Nat.le_trans (h.dp a) q, h.eq⟩
theorem Enc.ok (h : Enc e k) (hk : k ≤ 64) (a : α) : okD (e a) = true := by
  unfold okD
  rw [h.pl a, decide_eq_true (Nat.le_trans (h.dp a) hk)]; rfl
theorem Enc.eqD (h : Enc e k) (hk : k ≤ 64) (a b : α) : KD.eqD (e a) (e b) = some (.d (.bl (decide (a = b)))) := by
  unfold KD.eqD
  rw [h.ok hk, h.ok hk, h.eq]; rfl
theorem Enc.neD (h : Enc e k) (hk : k ≤ 64) (a b : α) : KD.neD (e a) (e b) = some (.d (.bl (!decide (a = b)))) := by
  unfold KD.neD
  rw [h.ok hk, h.ok hk, h.eq]; rfl
theorem inL_map (h : ∀ a b, eqd (e a) (e b) = decide (a = b)) (a : α) : ∀ l : List α, inL (e a) (l.map e) = decide (a ∈ l)
  | [] => by simp [inL]
  | b :: l => by
    show (eqd (e b) (e a) || inL (e a) (l.map e)) = _
    rw [h, inL_map h a l]
    by_cases q : b = a
    · simp [q]
    · have q' : ¬ a = b := fun z => q z.symm
      simp [q, q']
theorem Enc.inLst (h : Enc e k) (hk : k < 64) (a : α) (l : List α) : inD (e a) (.lst (l.map e)) = some (decide (a ∈ l)) := by
  show (if (isFlat (e a) && flatAll (l.map e)) = true then some (inL (e a) (l.map e)) else if (okD (e a) && okD (.lst (l.map e))) = true then some (inL (e a) (l.map e)) else none) = _
  rw [h.ok (by omega), h.lst.ok (by omega), inL_map h.eq]
  simp
theorem flatAll_map {γ : Type} {g : γ → D} (h : ∀ a, isFlat (g a) = true) : ∀ l : List γ, flatAll (l.map g) = true
  | [] => rfl
  | a :: l => by
    show (isFlat (g a) && flatAll (l.map g)) = true
    rw [h a, flatAll_map h l]; rfl
theorem Enc.inTup (h : Enc e k) (hf : ∀ a, isFlat (e a) = true) (a : α) (l : List α) : inD (e a) (.tup (l.map e)) = some (decide (a ∈ l)) := by
  show (if (isFlat (e a) && flatAll (l.map e)) = true then some (inL (e a) (l.map e)) else none) = _
  rw [hf a, flatAll_map hf l, inL_map h.eq]; rfl
theorem findIdx_map (h : ∀ a b, eqd (e a) (e b) = decide (a = b)) (a : α) : ∀ l : List α, (l.map e).findIdx? (fun z => eqd z (e a)) = l.findIdx? fun b => decide (b = a)
  | [] => rfl
  | b :: l => by
    rw [List.map_cons, List.findIdx?_cons, List.findIdx?_cons, h, findIdx_map h a l]
theorem Enc.lix (h : Enc e k) (hk : k < 64) (a : α) (l : List α) : lixD (.lst (l.map e)) [e a] = (l.findIdx? fun b => decide (b = a)).map fun j => .d (.int (j : Nat)) := by
  show (if (okD (.lst (l.map e)) && okD (e a)) = true then ((l.map e).findIdx? fun z => eqd z (e a)).map fun j => Val.d (.int (j : Nat)) else none) = _
  rw [h.ok (by omega), h.lst.ok (by omega), findIdx_map h.eq]; rfl
end
theorem Enc.str : Enc D.str 0 := ⟨fun _ => rfl, fun _ => Nat.le_refl _, eqd_str⟩
theorem Enc.int : Enc D.int 0 := ⟨fun _ => rfl, fun _ => Nat.le_refl _, eqd_int⟩
theorem Enc.ch : Enc chD 0 := ⟨fun _ => rfl, fun _ => Nat.le_refl _, fun a b => by
  rw [chD_eq, chD_eq, eqd_str]
  by_cases h : a = b
  · simp [h]
  · have : ¬ chS a = chS b := fun q => h (chS_inj q)
    simp [h, this]⟩
theorem Enc.bl : Enc D.bl 0 := ⟨fun _ => rfl, fun _ => Nat.le_refl _, fun a b => by cases a <;> cases b <;> rfl⟩
/-- numbers as data -/
def nI (n : Nat) : D := .int (n : Int)
theorem Enc.nat : Enc nI 0 := ⟨fun _ => rfl, fun _ => Nat.le_refl _, fun a b => by
  unfold nI
  rw [eqd_int]
  by_cases h : a = b
  · simp [h]
  · have : ¬ (a : Int) = (b : Int) := by omega
    simp [h, this]⟩
/-! ### repr -/
def cpOk (s : Str) : Prop := ∀ c ∈ s.cps.toList, c < 1114112
theorem cpOk_append {a b : Str} (h : cpOk a) (g : cpOk b) : cpOk (a ++ b) := by
  intro c hc
  have : c ∈ a.cps.toList ++ b.cps.toList := by
    have e : (a ++ b).cps = a.cps ++ b.cps := rfl
    rw [e, Array.toList_append] at hc
    exact hc
  rcases List.mem_append.mp this with q | q
  · exact h c q
  · exact g c q
theorem cpOk_of (s : String) : cpOk (Str.ofString s) := by
  intro c hc
  rw [Str.ofString_eq_toList] at hc
  have hc' : c ∈ s.toList.map Char.toNat := by simpa using hc
  obtain ⟨ch, _, rfl⟩ := List.mem_map.mp hc'
  have := ch.valid
  rcases this with h | ⟨h1, h2⟩
  · show ch.val.toNat < 1114112
    have : ch.val.toNat < 0xd800 := h
    omega
  · exact h2
theorem cpOk_join (sep : Str) (hs : cpOk sep) : ∀ ts : List Str, (∀ t ∈ ts, cpOk t) → cpOk (Str.join sep ts)
  | [], _ => by intro c hc; cases hc
  | [t], h => h t List.mem_cons_self
  | t :: u :: ts, h => by
    have ih := cpOk_join sep hs (u :: ts) fun x hx => h x (List.mem_cons_of_mem _ hx)
    show cpOk (t ++ sep ++ Str.join sep (u :: ts))
    exact cpOk_append (cpOk_append (h t List.mem_cons_self) hs) ih
theorem cpOk_textFrom : ∀ (ts : List Str) (k : Nat) (acc : Str), cpOk acc → (∀ t ∈ ts, cpOk t) → cpOk (textFrom k acc ts)
  | [], _, _, h, _ => h
  | t :: ts, k, acc, h, g => by
    show cpOk (textFrom (k + 1) (acc ++ (if k > 0 then ", " else "" : String) ++ t) ts)
    exact cpOk_textFrom ts (k + 1) _ (cpOk_append (cpOk_append h (cpOk_of _)) (g t List.mem_cons_self)) fun x hx => g x (List.mem_cons_of_mem _ hx)
theorem reprChar_ok {q c : Nat} (hq : q < 128) (hc : c < 1114112) : ∀ x ∈ Builtin.Str.reprChar q c, x < 1114112 := by
  have hx : ∀ (w : Nat) (x : Nat), x ∈ List.replicate (w - ((Nat.toDigits 16 c).map Char.toNat).length) 48 ++ (Nat.toDigits 16 c).map Char.toNat → x < 1114112 := by
    intro w x h
    rcases List.mem_append.mp h with h | h
    · have := List.eq_of_mem_replicate h
      omega
    · obtain ⟨ch, _, rfl⟩ := List.mem_map.mp h
      rcases ch.valid with h | ⟨h1, h2⟩
      · show ch.val.toNat < 1114112
        have : ch.val.toNat < 0xd800 := h
        omega
      · exact h2
  intro x h
  unfold Builtin.Str.reprChar at h
  simp only [] at h
  split at h
  · simp at h; omega
  · split at h
    · simp at h; omega
    · split at h
      · simp at h; omega
      · split at h
        · simp at h; omega
        · split at h
          · simp at h; omega
          · split at h
            · rcases List.mem_append.mp h with h | h
              · simp at h; omega
              · exact hx 2 x h
            · split at h
              · rcases List.mem_append.mp h with h | h
                · simp at h; omega
                · exact hx 4 x h
              · rcases List.mem_append.mp h with h | h
                · simp at h; omega
                · exact hx 8 x h
theorem cpOk_repr {s : Str} (h : cpOk s) : cpOk (reprText s) := by
  have hq : reprQuote s < 128 := by unfold reprQuote; split <;> decide
  have key : ∀ (l : List Nat) (out : Array Nat), (∀ c ∈ l, c < 1114112) → (∀ c ∈ out.toList, c < 1114112) → ∀ c ∈ (l.foldl (fun out c => out ++ (Builtin.Str.reprChar (reprQuote s) c).toArray) out).toList, c < 1114112 := by
    intro l
    induction l with
    | nil => intro out _ h2; exact h2
    | cons a l ih =>
      intro out h1 h2
      refine ih _ (fun c hc => h1 c (List.mem_cons_of_mem _ hc)) fun c hc => ?_
      rw [Array.toList_append] at hc
      rcases List.mem_append.mp hc with q | q
      · exact h2 c q
      · exact reprChar_ok hq (h1 a List.mem_cons_self) c q
  intro c hc
  unfold reprText at hc
  rw [Array.toList_push] at hc
  rcases List.mem_append.mp hc with q | q
  · rw [← Array.foldl_toList] at q
    refine key s.cps.toList #[reprQuote s] h (fun c hc => ?_) c q
    have : c = reprQuote s := by simpa using hc
    omega
  · have : c = reprQuote s := by simpa using q
    omega
mutual
theorem cpOk_shown : ∀ d : D, plain d = true → PyData.canLay0 (toPy d) = true → cpOk (toPy d).shown
  | .non, _, _ => by
    show cpOk (PyData.shown .none)
    simp only [PyData.shown]; exact cpOk_of _
  | .bl b, _, _ => by
    show cpOk (PyData.shown (.bool b))
    simp only [PyData.shown]; split <;> exact cpOk_of _
  | .int i, _, _ => by
    show cpOk (PyData.shown (.int i))
    simp only [PyData.shown]; exact cpOk_of _
  | .str s, _, h => by
    show cpOk (PyData.shown (.str s))
    simp only [PyData.shown]
    refine cpOk_repr fun c hc => ?_
    have h' : s.cps.all (· < 0x110000) = true := h
    rw [← Array.all_toList] at h'
    exact of_decide_eq_true (List.all_eq_true.mp h' c hc)
  | .tup l, p, h => by
    show cpOk (PyData.shown (.tuple (toPyL l)))
    simp only [PyData.shown]
    exact cpOk_append (cpOk_append (cpOk_of _) (cpOk_join _ (cpOk_of _) _ (cpOk_shownL l p h))) (cpOk_of _)
  | .lst l, p, h => by
    show cpOk (PyData.shown (.list (toPyL l)))
    simp only [PyData.shown]
    exact cpOk_append (cpOk_textFrom _ _ _ (cpOk_of _) (cpOk_shownL l p h)) (cpOk_of _)
  | .scr l, _, _ => by
    show cpOk (PyData.shown (.list (l.map .int)))
    simp only [PyData.shown]
    refine cpOk_append (cpOk_textFrom _ _ _ (cpOk_of _) fun t ht => ?_) (cpOk_of _)
    have key : ∀ (l : List Int), ∀ t ∈ PyData.shownAll (l.map .int), cpOk t := by
      intro l
      induction l with
      | nil => intro t ht; simp [PyData.shownAll] at ht
      | cons a l ih =>
        intro t ht
        simp only [List.map_cons, PyData.shownAll, List.mem_cons] at ht
        rcases ht with rfl | ht
        · simp only [PyData.shown]; exact cpOk_of _
        · exact ih t ht
    exact key l t ht
  | .pair _, p, _ => by cases p
  | .ins _ _ _, p, _ => by cases p
  | .dct _ _, p, _ => by cases p
  | .dcl _ _, p, _ => by cases p
  | .ptr _, p, _ => by cases p
  | .cls _, p, _ => by cases p
  | .rng _ _, p, _ => by cases p
  | .exc _ _ _, p, _ => by cases p
theorem cpOk_shownL : ∀ l : List D, plainL l = true → PyData.canLayAll0 (toPyL l) = true → ∀ t ∈ PyData.shownAll (toPyL l), cpOk t
  | [], _, _, t, ht => by simp [toPyL, PyData.shownAll] at ht
  | d :: l, p, h, t, ht => by
    have p' := Bool.and_eq_true_iff.mp (show (plain d && plainL l) = true from p)
    have h' := Bool.and_eq_true_iff.mp (show (PyData.canLay0 (toPy d) && PyData.canLayAll0 (toPyL l)) = true from h)
    have ht' : t ∈ PyData.shown (toPy d) :: PyData.shownAll (toPyL l) := by simpa [toPyL, PyData.shownAll] using ht
    rcases List.mem_cons.mp ht' with rfl | q
    · exact cpOk_shown d p'.1 h'.1
    · exact cpOk_shownL l p'.2 h'.2 t q
end
/-- what can be shown by repr, with its bulk -/
structure Shw (d : D) (n : Nat) : Prop where
  pl : plain d = true
  dp : (toPy d).depth ≤ 60
  ly : PyData.canLay0 (toPy d) = true
  sh : (toPy d).showable = true
  le : (toPy d).leavesShort 13 = true
  bk : (toPy d).bulk ≤ n
theorem Shw.ok {d : D} {n : Nat} (h : Shw d n) (hn : n ≤ 1000000) : okR d = true := by
  have h1 := h.dp
  have h2 := h.bk
  have e : okD d = true := by unfold okD; rw [h.pl, decide_eq_true (by omega)]; rfl
  have hl := PyData.shown_le_bulk 13 (by decide) (toPy d) h.le
  have hs : sOk (toPy d).shown = true := by
    unfold sOk
    rw [Bool.and_eq_true]
    refine ⟨?_, decide_eq_true ?_⟩
    · rw [← Array.all_toList]
      exact List.all_eq_true.mpr fun c hc => decide_eq_true (cpOk_shown d h.pl h.ly c hc)
    · show (toPy d).shown.length ≤ _
      omega
  unfold okR
  rw [e, h.sh, hs]; rfl
theorem Shw.int {i : Int} (h : i.natAbs < 1000000000000) : Shw (.int i) 0 := ⟨rfl, Nat.zero_le _, rfl, by
  show decide (i.natAbs.log2 < 1920) = true
  refine decide_eq_true ?_
  by_cases q : i.natAbs = 0
  · rw [q]; decide
  · rw [Nat.log2_lt q]
    exact Nat.lt_of_lt_of_le h (Nat.le_trans (show 1000000000000 ≤ 2 ^ 40 by decide) (Nat.pow_le_pow_right (by decide) (by decide))), by
  show decide ((PyData.shown (.int i)).length ≤ 13) = true
  exact decide_eq_true (PyData.shown_int_le (by simpa using h)), Nat.le_refl _⟩
theorem Shw.bl {b : Bool} : Shw (.bl b) 0 := ⟨rfl, Nat.zero_le _, rfl, rfl, rfl, Nat.le_refl _⟩
theorem Shw.non : Shw .non 0 := ⟨rfl, Nat.zero_le _, rfl, rfl, rfl, Nat.le_refl _⟩
theorem Shw.str {s : Str} {n : Nat} (h : cpOk s) (hn : s.cps.size ≤ n) : Shw (.str s) n := ⟨rfl, Nat.zero_le _, by
  show s.cps.all (· < 0x110000) = true
  rw [← Array.all_toList]
  exact List.all_eq_true.mpr fun c hc => decide_eq_true (h c hc), rfl, by
  show (s.cps.toList.all fun c => decide (c < 16 ^ 8)) = true
  exact List.all_eq_true.mpr fun c hc => decide_eq_true (Nat.lt_trans (h c hc) (by decide)), hn⟩
theorem Shw.up {d : D} {n m : Nat} (h : Shw d n) (q : n ≤ m) : Shw d m := ⟨h.pl, h.dp, h.ly, h.sh, h.le, Nat.le_trans h.bk q⟩
/-- items that can be shown, none deeper than k -/
structure ShwL (l : List D) (k n : Nat) : Prop where
  pl : plainL l = true
  dp : PyData.depthAll (toPyL l) ≤ k
  ly : PyData.canLayAll0 (toPyL l) = true
  sh : PyData.showableAll (toPyL l) = true
  le : PyData.leavesShortAll 13 (toPyL l) = true
  bk : PyData.bulkAll (toPyL l) ≤ n
theorem ShwL.nil {k : Nat} : ShwL [] k 0 := ⟨rfl, Nat.zero_le _, rfl, rfl, rfl, Nat.le_refl _⟩
theorem ShwL.cons {d : D} {l : List D} {k n m : Nat} (h : Shw d n) (hd : (toPy d).depth ≤ k) (g : ShwL l k m) : ShwL (d :: l) k (n + 1 + m) := by
  have h1 := h.bk
  have h2 := g.bk
  have h3 := g.dp
  exact ⟨by show (plain d && plainL l) = true; rw [h.pl, g.pl]; rfl, by show max (toPy d).depth (PyData.depthAll (toPyL l)) ≤ k; omega,
   by show (PyData.canLay0 (toPy d) && PyData.canLayAll0 (toPyL l)) = true; rw [h.ly, g.ly]; rfl, by show (PyData.showable (toPy d) && PyData.showableAll (toPyL l)) = true; rw [h.sh, g.sh]; rfl,
   by show (PyData.leavesShort 13 (toPy d) && PyData.leavesShortAll 13 (toPyL l)) = true; rw [h.le, g.le]; rfl, by show (toPy d).bulk + 1 + PyData.bulkAll (toPyL l) ≤ _; omega⟩
theorem ShwL.map {α : Type} {e : α → D} {k c : Nat} (h : ∀ a, Shw (e a) c) (hd : ∀ a, (toPy (e a)).depth ≤ k) : ∀ l : List α, ShwL (l.map e) k (l.length * (c + 1))
  | [] => by rw [List.length_nil, Nat.zero_mul]; exact ShwL.nil
  | a :: l => by
    have := ShwL.cons (h a) (hd a) (ShwL.map h hd l)
    rw [List.length_cons, Nat.succ_mul, show l.length * (c + 1) + (c + 1) = c + 1 + l.length * (c + 1) by omega]
    exact this
theorem ShwL.mapM {α : Type} {e : α → D} {k c : Nat} : ∀ (l : List α), (∀ a ∈ l, Shw (e a) c ∧ (toPy (e a)).depth ≤ k) → ShwL (l.map e) k (l.length * (c + 1))
  | [], _ => by rw [List.length_nil, Nat.zero_mul]; exact ShwL.nil
  | a :: l, h => by
    obtain ⟨h1, h2⟩ := h a List.mem_cons_self
    have := ShwL.cons h1 h2 (ShwL.mapM l fun b hb => h b (List.mem_cons_of_mem _ hb))
    rw [List.length_cons, Nat.succ_mul, show l.length * (c + 1) + (c + 1) = c + 1 + l.length * (c + 1) by omega]
    exact this
theorem ShwL.lst {l : List D} {k n : Nat} (h : ShwL l k n) (hk : k < 60) : Shw (.lst l) n := ⟨h.pl, Nat.succ_le_of_lt (Nat.lt_of_le_of_lt h.dp hk), h.ly, h.sh, h.le, h.bk⟩
theorem ShwL.tup {l : List D} {k n : Nat} (h : ShwL l k n) (hk : k < 60) : Shw (.tup l) n := ⟨h.pl, Nat.succ_le_of_lt (Nat.lt_of_le_of_lt h.dp hk), h.ly, h.sh, h.le, h.bk⟩
theorem reprD_l {l : List D} {n : Nat} (h : Shw (.lst l) n) (hn : n ≤ 1000000) : reprD [.lst l] = some (.d (.str (toPy (.lst l)).shown)) := if_pos (h.ok hn)
theorem reprD_t {l : List D} {n : Nat} (h : Shw (.tup l) n) (hn : n ≤ 1000000) : reprD [.tup l] = some (.d (.str (toPy (.tup l)).shown)) := if_pos (h.ok hn)
theorem reprD_i {i : Int} (h : i.natAbs < 1000000000000) : reprD [.int i] = some (.d (.str (toString i))) := by
  have h1 := (Shw.int h)
  have h2 := h1.ok (by decide)
  unfold okR at h2
  rw [Bool.and_eq_true] at h2
  exact if_pos ⟨of_decide_eq_true h1.sh, h2.2⟩
theorem Shw.ch {c : Nat} (h : c < 1114112) : Shw (chD c) 1 := by
  refine Shw.str (fun x hx => ?_) (Nat.le_refl _)
  have : x = c := by simpa using hx
  omega
/-! data that simp does not open -/
@[simp] theorem res_ch {ε : SE} {c : Nat} : Val.res ε (.d (chD c)) = some (chD c) := id rfl
@[simp] theorem res_nI {ε : SE} {c : Nat} : Val.res ε (.d (nI c)) = some (nI c) := id rfl
@[simp] theorem eqD_ch {a b : Nat} : eqD (chD a) (chD b) = some (.d (.bl (decide (a = b)))) := Enc.ch.eqD (by decide) a b
@[simp] theorem neD_ch {a b : Nat} : neD (chD a) (chD b) = some (.d (.bl (!decide (a = b)))) := Enc.ch.neD (by decide) a b
@[simp] theorem eqD_nI {a b : Nat} : eqD (nI a) (nI b) = some (.d (.bl (decide (a = b)))) := Enc.nat.eqD (by decide) a b
@[simp] theorem neD_nI {a b : Nat} : neD (nI a) (nI b) = some (.d (.bl (!decide (a = b)))) := Enc.nat.neD (by decide) a b
@[simp] theorem inD_chT {a : Nat} {l : List Nat} : inD (chD a) (.tup (l.map chD)) = some (decide (a ∈ l)) := Enc.ch.inTup (fun _ => rfl) a l
@[simp] theorem inD_chL {a : Nat} {l : List Nat} : inD (chD a) (.lst (l.map chD)) = some (decide (a ∈ l)) := Enc.ch.inLst (by decide) a l
/-! kinds -/
@[simp] theorem tabT_str_NoneType : tabT "str" (.ty "NoneType") = some false := by decide +kernel
@[simp] theorem tabT_str_bool : tabT "str" (.ty "bool") = some false := by decide +kernel
@[simp] theorem tabT_str_int : tabT "str" (.ty "int") = some false := by decide +kernel
@[simp] theorem tabT_str_str : tabT "str" (.ty "str") = some true := by decide +kernel
@[simp] theorem tabT_str_tuple : tabT "str" (.ty "tuple") = some false := by decide +kernel
@[simp] theorem tabT_str_list : tabT "str" (.ty "list") = some false := by decide +kernel
@[simp] theorem tabT_str_dict : tabT "str" (.ty "dict") = some false := by decide +kernel
@[simp] theorem tabT_int_NoneType : tabT "int" (.ty "NoneType") = some false := by decide +kernel
@[simp] theorem tabT_int_bool : tabT "int" (.ty "bool") = some true := by decide +kernel
@[simp] theorem tabT_int_int : tabT "int" (.ty "int") = some true := by decide +kernel
@[simp] theorem tabT_int_str : tabT "int" (.ty "str") = some false := by decide +kernel
@[simp] theorem tabT_int_tuple : tabT "int" (.ty "tuple") = some false := by decide +kernel
@[simp] theorem tabT_int_list : tabT "int" (.ty "list") = some false := by decide +kernel
@[simp] theorem tabT_int_dict : tabT "int" (.ty "dict") = some false := by decide +kernel
@[simp] theorem tabT_bool_NoneType : tabT "bool" (.ty "NoneType") = some false := by decide +kernel
@[simp] theorem tabT_bool_bool : tabT "bool" (.ty "bool") = some true := by decide +kernel
@[simp] theorem tabT_bool_int : tabT "bool" (.ty "int") = some false := by decide +kernel
@[simp] theorem tabT_bool_str : tabT "bool" (.ty "str") = some false := by decide +kernel
@[simp] theorem tabT_bool_tuple : tabT "bool" (.ty "tuple") = some false := by decide +kernel
@[simp] theorem tabT_bool_list : tabT "bool" (.ty "list") = some false := by decide +kernel
@[simp] theorem tabT_bool_dict : tabT "bool" (.ty "dict") = some false := by decide +kernel
@[simp] theorem tabT_tuple_NoneType : tabT "tuple" (.ty "NoneType") = some false := by decide +kernel
@[simp] theorem tabT_tuple_bool : tabT "tuple" (.ty "bool") = some false := by decide +kernel
@[simp] theorem tabT_tuple_int : tabT "tuple" (.ty "int") = some false := by decide +kernel
@[simp] theorem tabT_tuple_str : tabT "tuple" (.ty "str") = some false := by decide +kernel
@[simp] theorem tabT_tuple_tuple : tabT "tuple" (.ty "tuple") = some true := by decide +kernel
@[simp] theorem tabT_tuple_list : tabT "tuple" (.ty "list") = some false := by decide +kernel
@[simp] theorem tabT_tuple_dict : tabT "tuple" (.ty "dict") = some false := by decide +kernel
@[simp] theorem tabT_list_NoneType : tabT "list" (.ty "NoneType") = some false := by decide +kernel
@[simp] theorem tabT_list_bool : tabT "list" (.ty "bool") = some false := by decide +kernel
@[simp] theorem tabT_list_int : tabT "list" (.ty "int") = some false := by decide +kernel
@[simp] theorem tabT_list_str : tabT "list" (.ty "str") = some false := by decide +kernel
@[simp] theorem tabT_list_tuple : tabT "list" (.ty "tuple") = some false := by decide +kernel
@[simp] theorem tabT_list_list : tabT "list" (.ty "list") = some true := by decide +kernel
@[simp] theorem tabT_list_dict : tabT "list" (.ty "dict") = some false := by decide +kernel
@[simp] theorem tabT_dict_NoneType : tabT "dict" (.ty "NoneType") = some false := by decide +kernel
@[simp] theorem tabT_dict_bool : tabT "dict" (.ty "bool") = some false := by decide +kernel
@[simp] theorem tabT_dict_int : tabT "dict" (.ty "int") = some false := by decide +kernel
@[simp] theorem tabT_dict_str : tabT "dict" (.ty "str") = some false := by decide +kernel
@[simp] theorem tabT_dict_tuple : tabT "dict" (.ty "tuple") = some false := by decide +kernel
@[simp] theorem tabT_dict_list : tabT "dict" (.ty "list") = some false := by decide +kernel
@[simp] theorem tabT_dict_dict : tabT "dict" (.ty "dict") = some true := by decide +kernel
@[simp] theorem tabC_NoneType {l : List (Nat × Bool)} : tabC l (.ty "NoneType") = some false := by
  show (if tyNames.contains "NoneType" = true then some false else none) = _
  rw [show tyNames.contains "NoneType" = true from by decide +kernel]; rfl
@[simp] theorem tabC_bool {l : List (Nat × Bool)} : tabC l (.ty "bool") = some false := by
  show (if tyNames.contains "bool" = true then some false else none) = _
  rw [show tyNames.contains "bool" = true from by decide +kernel]; rfl
@[simp] theorem tabC_int {l : List (Nat × Bool)} : tabC l (.ty "int") = some false := by
  show (if tyNames.contains "int" = true then some false else none) = _
  rw [show tyNames.contains "int" = true from by decide +kernel]; rfl
@[simp] theorem tabC_str {l : List (Nat × Bool)} : tabC l (.ty "str") = some false := by
  show (if tyNames.contains "str" = true then some false else none) = _
  rw [show tyNames.contains "str" = true from by decide +kernel]; rfl
@[simp] theorem tabC_tuple {l : List (Nat × Bool)} : tabC l (.ty "tuple") = some false := by
  show (if tyNames.contains "tuple" = true then some false else none) = _
  rw [show tyNames.contains "tuple" = true from by decide +kernel]; rfl
@[simp] theorem tabC_list {l : List (Nat × Bool)} : tabC l (.ty "list") = some false := by
  show (if tyNames.contains "list" = true then some false else none) = _
  rw [show tyNames.contains "list" = true from by decide +kernel]; rfl
@[simp] theorem tabC_dict {l : List (Nat × Bool)} : tabC l (.ty "dict") = some false := by
  show (if tyNames.contains "dict" = true then some false else none) = _
  rw [show tyNames.contains "dict" = true from by decide +kernel]; rfl
@[simp] theorem eChain_s {g g' : D → D → Option Val} {fa fb fc : EM} {ε : SE} : eChain g g' fa fb fc ε = (fzE fa ε).bind fun ra => (fzE fb ra.2).bind fun rb => (ra.1.res rb.2).bind fun d => (rb.1.res rb.2).bind fun e => (g d e).bind fun v => (blV v).bind fun k =>
  if k = true then (fzE fc rb.2).bind fun rc => (rb.1.res rc.2).bind fun e' => (rc.1.res rc.2).bind fun f => (g' e' f).map fun r => (r, rc.2) else some (.d (.bl false), rb.2) := id rfl
@[simp] theorem blV_b {b : Bool} : blV (.d (.bl b)) = some b := id rfl
@[simp] theorem kindD_bl {ε : SE} {s : Bool} : kindD ε (.bl s) = some (.ty "bool") := id rfl
@[simp] theorem kindD_dct {ε : SE} {k : List L2.Key} {s : List D} : kindD ε (.dct k s) = some (.ty "dict") := id rfl
@[simp] theorem kindD_ch {ε : SE} {c : Nat} : kindD ε (chD c) = some (.ty "str") := id rfl
@[simp] theorem kindD_nI {ε : SE} {c : Nat} : kindD ε (nI c) = some (.ty "int") := id rfl
@[simp] theorem max2D_nI {i j : Nat} : max2D [nI i, nI j] = some (.d (nI (max i j))) := by
  show some (Val.d (.int (if (j : Int) > (i : Int) then (j : Int) else (i : Int)))) = some (Val.d (.int ((max i j : Nat) : Int)))
  split
  · rw [show max i j = j by omega]
  · rw [show max i j = i by omega]
@[simp] theorem popM_nI {l : List D} {i : Nat} (h : Fit i) : popM (.lst l) [nI i] = if i < l.length then (l[i]?).map fun x => (.lst (l.eraseIdx i), x) else none := by
  have b : bnd (i : Int) = true := bnd_mk (by omega) (by unfold Fit at h; omega)
  show popM (.lst l) [.int (i : Int)] = _
  rw [popM_s b]
  by_cases q : i < l.length
  · rw [ixN_nat q, if_pos q]; rfl
  · rw [if_neg q]
    have : ixN l.length (i : Int) = none := by
      unfold ixN
      rw [if_pos (by omega), if_neg (by omega)]
    rw [this]; rfl
end KD

set_option maxHeartbeats 4000000
namespace KD
open PySem PySem.Spec PyProof.Rows L2
@[simp] theorem extUM_l {l m : List D} (h : FitE (l.length + m.length)) : extUM (.lst l) [.lst m] = some (.lst (l ++ m), .non) := if_pos h
@[simp] theorem extUM_t {l m : List D} (h : FitE (l.length + m.length)) : extUM (.lst l) [.tup m] = some (.lst (l ++ m), .non) := if_pos h
@[simp] theorem iadd2_i {i j : Int} : iadd2 (.int i) (.int j) = some (.int (i + j)) := id rfl
@[simp] theorem iadd2_s {a b : Str} (h : FitE (a.length + b.length)) : iadd2 (.str a) (.str b) = some (.str (a ++ b)) := if_pos h
/-- a for loop, by the number of turns -/
theorem for_ix {α : Type} {g : GM} {body : SM} (enc : α → D) (I : Nat → SE → Prop) (xs : List α) (ε : SE) (h0 : I 0 ε)
    (st : ∀ n a ε, xs[n]? = some a → I n ε → ∃ ε1 ε2, g (enc a) ε = some ε1 ∧ (body ε1 = some (.nx ε2) ∨ body ε1 = some (.ct ε2)) ∧ I (n + 1) ε2) :
    ∃ ε', loopF g body (xs.map enc) ε = some (.nx ε') ∧ I xs.length ε' := by
  obtain ⟨ε', e, h⟩ := loopF_inv (g := g) (body := body) I (xs.map enc) 0 ε h0 (fun n ε d hd hi => by
    rw [List.getElem?_map] at hd
    obtain ⟨a, ha, rfl⟩ := Option.map_eq_some_iff.mp hd
    rw [Nat.zero_add] at hi ⊢
    exact st n a ε ha hi)
  rw [Nat.zero_add, List.length_map] at h
  exact ⟨ε', e, h⟩
@[simp] theorem repr2D_l {l : List D} : repr2D [.lst l] = reprD [.lst l] := id rfl
@[simp] theorem repr2D_t {l : List D} : repr2D [.tup l] = reprD [.tup l] := id rfl
@[simp] theorem repr2D_i {i : Int} : repr2D [.int i] = reprD [.int i] := id rfl
theorem repr2D_s {s : Str} {n : Nat} (h : Shw (.str s) n) (hn : n ≤ 1000000) : repr2D [.str s] = some (.d (.str (toPy (.str s)).shown)) := if_pos (h.ok hn)
end KD

set_option maxHeartbeats 4000000
namespace KD
open PySem PySem.Spec PyProof.Rows L2
/-! rules for dicts, two generators -/
theorem res_pl {d : D} {ε : SE} (h : plain d = true) : Val.res ε (.d d) = some d := by
  cases d <;> first | rfl | cases h
@[simp] theorem eDnew_s {ε : SE} : eDnew ε = some (.new (.dct [] []), ε) := id rfl
@[simp] theorem eDisp1_s {fk fv : EM} {ε : SE} : eDisp1 fk fv ε = (escE fk ε).bind fun k => (keyD k.1).bind fun key => (escE fv k.2).map fun y => (.new (.dct [key] [y.1]), y.2) := id rfl
@[simp] theorem keyD_i {i : Int} : keyD (.int i) = some (.inl i) := id rfl
@[simp] theorem keyD_s {s : Str} : keyD (.str s) = some (.inr s) := id rfl
theorem putR_s {d : D} {v : Val} {ε : SE} {ks : List L2.Key} {l : List D} {key : L2.Key} (h : Fit ks.length) : putR d v ε (some (.dct ks l)) (some key) = some (.nx (put ε (dctM (putD (ks.zip l) key d)) v)) := if_pos h
@[simp] theorem sDput_s {fo fi fe : EM} {ε : SE} : sDput fo fi fe ε = (escE fe ε).bind fun re => (fzE fo re.2).bind fun ro => (fzE fi ro.2).bind fun ri => putR re.1 ro.1 ri.2 (tgt ri.2 ro.1) ((ri.1.res ri.2).bind keyD) := id rfl
@[simp] theorem eDget2_s {fo fk fx : EM} {ε : SE} : eDget2 fo fk fx ε = (fzE fo ε).bind fun ro => (ro.1.res ro.2).bind fun d0 => if isDct d0 = true then (fzE fk ro.2).bind fun rk => (escE fx rk.2).bind fun rx => (ro.1.res rx.2).bind fun d => (rk.1.res rx.2).bind fun i => (dgetO d i).map fun o => (.d (o.getD rx.1), rx.2) else none := id rfl
@[simp] theorem eRev_s {fe : EM} {fs : OM} {ε : SE} : eRev fe fs ε = (fzE fe ε).bind fun r => (fs r.2).bind fun l => (r.1.res l.2).bind fun d => if l.1 = some (-1) then (revD d).map fun v => (v, l.2) else none := id rfl
@[simp] theorem revD_l {l : List D} : revD (.lst l) = some (.new (.lst l.reverse)) := id rfl
@[simp] theorem revD_t {l : List D} : revD (.tup l) = some (.d (.tup l.reverse)) := id rfl
@[simp] theorem isDct_d {ks : List L2.Key} {l : List D} : isDct (.dct ks l) = true := id rfl
@[simp] theorem dgetO_d {ks : List L2.Key} {l : List D} {i : D} : dgetO (.dct ks l) i = (keyD i).map fun k => valD (ks.zip l) k := id rfl
/-- a comprehension over two names, which changes nothing -/
theorem lc2_pure {α β : Type} {fi fi1 : IM} {tt1 : BM} {te : EM} {v w : Nat} {ε : SE} (S : Sl → Sl → SE) (enc : α → D) (enc2 : β → D) (ys : α → List β) (p : α → β → Bool) (f : α → β → D) (xs : List α)
    (h1 : ∀ x y x', setS (S x y) v x' = S x' y) (h2 : ∀ x y y', setS (S x y) w y' = S x y') (n1 : nth (S .no .no).sl v = some .no) (n2 : nth (S .no .no).sl w = some .no)
    (hi : fi ε = some (xs.map enc, S .no .no)) (hi1 : ∀ a ∈ xs, fi1 (S (.d (enc a)) .no) = some ((ys a).map enc2, S (.d (enc a)) .no))
    (hb : ∀ a ∈ xs, ∀ b ∈ ys a, tt1 (S (.d (enc a)) (.d (enc2 b))) = some (p a b, S (.d (enc a)) (.d (enc2 b))))
    (he : ∀ a ∈ xs, ∀ b ∈ ys a, p a b = true → escE te (S (.d (enc a)) (.d (enc2 b))) = some (f a b, S (.d (enc a)) (.d (enc2 b))))
    (hl : FitE (xs.flatMap fun a => ((ys a).filter (p a)).map (f a)).length) :
    eLc2 fi (gN v) yesB fi1 (gN w) tt1 te [v, w] [w] ε = some (.new (.lst (xs.flatMap fun a => ((ys a).filter (p a)).map (f a))), S .no .no) := by
  have inner : ∀ (a : α) (L : List β) (y : Sl), (∀ b ∈ L, tt1 (S (.d (enc a)) (.d (enc2 b))) = some (p a b, S (.d (enc a)) (.d (enc2 b)))) → (∀ b ∈ L, p a b = true → escE te (S (.d (enc a)) (.d (enc2 b))) = some (f a b, S (.d (enc a)) (.d (enc2 b)))) →
      ∃ y', compL (gN w) tt1 te [w] (L.map enc2) (S (.d (enc a)) y) = some ((L.filter (p a)).map (f a), S (.d (enc a)) y') := by
    intro a L
    induction L with
    | nil => intro y _ _; exact ⟨y, rfl⟩
    | cons b L ih =>
      intro y hb he
      obtain ⟨y', e⟩ := ih (.d (enc2 b)) (fun c hc => hb c (List.mem_cons_of_mem _ hc)) (fun c hc => he c (List.mem_cons_of_mem _ hc))
      refine ⟨y', ?_⟩
      show ((gN w (enc2 b) (wipeS (S (.d (enc a)) y) [w])).bind fun ε1 => (tt1 ε1).bind fun r => if r.1 = true then (escE te r.2).bind fun z => (compL (gN w) tt1 te [w] (L.map enc2) z.2).map fun q => (z.1 :: q.1, q.2) else compL (gN w) tt1 te [w] (L.map enc2) r.2) = _
      rw [gN_s, wipeS_c, wipeS_n, h2, h2, Option.bind_some, hb b List.mem_cons_self, Option.bind_some]
      cases hp : p a b with
      | false => simp [hp, e]
      | true => simp only [if_true, he b List.mem_cons_self hp, Option.bind_some, e, Option.map_some, List.filter_cons_of_pos hp, List.map_cons]
  have outer : ∀ (L : List α) (x y : Sl), (∀ a ∈ L, a ∈ xs) → ∃ x' y', compL2 (gN v) yesB fi1 (gN w) tt1 te [v, w] [w] (L.map enc) (S x y) = some (L.flatMap fun a => ((ys a).filter (p a)).map (f a), S x' y') := by
    intro L
    induction L with
    | nil => intro x y _; exact ⟨x, y, rfl⟩
    | cons a L ih =>
      intro x y hs
      have ha := hs a List.mem_cons_self
      obtain ⟨y1, e1⟩ := inner a (ys a) .no (hb a ha) (he a ha)
      obtain ⟨x', y', e2⟩ := ih (.d (enc a)) y1 fun b hb => hs b (List.mem_cons_of_mem _ hb)
      refine ⟨x', y', ?_⟩
      show ((gN v (enc a) (wipeS (S x y) [v, w])).bind fun ε1 => (yesB ε1).bind fun r => if r.1 = true then (fi1 r.2).bind fun q => (compL (gN w) tt1 te [w] q.1 q.2).bind fun z => (compL2 (gN v) yesB fi1 (gN w) tt1 te [v, w] [w] (L.map enc) z.2).map fun u => (z.1 ++ u.1, u.2)
        else compL2 (gN v) yesB fi1 (gN w) tt1 te [v, w] [w] (L.map enc) r.2) = _
      rw [gN_s, wipeS_c, wipeS_c, wipeS_n, h2, h1, h1, Option.bind_some, show yesB (S (.d (enc a)) .no) = some (true, S (.d (enc a)) .no) from rfl, Option.bind_some, if_pos rfl, hi1 a ha, Option.bind_some]
      simp only []
      rw [e1, Option.bind_some]
      simp only []
      rw [e2]
      rfl
  obtain ⟨x', y', e⟩ := outer xs .no .no fun _ h => h
  unfold eLc2
  rw [hi, Option.bind_some]
  simp only []
  rw [e, Option.bind_some]
  simp only []
  rw [if_pos (show _ ≤ 16777216 from hl)]
  simp only [restS_c, restS_n, n1, n2, keepS_n, h2, h1]
end KD

set_option maxHeartbeats 4000000
namespace KD
open PySem PySem.Spec PyProof.Rows L2
/-! rules: own methods, split, classmethods -/
@[simp] theorem eOwn_s {c : Nat} {f : FM} {p : Val → Bool} {o : SE → List D → Bool} {fa : AM} {ε : SE} : eOwn c f p o fa ε = (fa ε).bind fun r => (escL r.2 r.1).bind fun q => ownV c f p o q := id rfl
@[simp] theorem ownV_ins {c c' : Nat} {f : FM} {p : Val → Bool} {o : SE → List D → Bool} {ns : List Str} {l rest : List D} {ε : SE} : ownV c f p o (.ins c' ns l :: rest, ε) = if c' = c ∧ o ε rest = true then (f (.ins c' ns l :: rest) ε.M).bind fun r => if r.2.length = ε.M.length ∧ p r.1 = true then some (r.1, { ε with M := r.2 }) else none else none := id rfl
@[simp] theorem nutE_s {g : EM} {ε : SE} : nutE g ε = (g ε).bind fun r => match r.1 with | .d (.bl b) => some (.d (.bl (!b)), r.2) | _ => none := id rfl
@[simp] theorem anyO_n {ε : SE} : anyO ε [] = true := id rfl
@[simp] theorem othO_i {c c' : Nat} {ε : SE} {ns : List Str} {l : List D} : othO c ε [.ins c' ns l] = (c' == c) := id rfl
@[simp] theorem othO_s {c : Nat} {ε : SE} {z : Str} : othO c ε [.str z] = true := id rfl
@[simp] theorem othO_l {c : Nat} {ε : SE} {l : List D} : othO c ε [.lst l] = true := id rfl
@[simp] theorem othO_t {c : Nat} {ε : SE} {l : List D} : othO c ε [.tup l] = true := id rfl
@[simp] theorem blOk_b {b : Bool} : blOk (.d (.bl b)) = true := id rfl
@[simp] theorem strOk_s {z : Str} : strOk (.d (.str z)) = true := id rfl
theorem lenOk_n {n : Nat} (h : FitE n) : lenOk (.d (.int (n : Int))) = true := by
  show (bnd (n : Int) && decide (0 ≤ (n : Int))) = true
  have h' : n ≤ 16777216 := h
  rw [bnd_mk (by omega) (by omega), Bool.true_and, decide_eq_true (by omega)]
@[simp] theorem consCls_s {c : Nat} {fa : AM} {ε : SE} : consCls c fa ε = (fa ε).map fun r => (.d (.cls c) :: r.1, r.2) := id rfl
@[simp] theorem eMakeL_s {i c : Nat} {f : FM} {dd : List D} {fa : AM} {ε : SE} : eMakeL i c f dd fa ε = if clsAt ε i = some c then eMake c f dd fa ε else none := id rfl
@[simp] theorem clsAt_0 {c : Nat} {l : List Sl} {M : List MO} : clsAt ⟨.d (.cls c) :: l, M⟩ 0 = some c := id rfl
@[simp] theorem neLO_l {c : Nat} {f : FM} {l m : List D} : neLO c f (.lst l) (.lst m) = if pairT c f l m = true then some (.d (.bl false)) else none := id rfl
@[simp] theorem isStrD_s {z : Str} : isStrD (.str z) = true := id rfl
/-- a joined text, split again -/
theorem splitD_join {y : Str} {s : Nat} {S : List Nat} {parts : List Str} (ey : TL.tl y = s :: S) (hk : y.cps.all (· < 256) = true) (hne : parts ≠ []) (hp : ∀ p ∈ parts, s ∉ TL.tl p) (hs : sOk (Txt.join y parts) = true) (hl : (Txt.join y parts).length + 2 ≤ 16777216) :
    splitD (.str (Txt.join y parts)) [.str y] = some (.new (.lst (parts.map D.str))) := by
  have hy : y.cps.toList ≠ [] := fun z => by
    have e : TL.tl y = [] := z
    rw [e] at ey; cases ey
  show (if y.cps.toList ≠ [] ∧ y.cps.all (· < 256) = true ∧ sOk (Txt.join y parts) = true ∧ (Txt.join y parts).length + 2 ≤ 16777216 then some (Val.new (.lst ((splS (Txt.join y parts) y).map D.str))) else none) = _
  rw [if_pos ⟨hy, hk, hs, hl⟩, ← split_splS hy hk, TL.split_join ey hk hne hp]
end KD

set_option maxHeartbeats 4000000
namespace KM
open PySem PySem.Spec PyProof.Rows L2 KD
noncomputable section
/-! the mirrors: what each def computes, as a function of data -/
def isL_Web : List (Nat × Bool) := [(0, true)]
def m_l_draw : SM := (sSeq (sSetIx (eVar 0) (eC (.int 2)) (eOp addD (eOp ixD (eVar 0) (eC (.int 2))) (eC (.int 1))))
  (sSeq (sIf (eB (eOp gtD (eOp ixD (eVar 0) (eC (.int 0))) (eC (.int 0)))) (sSeq (sSet 4 (fzE (eOp modD (eCB intD' (aCons (eOp ixD (eVar 0) (eC (.int 0))) aNil)) (eVar 1))))
  (sSeq (sSetIx (eVar 0) (eC (.int 0)) (eOp fdivD (eOp ixD (eVar 0) (eC (.int 0))) (eVar 1)))
  (sRet (eVar 4)))) sNil)
  (sSeq (sSet 2 (fzE (eOp addD (eCB intD' (aCons (eOp ixD (eVar 0) (eC (.int 1))) aNil)) (eOp mulD (eC (.int 69031)) (eOp ixD (eVar 0) (eC (.int 2)))))))
  (sSeq (sSet 3 (fzE (eOp addD (eOp modD (eCB intD' (aCons (eVar 2) aNil)) (eC (.int 64033))) (eC (.int 53003)))))
  (sSeq (sSetIx (eVar 0) (eC (.int 1)) (eOp modD (eCB intD' (aCons (eOp addD (eOp addD (eOp mulD (eVar 2) (eVar 3)) (eOp mulD (eC (.int 11)) (eOp ixD (eVar 0) (eC (.int 2))))) (eC (.int 19))) aNil)) (eC (.int 2147483549))))
  (sRet (eOp modD (eOp fdivD (eCB intD' (aCons (eOp ixD (eVar 0) (eC (.int 1))) aNil)) (eC (.int 509))) (eVar 1))))))))
def f_l_draw : FM := runF 2 5 m_l_draw
def m_l_one : SM := (sRet (eOp ixD (eVar 1) (eCall f_l_draw [] (aCons (eVar 0) (aCons (eCB lenD (aCons (eVar 1) aNil)) aNil)))))
def f_l_one : FM := runF 2 2 m_l_one
def c_l_web_1 : EM := (eLc (iRange (aCons (eOp addD (eC (.int 1)) (eCall f_l_draw [] (aCons (eVar 0) (aCons (eVar 1) aNil)))) aNil)) (gN 5) yesB (eMut isL popM (eVar 3) (aCons (eCall f_l_draw [] (aCons (eVar 0) (aCons (eCB lenD (aCons (eVar 3) aNil)) aNil))) aNil)) [5])
def c_l_web_2 : EM := (eLc (iSeq (eSlice (eVar 9) (oSome (eOp addD (eVar 5) (eC (.int 1)))) oNone)) (gN 11) yesB (eOp addD (eOp ixD (eVar 9) (eVar 5)) (eVar 11)) [11])
def b_l_web_1 : SM := (sSet 4 (fzE (eOp addD (eVar 4) c_l_web_2)))
def w_l_web_1 : SM := (sFor (iRange (aCons (eCB lenD (aCons (eVar 9) aNil)) aNil)) (gN 5) b_l_web_1)
def c_l_web_3 : EM := (eLc (iSeq (eVar 4)) (gN 10) (eB (eOp gtD (eCall f_l_draw [] (aCons (eVar 0) (aCons (eVar 6) aNil))) (eC (.int 0)))) (eVar 10) [10])
def b_l_web_2 : SM := (sExpr (eMut isL popM (eVar 7) (aCons (eCall f_l_draw [] (aCons (eVar 0) (aCons (eCB lenD (aCons (eVar 7) aNil)) aNil))) aNil)))
def w_l_web_2 : SM := (sFor (iRange (aCons (eCB max2D (aCons (eC (.int 0)) (aCons (eOp subD (eCB lenD (aCons (eVar 7) aNil)) (eVar 2)) aNil))) aNil)) (gN 8) b_l_web_2)
def m_l_web : SM := (sSeq (sSet 3 (eLst (aCons (eC (.str ("a" : Str))) (aCons (eC (.str ("b" : Str))) (aCons (eC (.str ("c" : Str))) (aCons (eC (.str ("d" : Str))) (aCons (eC (.str ("e" : Str))) (aCons (eC (.str ("f" : Str))) (aCons (eC (.str ("x" : Str))) (aCons (eC (.str ("y" : Str))) (aCons (eC (.str ("z" : Str))) (aCons (eC (.str ("p" : Str))) aNil))))))))))))
  (sSeq (sIf (eB (eOp eqD (eCall f_l_draw [] (aCons (eVar 0) (aCons (eC (.int 2)) aNil))) (eC (.int 0)))) (sSet 9 (fzE (eCB tupD (aCons (eSlice (eVar 3) oNone (oSome (eOp addD (eC (.int 1)) (eCall f_l_draw [] (aCons (eVar 0) (aCons (eVar 1) aNil)))))) aNil)))) (sSet 9 (fzE (eCB tupD (aCons c_l_web_1 aNil)))))
  (sSeq (sSet 4 (fzE (eLst aNil)))
  (sSeq w_l_web_1
  (sSeq (sSet 6 (fzE (eCall f_l_one [] (aCons (eVar 0) (aCons (eLst (aCons (eC (.int 2)) (aCons (eC (.int 3)) (aCons (eC (.int 5)) aNil)))) aNil)))))
  (sSeq (sSet 7 c_l_web_3)
  (sSeq w_l_web_2
  (sRet (eLst (aCons (eVar 9) (aCons (eCB tupD (aCons (eVar 7) aNil)) aNil)))))))))))
def f_l_web : FM := runF 3 12 m_l_web
def m_is_letter : SM := (sRet (andE (eIsi (tabT "str") (eVar 0)) (andE (eOp eqD (eCB lenD (aCons (eVar 0) aNil)) (eC (.int 1))) (eOp inV1 (eVar 0) (eC (.str ("abcdefghijklmnopqrstuvwxyz" : Str)))))))
def f_is_letter : FM := runF 1 1 m_is_letter
def m_wrong_place : SM := (sSeq (sFor (iEnum1 (eVar 0)) (gT 2 (gsCons (gN 1) (gsCons (gN 2) gsNil))) (sIf (orB (eB (eOp eqD (eVar 1) (eC (.int 6)))) (orB (notB (truB (eCall f_is_letter [] (aCons (eVar 2) aNil)))) (eB (eOp inV1 (eVar 2) (eSlice (eVar 0) oNone (oSome (eVar 1))))))) (sRet (eVar 1)) sNil))
  (sRet (eC .non)))
def f_wrong_place : FM := runF 1 3 m_wrong_place
def m_check_places : SM := (sSeq (sIf (orB (notB (truB (eIsi (tabT "tuple") (eVar 0)))) (eB (eOp eqD (eVar 0) (eTup aNil)))) sErr sNil)
  (sSeq (sSet 1 (eCall f_wrong_place [] (aCons (eVar 0) aNil)))
  (sIf (eB (eOp notND (eVar 1) (eC .non))) sErr sNil)))
def f_check_places : FM := runF 1 2 m_check_places
def m_rank : SM := (sRet (eTup (aCons (eBM isTupD tixD (eVar 1) (aCons (eOp ixD (eVar 0) (eC (.int 0))) aNil)) (aCons (eBM isTupD tixD (eVar 1) (aCons (eOp ixD (eVar 0) (eC (.int 1))) aNil)) aNil))))
def f_rank : FM := runF 2 2 m_rank
def m_is_tie : SM := (sSeq (sIf (orB (notB (truB (eIsi (tabT "str") (eVar 0)))) (orB (eB (eOp neD (eCB lenD (aCons (eVar 0) aNil)) (eC (.int 2)))) (notB (truB (eCB allD (aCons (eLc (iSeq (eVar 0)) (gN 4) yesB (eOp inV1 (eVar 4) (eVar 1)) [4]) aNil)))))) (sRet (eC (.bl false))) sNil)
  (sSeq (sAsg (gT 2 (gsCons (gN 2) (gsCons (gN 3) gsNil))) (eCall f_rank [] (aCons (eVar 0) (aCons (eVar 1) aNil))))
  (sRet (eOp ltD (eVar 2) (eVar 3)))))
def f_is_tie : FM := runF 2 5 m_is_tie
def m_wrong_tie : SM := (sSeq (sFor (iEnum1 (eVar 0)) (gT 2 (gsCons (gN 2) (gsCons (gN 3) gsNil))) (sSeq (sIf (notB (truB (eCall f_is_tie [] (aCons (eVar 3) (aCons (eVar 1) aNil))))) (sRet (eVar 2)) sNil)
  (sIf (andB (eB (eOp gtD (eVar 2) (eC (.int 0)))) (eB (eOp leTD (eCall f_rank [] (aCons (eVar 3) (aCons (eVar 1) aNil))) (eCall f_rank [] (aCons (eOp ixD (eVar 0) (eOp subD (eVar 2) (eC (.int 1)))) (aCons (eVar 1) aNil)))))) (sRet (eVar 2)) sNil)))
  (sRet (eC .non)))
def f_wrong_tie : FM := runF 2 4 m_wrong_tie
def m_check_ties : SM := (sSeq (sIf (notB (truB (eIsi (tabT "tuple") (eVar 0)))) sErr sNil)
  (sSeq (sSet 2 (eCall f_wrong_tie [] (aCons (eVar 0) (aCons (eVar 1) aNil))))
  (sIf (eB (eOp notND (eVar 2) (eC .non))) sErr sNil)))
def f_check_ties : FM := runF 2 3 m_check_ties
def m_Web_init : SM := (sSeq (sExpr (eCall f_check_places [] (aCons (eVar 1) aNil)))
  (sSeq (sExpr (eCall f_check_ties [] (aCons (eVar 2) (aCons (eVar 1) aNil))))
  (sSeq (sFldD 0 "places" (eVar 0) (eVar 1))
  (sFldD 0 "ties" (eVar 0) (eVar 2)))))
def f_Web_init : FM := runF 3 3 m_Web_init
def m_l_made : SM := (sRet (fzE (eMake 0 f_Web_init [] (aCons (eOp ixD (eVar 0) (eC (.int 0))) (aCons (eOp ixD (eVar 0) (eC (.int 1))) aNil)))))
def f_l_made : FM := runF 1 1 m_l_made
def m_l_text : SM := (sSeq (sSet 1 (fzE (eBM isStrD joinD (eC (.str (", " : Str))) (aCons (eOp ixD (eVar 0) (eC (.int 1))) aNil))))
  (sRet (eOp addD (eOp addD (eOp addD (eC (.str ("places " : Str))) (eBM isStrD joinD (eC (.str (", " : Str))) (aCons (eOp ixD (eVar 0) (eC (.int 0))) aNil))) (eC (.str ("\nties " : Str)))) (ifE (eB (eOp neD (eVar 1) (eC (.str ("" : Str))))) (eVar 1) (eC (.str ("none" : Str)))))))
def f_l_text : FM := runF 1 2 m_l_text
def m_web_text : SM := (sRet (eBM isStrD joinD (eC (.str ("\n" : Str))) (aCons (eLst (aCons (eOp addD (eC (.str ("places " : Str))) (eBM isStrD joinD (eC (.str (", " : Str))) (aCons (eVar 0) aNil))) (aCons (eOp addD (eC (.str ("ties " : Str))) (ifE (eB (eOp neD (eVar 1) (eTup aNil))) (eBM isStrD joinD (eC (.str (", " : Str))) (aCons (eVar 1) aNil)) (eC (.str ("none" : Str))))) aNil))) aNil)))
def f_web_text : FM := runF 2 2 m_web_text
def m_Web_text : SM := (sRet (eCall f_web_text [] (aCons (eFld 0 "places" (eVar 0)) (aCons (eFld 0 "ties" (eVar 0)) aNil))))
def f_Web_text : FM := runF 1 1 m_Web_text
def m_Web_str : SM := (sRet (eFmt (eMeth 0 "text" f_Web_text [] (eVar 0) aNil)))
def f_Web_str : FM := runF 1 1 m_Web_str
def m_web_in : SM := (sSeq (sSet 1 (fzE (ifE (truB (eIsi (tabT "str") (eVar 0))) (eBM isStrD splitD (eVar 0) (aCons (eC (.str ("\n" : Str))) aNil)) (eLst (aCons (eC (.str ("" : Str))) aNil)))))
  (sSeq (sIf (eB (eOp neD (eCB lenD (aCons (eVar 1) aNil)) (eC (.int 2)))) (sRet (eC .non)) sNil)
  (sSeq (sSet 2 (fzE (eCB tupD (aCons (eBM isStrD splitD (eSlice (eOp ixD (eVar 1) (eC (.int 0))) (oSome (eC (.int 7))) oNone) (aCons (eC (.str (", " : Str))) aNil)) aNil))))
  (sSeq (sSet 3 (fzE (ifE (eB (eOp eqD (eOp ixD (eVar 1) (eC (.int 1))) (eC (.str ("ties none" : Str))))) (eTup aNil) (eCB tupD (aCons (eBM isStrD splitD (eSlice (eOp ixD (eVar 1) (eC (.int 1))) (oSome (eC (.int 5))) oNone) (aCons (eC (.str (", " : Str))) aNil)) aNil)))))
  (sSeq (sIf (orB (eB (eOp notND (eCall f_wrong_place [] (aCons (eVar 2) aNil)) (eC .non))) (eB (eOp notND (eCall f_wrong_tie [] (aCons (eVar 3) (aCons (eVar 2) aNil))) (eC .non)))) (sRet (eC .non)) sNil)
  (sRet (ifE (eB (eOp eqD (eCall f_web_text [] (aCons (eVar 2) (aCons (eVar 3) aNil))) (eVar 0))) (eTup (aCons (eVar 2) (aCons (eVar 3) aNil))) (eC .non))))))))
def f_web_in : FM := runF 1 4 m_web_in
def m_Web_read : SM := (sSeq (sSet 2 (fzE (eCall f_web_in [] (aCons (eVar 1) aNil))))
  (sSeq (sIf (eB (eOp isND (eVar 2) (eC .non))) sErr sNil)
  (sRet (fzE (eMakeL 0 0 f_Web_init [] (aCons (eOp ixD (eVar 2) (eC (.int 0))) (aCons (eOp ixD (eVar 2) (eC (.int 1))) aNil)))))))
def f_Web_read : FM := runF 2 3 m_Web_read
def m_Web_eq : SM := (sRet (andE (eIsi (tabC isL_Web) (eVar 1)) (andE (eOp eqD (eFld 0 "places" (eVar 0)) (eFld 0 "places" (eVar 1))) (eOp eqD (eFld 0 "ties" (eVar 0)) (eFld 0 "ties" (eVar 1))))))
def f_Web_eq : FM := runF 2 2 m_Web_eq
def b_l_right_v2_1 : SM := (sIf (orB (eB (nutE (eOwn 0 f_Web_eq blOk (othO 0) (aCons (eVar 4) (aCons (eVar 5) aNil))))) (eB (eOp neD (eCB repr2D (aCons (eLst (aCons (eFld 0 "places" (eVar 4)) (aCons (eFld 0 "ties" (eVar 4)) aNil))) aNil)) (eCB repr2D (aCons (eVar 3) aNil))))) (sRet (eC (.bl false))) sNil)
def w_l_right_v2_1 : SM := (sFor (iSeq (eLst (aCons (eCall f_Web_read [] (consCls 0 (aCons (eVar 6) aNil))) (aCons (eCall f_Web_read [] (consCls 0 (permA 1 [0] (aCons (eVar 6) aNil)))) aNil)))) (gN 4) b_l_right_v2_1)
def b_l_right_v2_2 : SM := (sSeq (sSet 3 (fzE (eCall f_l_web [] (aCons (eVar 0) (aCons (eC (.int 6)) (aCons (eC (.int 15)) aNil))))))
  (sSeq (sPar [5, 6] (aConsN (fzE (eCall f_l_made [] (aCons (eVar 3) aNil))) (aConsN (fzE (eCall f_l_text [] (aCons (eVar 3) aNil))) aNil)))
  (sSeq (sIf (eB (eOp neD (eCB repr2D (aCons (eLst (aCons (eMeth 0 "text" f_Web_text [] (eVar 5) aNil) (aCons (eOwn 0 f_Web_str strOk anyO (aCons (eVar 5) aNil)) aNil))) aNil)) (eCB repr2D (aCons (eLst (aCons (eVar 6) (aCons (eVar 6) aNil))) aNil)))) (sRet (eC (.bl false))) sNil)
  (sSeq w_l_right_v2_1
  (sExpr (eMut isL appM (eVar 1) (aCons (eVar 5) aNil)))))))
def w_l_right_v2_2 : SM := (sFor (iRange (aCons (eC (.int 5)) aNil)) (gN 2) b_l_right_v2_2)
def c_l_right_v2_1 : EM := (eLc (iSeq (eVar 1)) (gN 7) (eB (eOp neD (eOp eqD (eMeth 0 "text" f_Web_text [] (eVar 7) aNil) (eMeth 0 "text" f_Web_text [] (eOp ixD (eVar 1) (eC (.int 0))) aNil)) (eOwn 0 f_Web_eq blOk (othO 0) (aCons (eVar 7) (aCons (eOp ixD (eVar 1) (eC (.int 0))) aNil))))) (eVar 7) [7])
def m_l_right_v2 : SM := (sSeq (sSet 1 (eLst aNil))
  (sSeq w_l_right_v2_2
  (sRet (eOp eqD (eBor 1 c_l_right_v2_1) (eLst aNil)))))
def f_l_right_v2 : FM := runF 1 8 m_l_right_v2
def b_l_bag_1 : SM := (sSet 5 (fzE (eOp modD (eCB intD' (aCons (eOp addD (eOp addD (eOp mulD (eVar 5) (eC (.int 55711))) (eOp modD (eCB intD' (aCons (eVar 2) aNil)) (eC (.int 1000121)))) (eOp mulD (eC (.int 17)) (eVar 1))) aNil)) (eC (.int 2147483549)))))
def w_l_bag_1 : SM := (sFor (iSeq (eSlice (eVar 0) oNone (oSome (eC (.int 7))))) (gN 2) b_l_bag_1)
def m_l_bag : SM := (sSeq (sPar [4, 5] (aConsN (fzE (ifE (eB (eOp ltD (eVar 1) (eCB lenD (aCons (eVar 0) aNil)))) (eCB intD' (aCons (eOp ixD (eVar 0) (eVar 1)) aNil)) (eC (.int 0)))) (aConsN (fzE (eOp mulD (eC (.int 98909)) (eOp addD (eVar 1) (eC (.int 5))))) aNil)))
  (sSeq w_l_bag_1
  (sSeq (sSet 3 (fzE (ifE (orB (eB (eOp ltD (eVar 4) (eC (.int 0)))) (eB (eOp geD (eVar 4) (eOp powD (eC (.int 10)) (eC (.int 15)))))) (eCB absD (aCons (eVar 4) aNil)) (eC (.int 0)))))
  (sRet (eLst (aCons (eVar 3) (aCons (eOp modD (eCB intD' (aCons (eOp addD (eVar 5) (eOp mulD (eC (.int 92003)) (eOp modD (eCB intD' (aCons (eVar 4) aNil)) (eC (.int 999931))))) aNil)) (eC (.int 2147483549))) (aCons (eC (.int 0)) aNil))))))))
def f_l_bag : FM := runF 2 6 m_l_bag
def c_law_v2_1 : EM := (eLc (iRange (aCons (eCB max2D (aCons (eC (.int 2)) (aCons (eCB min2D (aCons (eCB lenD (aCons (eVar 0) aNil)) (aCons (eC (.int 5)) aNil))) aNil))) aNil)) (gN 2) yesB (eBag f_l_right_v2 [] (eCall f_l_bag [] (aCons (eVar 0) (aCons (eVar 2) aNil))) aNil) [2])
def m_law_v2 : SM := (sSeq (sIf (notB (truB (eCB allD (aCons c_law_v2_1 aNil)))) (sRet (eC (.bl false))) sNil)
  (sSeq (sSet 1 (fzE (eCall f_Web_read [] (consCls 0 (aCons (eC (.str ("places b, a\nties none" : Str))) aNil)))))
  (sRet (eOp eqD (eLst (aCons (eFld 0 "places" (eVar 1)) (aCons (eFld 0 "ties" (eVar 1)) (aCons (eFld 0 "ties" (eCall f_Web_read [] (consCls 0 (aCons (eC (.str ("places b, a\nties ba" : Str))) aNil)))) aNil)))) (eLst (aCons (eTup (aCons (eC (.str ("b" : Str))) (aCons (eC (.str ("a" : Str))) aNil))) (aCons (eTup aNil) (aCons (eTup (aCons (eC (.str ("ba" : Str))) aNil)) aNil))))))))
def f_law_v2 : FM := runF 1 3 m_law_v2
end
end KM

set_option maxHeartbeats 4000000
namespace KM
open PySem PySem.Spec PyProof.Rows L2 KD
/-! the draws of the «source» laws -/
def Bag (z : Nat) (M : List MO) : Prop := ∃ a b c : Int, M = [.lst [.int a, .int b, .int c]] ∧ 0 ≤ a ∧ 0 ≤ b ∧ 0 ≤ c ∧ c ≤ (z : Int)
theorem Bag.mono {z y : Nat} {M : List MO} (h : Bag z M) (q : z ≤ y) : Bag y M := by
  obtain ⟨a, b, c, e, h1, h2, h3, h4⟩ := h
  exact ⟨a, b, c, e, h1, h2, h3, by omega⟩
theorem Bag.len {z : Nat} {M : List MO} (h : Bag z M) : M.length = 1 := by
  obtain ⟨a, b, c, rfl, _⟩ := h; rfl
/-! ### places -/
def letters : List Nat := ("abcdefghijklmnopqrstuvwxyz" : Str).cps.toList
theorem letters_len : letters.length = 26 := by decide +kernel
/-- one more place is drawn out of those that are left: the list at slot a grows, that at slot b shrinks -/
def DrawOut (body : SM) (mk : Sl → List Nat → List Nat → List MO → SE) : Prop :=
  ∀ (z : Nat) (x : Sl) (L F : List Nat) (M : List MO), Bag z M → z < 2 ^ 58 → L ≠ [] → L.length < 16777216 → F.length < 16777215 →
    ∃ (v : Nat) (hv : v < L.length) (M' : List MO), body (mk x L F M) = some (.nx (mk x (L.eraseIdx v) (F ++ [L[v]]) M')) ∧ Bag (z + 1) M'
theorem draw_loop {body : SM} {mk : Sl → List Nat → List Nat → List MO → SE} {j : Nat} (h : DrawOut body mk) (hg : ∀ x L F M d, gN j d (mk x L F M) = some (mk (.d d) L F M)) :
    ∀ (ds : List D) (z : Nat) (x : Sl) (L F : List Nat) (M : List MO), Bag z M → z + ds.length < 2 ^ 58 → ds.length ≤ L.length → L.length + F.length < 1000000 →
      ∃ (x' : Sl) (L' F' : List Nat) (M' : List MO), loopF (gN j) body ds (mk x L F M) = some (.nx (mk x' L' F' M')) ∧ Bag (z + ds.length) M' ∧ (F' ++ L').Perm (F ++ L) ∧ F'.length = F.length + ds.length
  | [], z, x, L, F, M, hB, _, _, _ => ⟨x, L, F, M, rfl, hB, .refl _, rfl⟩
  | d :: ds, z, x, L, F, M, hB, hz, hl, hs => by
    have hL : L ≠ [] := by rintro rfl; simp at hl
    rw [List.length_cons] at hz hl
    obtain ⟨v, hv, M1, e1, hB1⟩ := h z (.d d) L F M hB (by omega) hL (by omega) (by omega)
    have el := erase_len L v hv
    obtain ⟨x', L', F', M', e2, hB2, hp, hf⟩ := draw_loop h hg ds (z + 1) (.d d) (L.eraseIdx v) (F ++ [L[v]]) M1 hB1 (by omega) (by omega) (by rw [List.length_append, List.length_singleton]; omega)
    refine ⟨x', L', F', M', ?_, ?_, ?_, ?_⟩
    · rw [loopF_c, hg, Option.bind_some, e1]
      simpa using e2
    · rw [List.length_cons, show z + (ds.length + 1) = z + 1 + ds.length by omega]; exact hB2
    · refine hp.trans ?_
      rw [List.append_assoc]
      exact List.Perm.append_left F (erase_perm L v hv)
    · rw [hf, List.length_append, List.length_singleton, List.length_cons]; omega
def spotsSt (most : Int) (many : Int) (x : Sl) (L F : List Nat) (M : List MO) : SE := ⟨[.d (.ptr 0), .d (.int most), .d (.int many), x, .own (.lst (L.map chD)), .own (.lst (F.map chD))], M⟩
end KM

set_option maxHeartbeats 4000000
namespace KM
open PySem PySem.Spec PyProof.Rows L2 KD
/-! ### ties -/
@[simp] theorem subD_i {i j : Int} : subD (.int i) (.int j) = some (.d (.int (i - j))) := id rfl
def str2 (a b : Nat) : Str := ⟨#[a, b]⟩
theorem chS_add (a b : Nat) : chS a ++ chS b = str2 a b := rfl
theorem chS_len (a : Nat) : (chS a).length = 1 := rfl
theorem addD_ch (a b : Nat) : addD (.str (chS a)) (.str (chS b)) = some (.d (.str (str2 a b))) := addD_s (fitE (by rw [chS_len, chS_len]; decide))
def pairS (cs : List Nat) (p : Nat × Nat) : Str := str2 (cs.getD p.1 0) (cs.getD p.2 0)
def LexS (ps : List (Nat × Nat)) : Prop := ps.Pairwise fun p q => p.1 < q.1 ∨ (p.1 = q.1 ∧ p.2 < q.2)
def netSt (most way : Int) (cs : List Nat) (xi xj : Sl) (ps : List (Nat × Nat)) (M : List MO) : SE := ⟨[.d (.ptr 0), .d (.int most), .d (.tup (cs.map chD)), xi, .d (.int way), .own (.lst ((ps.map (pairS cs)).map .str)), xj], M⟩
theorem lexS_snoc {ps : List (Nat × Nat)} {i j : Nat} (h : LexS ps) (q : ∀ p ∈ ps, p.1 < i ∨ (p.1 = i ∧ p.2 < j)) : LexS (ps ++ [(i, j)]) := by
  unfold LexS
  rw [List.pairwise_append]
  exact ⟨h, List.pairwise_singleton _ _, fun a ha b hb => by rw [List.mem_singleton.mp hb]; exact q a ha⟩
structure Net (cs : List Nat) (ps : List (Nat × Nat)) : Prop where
  nd : cs.Nodup
  pos : 0 < cs.length
  le : cs.length ≤ 6
  let_ : ∀ c ∈ cs, c ∈ letters
  lex : LexS ps
  ok : ∀ p ∈ ps, p.1 < p.2 ∧ p.2 < cs.length
def netD (cs : List Nat) (ps : List (Nat × Nat)) : D := .tup [.tup (cs.map chD), .tup ((ps.map (pairS cs)).map .str)]
end KM

set_option maxHeartbeats 4000000
namespace KD
open PySem PySem.Spec PyProof.Rows L2
@[simp] theorem eIsi_s {tab : Kd → Option Bool} {fe : EM} {ε : SE} : eIsi tab fe ε = (fzE fe ε).bind fun r => (r.1.res r.2).bind fun d => (kindD r.2 d).bind fun kd => (tab kd).map fun b => (.d (.bl b), r.2) := id rfl
@[simp] theorem kindD_str {ε : SE} {s : Str} : kindD ε (.str s) = some (.ty "str") := id rfl
@[simp] theorem kindD_tup {ε : SE} {s : List D} : kindD ε (.tup s) = some (.ty "tuple") := id rfl
@[simp] theorem kindD_lst {ε : SE} {s : List D} : kindD ε (.lst s) = some (.ty "list") := id rfl
@[simp] theorem kindD_ins {ε : SE} {c : Nat} {ns : List Str} {s : List D} : kindD ε (.ins c ns s) = some (.cl c) := id rfl
@[simp] theorem kindD_int {ε : SE} {s : Int} : kindD ε (.int s) = some (.ty "int") := id rfl
@[simp] theorem kindD_non {ε : SE} : kindD ε .non = some (.ty "NoneType") := id rfl
@[simp] theorem tab_ss : tabT "str" (.ty "str") = some true := by decide +kernel
@[simp] theorem tab_tt : tabT "tuple" (.ty "tuple") = some true := by decide +kernel
@[simp] theorem compL_n {g : GM} {tt : BM} {te : EM} {vs : List Nat} {ε : SE} : compL g tt te vs [] ε = some ([], ε) := id rfl
theorem compL_c {g : GM} {tt : BM} {te : EM} {vs : List Nat} {d : D} {ds : List D} {ε : SE} : compL g tt te vs (d :: ds) ε = (g d (wipeS ε vs)).bind fun ε1 => (tt ε1).bind fun r => if r.1 = true then (escE te r.2).bind fun y => (compL g tt te vs ds y.2).map fun q => (y.1 :: q.1, q.2) else compL g tt te vs ds r.2 := id rfl
@[simp] theorem blsD_n : blsD [] = some [] := id rfl
@[simp] theorem blsD_c {b : Bool} {l : List D} : blsD (.bl b :: l) = (blsD l).map fun r => b :: r := id rfl
@[simp] theorem isTupD_t {l : List D} : isTupD (.tup l) = true := id rfl
theorem strsD_of : ∀ ts : List Str, strsD (ts.map .str) = some ts
  | [] => rfl
  | t :: ts => by
    show ((strsD (ts.map .str)).map fun l => t :: l) = _
    rw [strsD_of ts]; rfl
theorem findIdx_nodup : ∀ (cs : List Nat) (i : Nat) (h : i < cs.length), cs.Nodup → (cs.map chS).findIdx? (· == chS cs[i]) = some i
  | c :: cs, 0, _, _ => by
    rw [List.map_cons, List.findIdx?_cons]
    simp
  | c :: cs, i + 1, h, hn => by
    rw [List.map_cons, List.findIdx?_cons]
    have hi : i < cs.length := by simpa using h
    have hne : ¬ (chS c = chS ((c :: cs)[i + 1])) := fun e => by
      have e' := chS_inj e
      have : c ∈ cs := by rw [e']; simpa using List.getElem_mem hi
      exact (List.nodup_cons.mp hn).1 this
    have hb : (chS c == chS ((c :: cs)[i + 1])) = false := by
      cases q : (chS c == chS ((c :: cs)[i + 1])) with
      | false => rfl
      | true => exact absurd (by simpa using q) hne
    rw [hb]
    have ih := findIdx_nodup cs i hi (List.nodup_cons.mp hn).2
    simpa using ih
theorem tixD_of {cs : List Nat} {i : Nat} (h : i < cs.length) (hn : cs.Nodup) : tixD (.tup (cs.map chD)) [chD cs[i]] = some (.d (.int (i : Int))) := by
  show ((strsD (cs.map chD)).bind fun ss => (ss.findIdx? (· == chS cs[i])).map fun j => Val.d (.int (j : Nat))) = _
  rw [map_chD, strsD_of, Option.bind_some, findIdx_nodup cs i h hn]
  rfl
theorem lexLe2 {a b c d : Int} (h : c < a ∨ (c = a ∧ d < b)) : lexLe [a, b] [c, d] = false := by
  have e : lexLe [a, b] [c, d] = if decide (a = c) = true then (if decide (b = d) = true then true else decide (b ≤ d)) else decide (a ≤ c) := rfl
  rw [e]
  rcases h with h | ⟨rfl, h⟩
  · rw [if_neg (by simp; omega)]
    exact decide_eq_false (by omega)
  · rw [if_pos (by simp), if_neg (by simp; omega)]
    exact decide_eq_false (by omega)
theorem plainL_strs : ∀ ts : List Str, plainL (ts.map D.str) = true
  | [] => rfl
  | t :: ts => plainL_strs ts
theorem depthAll_strs : ∀ ts : List Str, PyData.depthAll (toPyL (ts.map D.str)) = 0
  | [] => rfl
  | t :: ts => by
    show max (PyData.depth (.str t)) (PyData.depthAll (toPyL (ts.map D.str))) = 0
    rw [depthAll_strs ts]
    rfl
theorem okD_strs (ts : List Str) : okD (.tup (ts.map D.str)) = true := by
  unfold okD
  rw [Bool.and_eq_true]
  refine ⟨plainL_strs ts, decide_eq_true ?_⟩
  show PyData.depthAll (toPyL (ts.map D.str)) + 1 ≤ 64
  rw [depthAll_strs]
  decide
theorem eqD_tupE {ts : List Str} (h : ts ≠ []) : eqD (.tup (ts.map D.str)) (.tup []) = some (.d (.bl false)) := by
  cases ts with
  | nil => exact absurd rfl h
  | cons t ts =>
    unfold eqD
    rw [okD_strs, show okD (.tup []) = true from okD_strs []]
    rfl
def fldO (c : Nat) (f : Str) (x : D) (v : Val) (ε : SE) : Option MO → Option Out
  | some (.ins c' ns ds) => if c' = c ∧ ns.length < 1000 ∧ ds.length = ns.length then some (.nx (put ε (.ins c' (putFD f x ns ds).1 (putFD f x ns ds).2) v)) else none
  | _ => none
@[simp] theorem fldO_s {c : Nat} {f : Str} {x : D} {v : Val} {ε : SE} {ns : List Str} {ds : List D} (h : ns.length < 1000 ∧ ds.length = ns.length) : fldO c f x v ε (some (.ins c ns ds)) = some (.nx (put ε (.ins c (putFD f x ns ds).1 (putFD f x ns ds).2) v)) := if_pos ⟨rfl, h⟩
@[simp] theorem sFldD_s {c : Nat} {f : Str} {fo fe : EM} {ε : SE} : sFldD c f fo fe ε = (escE fe ε).bind fun re => (fzE fo re.2).bind fun ro => fldO c f re.1 ro.1 ro.2 (tgt ro.2 ro.1) := by
  unfold sFldD
  refine congrArg _ (funext fun r => congrArg _ (funext fun d => ?_))
  unfold fldO
  split <;> simp_all
end KD
namespace KM
open PySem PySem.Spec PyProof.Rows L2 KD
/-! ### webs -/
theorem letters_in : ∀ c ∈ letters, inD (chD c) (.str ("abcdefghijklmnopqrstuvwxyz" : Str)) = some true := by decide +kernel
theorem is_letter_spec {c : Nat} {M : List MO} (h : c ∈ letters) : f_is_letter [chD c] M = some (.d (.bl true), M) := by
  have e := letters_in c h
  rw [chD_eq] at e
  unfold f_is_letter m_is_letter
  rw [chD_eq]
  simp [slots0, chS_len, e]
theorem enum_map {cs : List Nat} {i : Nat} {d : D} (h : (enumD (cs.map chD))[i]? = some d) : ∃ hi : i < cs.length, d = .pair [.int (i : Int), chD cs[i]] := by
  obtain ⟨x, h1, rfl⟩ := enumD_get h
  rw [List.getElem?_map] at h1
  obtain ⟨c, hc, rfl⟩ := Option.map_eq_some_iff.mp h1
  obtain ⟨hi, e⟩ := List.getElem?_eq_some_iff.mp hc
  exact ⟨hi, by rw [e]⟩
theorem not_mem_take {cs : List Nat} (hn : cs.Nodup) {i : Nat} (h : i < cs.length) : cs[i] ∉ cs.take i := fun hm => by
  obtain ⟨j, hj, e⟩ := List.mem_iff_getElem.mp hm
  rw [List.length_take] at hj
  rw [List.getElem_take] at e
  exact List.pairwise_iff_getElem.mp hn j i (by omega) h (by omega) e
theorem cut_take {cs : List Nat} {i : Nat} : cutD (cs.map chD) none (some (i : Int)) = (cs.take i).map chD := by
  rw [cutD_to (by omega), Int.toNat_natCast, List.map_take]
theorem wrong_place_spec {cs : List Nat} {M : List MO} (hn : cs.Nodup) (h6 : cs.length ≤ 6) (hl : ∀ c ∈ cs, c ∈ letters) : f_wrong_place [.tup (cs.map chD)] M = some (.d .non, M) := by
  unfold f_wrong_place m_wrong_place
  obtain ⟨ε', e, x1, x2, rfl⟩ := loopF_inv (g := gT 2 (gsCons (gN 1) (gsCons (gN 2) gsNil))) (body := sIf (orB (eB (eOp eqD (eVar 1) (eC (.int 6)))) (orB (notB (truB (eCall f_is_letter [] (aCons (eVar 2) aNil)))) (eB (eOp inV1 (eVar 2) (eSlice (eVar 0) oNone (oSome (eVar 1))))))) (sRet (eVar 1)) sNil)
    (fun _ ε => ∃ x1 x2 : Sl, ε = ⟨[.d (.tup (cs.map chD)), x1, x2], M⟩) (enumD (cs.map chD)) 0 ⟨[.d (.tup (cs.map chD)), .no, .no], M⟩ ⟨_, _, rfl⟩ (fun i ε d hd ⟨x1, x2, e⟩ => by
      subst e
      obtain ⟨hi, rfl⟩ := enum_map hd
      refine ⟨⟨[.d (.tup (cs.map chD)), .d (.int (i : Int)), .d (chD cs[i])], M⟩, ⟨[.d (.tup (cs.map chD)), .d (.int (i : Int)), .d (chD cs[i])], M⟩, by simp, .inl ?_, _, _, rfl⟩
      have e1 : f_is_letter [.str (chS cs[i])] M = some (.d (.bl true), M) := is_letter_spec (hl _ (List.getElem_mem hi))
      have e2 : inD (.str (chS cs[i])) (.tup ((cs.map chD).take i)) = some false := by
        rw [← chD_eq, ← List.map_take, inD_chs]
        exact congrArg some (decide_eq_false (not_mem_take hn hi))
      have e3 : ¬ ((i : Int) = 6) := by omega
      simp [chD_eq, e1, e2, e3, cut_take])
  simp [slots0, List.replicate, e]
theorem map_chD_ne {cs : List Nat} (h : 0 < cs.length) : cs.map chS ≠ [] := by
  cases cs with
  | nil => cases h
  | cons _ _ => simp
theorem check_places_spec {cs : List Nat} {M : List MO} (hn : cs.Nodup) (h0 : 0 < cs.length) (h6 : cs.length ≤ 6) (hl : ∀ c ∈ cs, c ∈ letters) : f_check_places [.tup (cs.map chD)] M = some (.d .non, M) := by
  have e1 := wrong_place_spec (M := M) hn h6 hl
  have e2 : eqD (.tup (cs.map chD)) (.tup []) = some (.d (.bl false)) := by rw [map_chD]; exact eqD_tupE (map_chD_ne h0)
  unfold f_check_places m_check_places
  simp [slots0, List.replicate, e1, e2]
theorem rank_spec {cs : List Nat} {M : List MO} {i j : Nat} (hn : cs.Nodup) (hi : i < cs.length) (hj : j < cs.length) : f_rank [.str (str2 cs[i] cs[j]), .tup (cs.map chD)] M = some (.d (.tup [.int (i : Int), .int (j : Int)]), M) := by
  have e1 := tixD_of hi hn
  have e2 := tixD_of hj hn
  rw [chD_eq] at e1 e2
  have a0 : atI (str2 cs[i] cs[j]).cps.toList 0 = some cs[i] := rfl
  have a1 : atI (str2 cs[i] cs[j]).cps.toList 1 = some cs[j] := rfl
  unfold f_rank m_rank
  simp [slots0, a0, a1, chD_eq, e1, e2, -Array.getElem?_toList]
theorem str2_len (a b : Nat) : (str2 a b).length = 2 := rfl
theorem is_tie_spec {cs : List Nat} {M : List MO} {i j : Nat} (hn : cs.Nodup) (hi : i < cs.length) (hj : j < cs.length) (hij : i < j) : f_is_tie [.str (str2 cs[i] cs[j]), .tup (cs.map chD)] M = some (.d (.bl true), M) := by
  have e1 := rank_spec (M := M) hn hi hj
  have sq : (str2 cs[i] cs[j]).cps.toList.map chD = [chD cs[i], chD cs[j]] := rfl
  have m1 : inD (.str (chS cs[i])) (.tup (cs.map chD)) = some true := by rw [← chD_eq, inD_chs]; exact congrArg some (decide_eq_true (List.getElem_mem hi))
  have m2 : inD (.str (chS cs[j])) (.tup (cs.map chD)) = some true := by rw [← chD_eq, inD_chs]; exact congrArg some (decide_eq_true (List.getElem_mem hj))
  have e3 : ((i : Int) < (j : Int)) := by omega
  unfold f_is_tie m_is_tie
  simp [slots0, List.replicate, str2_len, seqD_s, sq, compL_c, chD_eq, m1, m2, e1, e3, hij]
theorem pairS_eq {cs : List Nat} {p : Nat × Nat} (h1 : p.1 < cs.length) (h2 : p.2 < cs.length) : pairS cs p = str2 cs[p.1] cs[p.2] := by
  unfold pairS
  simp [List.getElem?_eq_getElem h1, List.getElem?_eq_getElem h2]
theorem enum_ties {cs : List Nat} {ps : List (Nat × Nat)} {i : Nat} {d : D} (h : (enumD ((ps.map (pairS cs)).map .str))[i]? = some d) : ∃ hi : i < ps.length, d = .pair [.int (i : Int), .str (pairS cs ps[i])] := by
  obtain ⟨x, h1, rfl⟩ := enumD_get h
  rw [List.map_map, List.getElem?_map] at h1
  obtain ⟨c, hc, rfl⟩ := Option.map_eq_some_iff.mp h1
  obtain ⟨hi, e⟩ := List.getElem?_eq_some_iff.mp hc
  exact ⟨hi, by rw [e]; rfl⟩
@[simp] theorem leTD_2 {a b c d : Int} : leTD (.tup [.int a, .int b]) (.tup [.int c, .int d]) = some (.d (.bl (lexLe [a, b] [c, d]))) := id rfl
theorem wrong_tie_spec {cs : List Nat} {ps : List (Nat × Nat)} {M : List MO} (N : Net cs ps) : f_wrong_tie [.tup ((ps.map (pairS cs)).map .str), .tup (cs.map chD)] M = some (.d .non, M) := by
  unfold f_wrong_tie m_wrong_tie
  obtain ⟨ε', e, x1, x2, rfl⟩ := loopF_inv (g := gT 2 (gsCons (gN 2) (gsCons (gN 3) gsNil))) (body := sSeq (sIf (notB (truB (eCall f_is_tie [] (aCons (eVar 3) (aCons (eVar 1) aNil))))) (sRet (eVar 2)) sNil)
      (sIf (andB (eB (eOp gtD (eVar 2) (eC (.int 0)))) (eB (eOp leTD (eCall f_rank [] (aCons (eVar 3) (aCons (eVar 1) aNil))) (eCall f_rank [] (aCons (eOp ixD (eVar 0) (eOp subD (eVar 2) (eC (.int 1)))) (aCons (eVar 1) aNil)))))) (sRet (eVar 2)) sNil))
    (fun _ ε => ∃ x1 x2 : Sl, ε = ⟨[.d (.tup ((ps.map (pairS cs)).map .str)), .d (.tup (cs.map chD)), x1, x2], M⟩) (enumD ((ps.map (pairS cs)).map .str)) 0 ⟨[.d (.tup ((ps.map (pairS cs)).map .str)), .d (.tup (cs.map chD)), .no, .no], M⟩ ⟨_, _, rfl⟩ (fun i ε d hd ⟨x1, x2, e⟩ => by
      subst e
      obtain ⟨hi, rfl⟩ := enum_ties hd
      obtain ⟨o1, o2⟩ := N.ok _ (List.getElem_mem hi)
      have o3 : ps[i].1 < cs.length := by omega
      refine ⟨⟨[.d (.tup ((ps.map (pairS cs)).map .str)), .d (.tup (cs.map chD)), .d (.int (i : Int)), .d (.str (pairS cs ps[i]))], M⟩, ⟨[.d (.tup ((ps.map (pairS cs)).map .str)), .d (.tup (cs.map chD)), .d (.int (i : Int)), .d (.str (pairS cs ps[i]))], M⟩, by simp, .inl ?_, _, _, rfl⟩
      have e1 := is_tie_spec (M := M) N.nd o3 o2 o1
      have e2 := rank_spec (M := M) N.nd o3 o2
      rw [← pairS_eq o3 o2] at e1 e2
      cases i with
      | zero =>
        simp [e1, -List.map_map]
      | succ k =>
        have hk : k < ps.length := by omega
        obtain ⟨q1, q2⟩ := N.ok _ (List.getElem_mem hk)
        have q3 : ps[k].1 < cs.length := by omega
        have e3 := rank_spec (M := M) N.nd q3 q2
        rw [← pairS_eq q3 q2] at e3
        have lx := List.pairwise_iff_getElem.mp N.lex k (k + 1) hk hi (by omega)
        have e4 : lexLe [(ps[k + 1].1 : Int), (ps[k + 1].2 : Int)] [(ps[k].1 : Int), (ps[k].2 : Int)] = false := lexLe2 (by omega)
        have e5 : atI ((ps.map (pairS cs)).map D.str) (((k + 1 : Nat) : Int) - 1) = some (.str (pairS cs ps[k])) := by
          rw [show ((k + 1 : Nat) : Int) - 1 = (k : Int) by omega, atI_nat' (by simpa using hk), List.map_map, List.getElem?_map, List.getElem?_eq_getElem hk]
          rfl
        have e6 : (0 : Int) < ((k + 1 : Nat) : Int) := by omega
        simp only [sSeq_s, sIf_s, notB_s, truB_s, eCall_s, aCons_s, fzE_s, eVar_s, nth_0, nth_1, nth_2, nth_3, varR_d, Option.map_some, Option.bind_some, fzv_d, aNil_s, escL_c, escL_n, escV_d, List.append_nil, e1, if_true, res_bl, truD_bl, Bool.not_true, Bool.false_eq_true, if_false, sNil_s, seqR_nx, andB_s, eB_s, eOp_s, eC_s, res_int, gtD_i, toB_b, e6, decide_true, subD_i, res_tup, ixD_t, e5, e2, e3, leTD_2, e4])
  have e' := e
  simp only [List.map_map] at e'
  simp [slots0, List.replicate, e']
theorem check_ties_spec {cs : List Nat} {ps : List (Nat × Nat)} {M : List MO} (N : Net cs ps) : f_check_ties [.tup ((ps.map (pairS cs)).map .str), .tup (cs.map chD)] M = some (.d .non, M) := by
  have e1 := wrong_tie_spec (M := M) N
  simp only [List.map_map] at e1
  unfold f_check_ties m_check_ties
  simp [slots0, List.replicate, e1]
def webD (cs : List Nat) (ts : List Str) : D := .ins 0 ["places", "ties"] [.tup (cs.map chD), .tup (ts.map .str)]
theorem web_init_spec {cs : List Nat} {ps : List (Nat × Nat)} {m : MO} (N : Net cs ps) : f_Web_init [.ptr 1, .tup (cs.map chD), .tup ((ps.map (pairS cs)).map .str)] [m, .ins 0 [] []] = some (.d .non, [m, .ins 0 ["places", "ties"] [.tup (cs.map chD), .tup ((ps.map (pairS cs)).map .str)]]) := by
  have e1 := check_places_spec (M := [m, .ins 0 [] []]) N.nd N.pos N.le N.let_
  have e2 := check_ties_spec (M := [m, .ins 0 [] []]) N
  simp only [List.map_map] at e2
  have p1 : ∀ x : D, putFD "places" x [] [] = ((["places"] : List Str), [x]) := fun x => rfl
  have p2 : ∀ x y : D, putFD "ties" y (["places"] : List Str) [x] = ((["places", "ties"] : List Str), [x, y]) := fun x y => by
    unfold putFD
    rw [show (["places"] : List Str).findIdx? (fun z => z == ("ties" : Str)) = none from by decide +kernel]
    rfl
  unfold f_Web_init m_Web_init
  simp [slots0, e1, e2, p1, p2]
end KM

set_option maxHeartbeats 4000000
namespace KD
open PySem PySem.Spec PyProof.Rows L2
@[simp] theorem eKw_s {n m : Nat} {is : List Nat} {fm : FM} {dd : List D} {fa fk : AM} {ε : SE} : eKw n m is fm dd fa fk ε = (fa ε).bind fun r => (fk r.2).bind fun q => if r.1.length = n ∧ q.1.length = m then
  (escL q.2 (r.1 ++ q.1)).bind fun z => (fm (pick is (z.1 ++ dd)) z.2.M).bind fun o => if o.2.length = z.2.M.length then some (o.1, { z.2 with M := o.2 }) else none else none := id rfl
theorem noPL_strs (n : Nat) : ∀ ts : List Str, noPL n (ts.map D.str) = true
  | [] => rfl
  | t :: ts => noPL_strs n ts
theorem noPL_chs (n : Nat) (cs : List Nat) : noPL n (cs.map chD) = true := by rw [map_chD]; exact noPL_strs n _
end KD
namespace KM
open PySem PySem.Spec PyProof.Rows L2 KD
/-! what is joined, depths: the program -/
def jn (ts : List Str) (a b : Nat) : Bool := decide (str2 a b ∈ ts) || decide (str2 b a ∈ ts)
theorem jn_comm (ts : List Str) (a b : Nat) : jn ts a b = jn ts b a := Bool.or_comm _ _
theorem inD_str2 {a b : Nat} {ts : List Str} : inD (.str (str2 a b)) (.tup (ts.map .str)) = some (decide (str2 a b ∈ ts)) := inD_strs
theorem cons_chD (f : Nat → Bool) (cs : List Nat) (p : D → Bool) (h : ∀ c, p (chD c) = f c) : (cs.map chD).filter p = (cs.filter f).map chD := by
  induction cs with
  | nil => rfl
  | cons c cs ih =>
    rw [List.map_cons, List.filter_cons, h c, ih, List.filter_cons]
    cases f c <;> rfl
def unCh : D → Nat
  | .str s => s.cps.getD 0 0
  | _ => 0
theorem unCh_ch (c : Nat) : unCh (chD c) = c := rfl
/-- the depth of an array, by what is ahead of each -/
def dep (J : Nat → Nat → Bool) (arr : List Nat) : Nat → Int
  | 0 => 0
  | k + 1 => if (((arr.take k).filter fun a => J a (arr.getD k 0)).length : Int) > dep J arr k then ((arr.take k).filter fun a => J a (arr.getD k 0)).length else dep J arr k
theorem filt_eq {cs : List Nat} {ts : List Str} {b : Nat} {pre : List Nat} (h : ∀ a ∈ pre, a ∈ cs) : (pre.filter fun a => decide (a ∈ cs.filter fun a => jn ts b a)) = pre.filter fun a => jn ts a b := by
  refine List.filter_congr fun a ha => ?_
  have hc := h a ha
  rw [jn_comm]
  cases q : jn ts b a <;> simp [hc, q]
theorem dep_bd (J : Nat → Nat → Bool) (arr : List Nat) : ∀ k, k ≤ arr.length → 0 ≤ dep J arr k ∧ dep J arr k ≤ k
  | 0, _ => ⟨Int.le_refl _, Int.le_refl _⟩
  | k + 1, h => by
    obtain ⟨h1, h2⟩ := dep_bd J arr k (by omega)
    have h3 : (((arr.take k).filter fun a => J a (arr.getD k 0)).length : Int) ≤ k := by
      have q1 := List.length_filter_le (fun a => J a (arr.getD k 0)) (arr.take k)
      have q2 : (arr.take k).length ≤ k := by rw [List.length_take]; omega
      omega
    unfold dep
    split <;> omega
end KM

set_option maxHeartbeats 4000000
/-! the text of a web, written and read -/
namespace KM
open PySem PySem.Spec PyProof.Rows L2 KD
/-- plain signs, at most n of them -/
def Gd (n : Nat) (z : Str) : Prop := (∀ c ∈ TL.tl z, c < 128) ∧ z.length ≤ n
theorem Gd.ok {n : Nat} {z : Str} (h : Gd n z) (hn : n ≤ 16777216) : sOk z = true := by
  unfold sOk
  rw [Bool.and_eq_true]
  refine ⟨?_, decide_eq_true ?_⟩
  · rw [← Array.all_toList]
    exact List.all_eq_true.mpr fun c q => decide_eq_true (by have := h.1 c q; omega)
  · have := h.2
    show z.length ≤ _
    omega
theorem Gd.app {n m : Nat} {a b : Str} (h : Gd n a) (g : Gd m b) : Gd (n + m) (a ++ b) := by
  refine ⟨fun c hc => ?_, ?_⟩
  · rw [TL.tl_append] at hc
    exact (List.mem_append.mp hc).elim (h.1 c) (g.1 c)
  · rw [TL.len_tl, TL.tl_append, List.length_append, ← TL.len_tl, ← TL.len_tl]
    have := h.2; have := g.2; omega
theorem Gd.mono {n m : Nat} {a : Str} (h : Gd n a) (q : n ≤ m) : Gd m a := ⟨h.1, Nat.le_trans h.2 q⟩
theorem joinL_mem {S : List Nat} : ∀ {parts : List (List Nat)} {c : Nat}, c ∈ TL.joinL S parts → c ∈ S ∨ ∃ p ∈ parts, c ∈ p
  | [], c, h => by cases h
  | [p], c, h => .inr ⟨p, List.mem_cons_self, h⟩
  | p :: q :: r, c, h => by
    have h' : c ∈ p ++ (S ++ TL.joinL S (q :: r)) := h
    rcases List.mem_append.mp h' with h | h
    · exact .inr ⟨p, List.mem_cons_self, h⟩
    · rcases List.mem_append.mp h with h | h
      · exact .inl h
      · exact (joinL_mem h).imp id fun ⟨x, hx, hc⟩ => ⟨x, List.mem_cons_of_mem _ hx, hc⟩
theorem joinL_len {S : List Nat} {n : Nat} : ∀ {parts : List (List Nat)}, (∀ p ∈ parts, p.length ≤ n) → (TL.joinL S parts).length ≤ parts.length * (n + S.length)
  | [], _ => by simp [TL.joinL]
  | [p], h => by
    have := h p List.mem_cons_self
    show p.length ≤ 1 * (n + S.length)
    omega
  | p :: q :: r, h => by
    have h1 := h p List.mem_cons_self
    have h2 := joinL_len (S := S) (parts := q :: r) fun x hx => h x (List.mem_cons_of_mem _ hx)
    show (p ++ (S ++ TL.joinL S (q :: r))).length ≤ (r.length + 1 + 1) * (n + S.length)
    rw [List.length_append, List.length_append, Nat.succ_mul]
    have h3 : (q :: r).length = r.length + 1 := rfl
    rw [h3] at h2
    omega
theorem tl_jn (y : Str) (parts : List Str) : TL.tl (Txt.join y parts) = TL.joinL (TL.tl y) (parts.map TL.tl) := by rw [TL.join_eq, TL.tl_join]
theorem Gd.join {n m : Nat} {y : Str} {parts : List Str} (hy : Gd m y) (h : ∀ p ∈ parts, Gd n p) : Gd (parts.length * (n + m)) (Txt.join y parts) := by
  refine ⟨fun c hc => ?_, ?_⟩
  · rw [tl_jn] at hc
    rcases joinL_mem hc with q | ⟨p, hp, q⟩
    · exact hy.1 c q
    · obtain ⟨z, hz, rfl⟩ := List.mem_map.mp hp
      exact (h z hz).1 c q
  · rw [TL.len_tl, tl_jn]
    have e := joinL_len (S := TL.tl y) (n := n) (parts := parts.map TL.tl) fun p hp => by
      obtain ⟨z, hz, rfl⟩ := List.mem_map.mp hp
      rw [← TL.len_tl]; exact (h z hz).2
    rw [List.length_map, ← TL.len_tl] at e
    exact Nat.le_trans e (Nat.mul_le_mul_left _ (by have := hy.2; omega))
theorem sum_le_mul {n : Nat} : ∀ {l : List Nat}, (∀ x ∈ l, x ≤ n) → l.sum ≤ l.length * n
  | [], _ => by simp
  | a :: l, h => by
    have h1 := h a List.mem_cons_self
    have h2 := sum_le_mul (l := l) fun x hx => h x (List.mem_cons_of_mem _ hx)
    rw [List.sum_cons, List.length_cons, Nat.succ_mul]
    omega
theorem join_core {n m : Nat} {y : Str} {parts : List Str} (hy : Gd m y) (h : ∀ p ∈ parts, Gd n p) (hz : parts.length * (n + m) ≤ 16777216) :
    (parts.map (·.length)).sum + parts.length * y.length ≤ 16777216 ∧ sOk (Txt.join y parts) = true := by
  refine ⟨?_, (Gd.join hy h).ok hz⟩
  have e := sum_le_mul (n := n) (l := parts.map (·.length)) fun x hx => by
    obtain ⟨z, hz, rfl⟩ := List.mem_map.mp hx
    exact (h z hz).2
  rw [List.length_map] at e
  have e2 := Nat.mul_le_mul_left parts.length hy.2
  rw [Nat.mul_add] at hz
  omega
theorem joinD_lst {n m : Nat} {y : Str} {parts : List Str} (hy : Gd m y) (h : ∀ p ∈ parts, Gd n p) (hz : parts.length * (n + m) ≤ 16777216) : joinD (.str y) [.lst (parts.map .str)] = some (.d (.str (Txt.join y parts))) := by
  show ((strsD (parts.map .str)).bind fun ys => if (ys.map (·.length)).sum + ys.length * y.length ≤ 16777216 ∧ sOk (Txt.join y ys) = true then some (Val.d (.str (Txt.join y ys))) else none) = _
  rw [strsD_of, Option.bind_some, if_pos (join_core hy h hz)]
theorem joinD_tup {n m : Nat} {y : Str} {parts : List Str} (hy : Gd m y) (h : ∀ p ∈ parts, Gd n p) (hz : parts.length * (n + m) ≤ 16777216) : joinD (.str y) [.tup (parts.map .str)] = some (.d (.str (Txt.join y parts))) := by
  show ((strsD (parts.map .str)).bind fun ys => if (ys.map (·.length)).sum + ys.length * y.length ≤ 16777216 ∧ sOk (Txt.join y ys) = true then some (Val.d (.str (Txt.join y ys))) else none) = _
  rw [strsD_of, Option.bind_some, if_pos (join_core hy h hz)]

/-! ### the text -/
def row0 (P : List Str) : Str := ("places " : Str) ++ Txt.join ", " P
def row1 (T : List Str) : Str := ("ties " : Str) ++ (if T = [] then ("none" : Str) else Txt.join ", " T)
def wtx (P T : List Str) : Str := Txt.join "\n" [row0 P, row1 T]
/-- names as webs have them -/
structure Nms (P T : List Str) : Prop where
  pne : P ≠ []
  pl : ∀ p ∈ P, (∀ c ∈ TL.tl p, c ∈ letters) ∧ p.length = 1
  tl : ∀ t ∈ T, (∀ c ∈ TL.tl t, c ∈ letters) ∧ t.length = 2
  pn : P.length ≤ 1000
  tn : T.length ≤ 1000
theorem letters_lt : ∀ c ∈ letters, c < 128 ∧ c ≠ 10 ∧ c ≠ 44 := by decide +kernel
theorem Nms.gp {P T : List Str} (N : Nms P T) : ∀ p ∈ P, Gd 2 p := fun p hp => ⟨fun c hc => (letters_lt c ((N.pl p hp).1 c hc)).1, by have := (N.pl p hp).2; omega⟩
theorem Nms.gt {P T : List Str} (N : Nms P T) : ∀ p ∈ T, Gd 2 p := fun p hp => ⟨fun c hc => (letters_lt c ((N.tl p hp).1 c hc)).1, by have := (N.tl p hp).2; omega⟩
theorem gd_sep : Gd 2 (", " : Str) := ⟨by decide +kernel, by decide +kernel⟩
theorem gd_nl : Gd 1 ("\n" : Str) := ⟨by decide +kernel, by decide +kernel⟩
theorem gd_pl : Gd 7 ("places " : Str) := ⟨by decide +kernel, by decide +kernel⟩
theorem gd_ti : Gd 5 ("ties " : Str) := ⟨by decide +kernel, by decide +kernel⟩
theorem gd_no : Gd 4 ("none" : Str) := ⟨by decide +kernel, by decide +kernel⟩
theorem Nms.gj {P T : List Str} (N : Nms P T) : Gd 4000 (Txt.join ", " P) := (Gd.join gd_sep N.gp).mono (by have := N.pn; omega)
theorem Nms.gi {P T : List Str} (N : Nms P T) : Gd 4000 (if T = [] then ("none" : Str) else Txt.join ", " T) := by
  by_cases q : T = []
  · rw [if_pos q]; exact gd_no.mono (by omega)
  · rw [if_neg q]; exact (Gd.join gd_sep N.gt).mono (by have := N.tn; omega)
theorem Nms.g0 {P T : List Str} (N : Nms P T) : Gd 4010 (row0 P) := (gd_pl.app N.gj).mono (by omega)
theorem Nms.g1 {P T : List Str} (N : Nms P T) : Gd 4010 (row1 T) := (gd_ti.app N.gi).mono (by omega)
theorem Nms.grows {P T : List Str} (N : Nms P T) : ∀ p ∈ [row0 P, row1 T], Gd 4010 p := fun p hp => by
  rcases List.mem_cons.mp hp with rfl | hp
  · exact N.g0
  · rw [List.mem_singleton] at hp; subst hp; exact N.g1
theorem Nms.gw {P T : List Str} (N : Nms P T) : Gd 8022 (wtx P T) := (Gd.join gd_nl N.grows).mono (by simp)
theorem neD_tupE (T : List Str) : neD (.tup (T.map .str)) (.tup []) = some (.d (.bl (!decide (T = [])))) := Enc.str.tup.neD (by decide) T []
theorem web_text_spec {P T : List Str} {M : List MO} (N : Nms P T) : f_web_text [.tup (P.map .str), .tup (T.map .str)] M = some (.d (.str (wtx P T)), M) := by
  have j1 := joinD_tup (y := (", " : Str)) gd_sep N.gp (by have := N.pn; omega)
  have j2 := joinD_tup (y := (", " : Str)) gd_sep N.gt (by have := N.tn; omega)
  have j3 : joinD (.str ("\n" : Str)) [.lst [.str (row0 P), .str (row1 T)]] = some (.d (.str (wtx P T))) := joinD_lst (parts := [row0 P, row1 T]) gd_nl N.grows (by simp)
  have a1 : addD (.str ("places " : Str)) (.str (Txt.join ", " P)) = some (.d (.str (row0 P))) := addD_s (by have := N.gj.2; have := gd_pl.2; show _ ≤ 16777216; omega)
  have a2 : addD (.str ("ties " : Str)) (.str (if T = [] then ("none" : Str) else Txt.join ", " T)) = some (.d (.str (row1 T))) := addD_s (by have := N.gi.2; have := gd_ti.2; show _ ≤ 16777216; omega)
  have n1 := neD_tupE T
  by_cases q : T = []
  · subst q
    have n2 : neD (.tup []) (.tup []) = some (.d (.bl false)) := n1
    rw [if_pos rfl] at a2
    unfold f_web_text m_web_text
    simp [slots0, j1, n2, a1, a2, j3]
  · rw [decide_eq_false q] at n1
    rw [if_neg q] at a2
    unfold f_web_text m_web_text
    simp [slots0, j1, j2, n1, a1, a2, j3]
end KM
namespace KM
open PySem PySem.Spec PyProof.Rows L2 KD
theorem cut_app {a b : Str} {k : Nat} (h : (TL.tl a).length = k) : cutS (a ++ b) (some (k : Int)) none = b := by
  refine TL.ext_tl ?_
  have e : (TL.tl (a ++ b)) = TL.tl a ++ TL.tl b := TL.tl_append a b
  have hl : (a ++ b).length = k + (TL.tl b).length := by rw [TL.len_tl, e, List.length_append, h]
  show ((TL.tl (a ++ b)).drop (HT.sIx (a ++ b).length 0 (some (k : Int)))).take (HT.sIx (a ++ b).length (a ++ b).length none - HT.sIx (a ++ b).length 0 (some (k : Int))) = TL.tl b
  rw [HT.sIx_none, sIx_int (by omega), Int.toNat_natCast, hl, Nat.min_eq_left (by omega), e, ← h, List.drop_left, List.take_of_length_le (by omega)]
theorem nl_row {P T : List Str} (N : Nms P T) : ∀ p ∈ [row0 P, row1 T], 10 ∉ TL.tl p := fun p hp => by
  have key : ∀ L : List Str, (∀ p ∈ L, ∀ c ∈ TL.tl p, c ∈ letters) → 10 ∉ TL.tl (Txt.join ", " L) := fun L h q => by
    rw [tl_jn] at q
    rcases joinL_mem q with q | ⟨p, hp, q⟩
    · revert q; decide +kernel
    · obtain ⟨z, hz, rfl⟩ := List.mem_map.mp hp
      exact (letters_lt 10 (h z hz 10 q)).2.1 rfl
  rcases List.mem_cons.mp hp with rfl | hp
  · intro q
    rw [show TL.tl (row0 P) = TL.tl ("places " : Str) ++ TL.tl (Txt.join ", " P) from TL.tl_append _ _] at q
    rcases List.mem_append.mp q with q | q
    · revert q; decide +kernel
    · exact key P (fun p hp => (N.pl p hp).1) q
  · rw [List.mem_singleton] at hp
    subst hp
    intro q
    rw [show TL.tl (row1 T) = TL.tl ("ties " : Str) ++ TL.tl (if T = [] then ("none" : Str) else Txt.join ", " T) from TL.tl_append _ _] at q
    rcases List.mem_append.mp q with q | q
    · revert q; decide +kernel
    · by_cases z : T = []
      · rw [if_pos z] at q; revert q; decide +kernel
      · rw [if_neg z] at q
        exact key T (fun p hp => (N.tl p hp).1) q
theorem split_rows {P T : List Str} (N : Nms P T) : splitD (.str (wtx P T)) [.str ("\n" : Str)] = some (.new (.lst [.str (row0 P), .str (row1 T)])) :=
  splitD_join (y := ("\n" : Str)) (s := 10) (S := []) (parts := [row0 P, row1 T]) (by decide +kernel) (by decide +kernel) (by simp) (nl_row N) (N.gw.ok (by omega)) (by have := N.gw.2; show (wtx P T).length + 2 ≤ _; omega)
theorem split_names {L : List Str} (hne : L ≠ []) (hn : L.length ≤ 1000) (h : ∀ p ∈ L, (∀ c ∈ TL.tl p, c ∈ letters) ∧ p.length ≤ 2) : splitD (.str (Txt.join ", " L)) [.str (", " : Str)] = some (.new (.lst (L.map D.str))) := by
  have g : Gd 4000 (Txt.join ", " L) := (Gd.join gd_sep (n := 2) fun p hp => ⟨fun c hc => (letters_lt c ((h p hp).1 c hc)).1, (h p hp).2⟩).mono (by omega)
  exact splitD_join (y := (", " : Str)) (s := 44) (S := [32]) (parts := L) (by decide +kernel) (by decide +kernel) hne (fun p hp q => (letters_lt 44 ((h p hp).1 44 q)).2.2 rfl) (g.ok (by omega)) (by have := g.2; omega)
theorem joinL_len2 {S : List Nat} : ∀ {parts : List (List Nat)}, (∀ p ∈ parts, p.length = 2) → S.length = 2 → parts ≠ [] → (TL.joinL S parts).length + 2 = 4 * parts.length
  | [p], h, hs, _ => by
    have := h p List.mem_cons_self
    show p.length + 2 = _
    simp only [List.length_cons, List.length_nil]; omega
  | p :: q :: r, h, hs, _ => by
    have h1 := h p List.mem_cons_self
    have h2 := joinL_len2 (S := S) (parts := q :: r) (fun x hx => h x (List.mem_cons_of_mem _ hx)) hs (by simp)
    show (p ++ (S ++ TL.joinL S (q :: r))).length + 2 = _
    rw [List.length_append, List.length_append]
    simp only [List.length_cons] at h2 ⊢
    omega
theorem row1_none {P T : List Str} (N : Nms P T) : (row1 T = ("ties none" : Str)) ↔ T = [] := by
  constructor
  · intro h
    refine Decidable.byContradiction fun q => ?_
    have e : TL.tl (row1 T) = TL.tl ("ties " : Str) ++ TL.tl (Txt.join ", " T) := by
      unfold row1
      rw [if_neg q]; exact TL.tl_append _ _
    rw [h] at e
    have e2 := congrArg List.length e
    rw [List.length_append, tl_jn] at e2
    have e3 := joinL_len2 (S := TL.tl (", " : Str)) (parts := T.map TL.tl) (fun p hp => by
      obtain ⟨z, hz, rfl⟩ := List.mem_map.mp hp
      rw [← TL.len_tl]; exact (N.tl z hz).2) (by decide +kernel) (by simpa using q)
    have e4 : (TL.tl ("ties none" : Str)).length = 9 := by decide +kernel
    have e5 : (TL.tl ("ties " : Str)).length = 5 := by decide +kernel
    rw [List.length_map] at e3
    omega
  · rintro rfl
    decide +kernel
theorem net_nms {cs : List Nat} {ps : List (Nat × Nat)} (N : Net cs ps) (hp : ps.length ≤ 1000) : Nms (cs.map chS) (ps.map (pairS cs)) := by
  refine ⟨fun q => ?_, fun p hp => ?_, fun t ht => ?_, by rw [List.length_map]; have := N.le; omega, by rw [List.length_map]; exact hp⟩
  · have := N.pos
    rw [List.map_eq_nil_iff] at q
    subst q; simp at this
  · obtain ⟨c, hc, rfl⟩ := List.mem_map.mp hp
    refine ⟨fun d hd => ?_, rfl⟩
    have : d = c := by simpa [TL.tl, chS] using hd
    rw [this]; exact N.let_ c hc
  · obtain ⟨p, hp, rfl⟩ := List.mem_map.mp ht
    obtain ⟨o1, o2⟩ := N.ok p hp
    rw [pairS_eq (by omega) o2]
    refine ⟨fun d hd => ?_, rfl⟩
    have : d = cs[p.1] ∨ d = cs[p.2] := by simpa [TL.tl, str2] using hd
    rcases this with e | e
    · rw [e]; exact N.let_ _ (List.getElem_mem _)
    · rw [e]; exact N.let_ _ (List.getElem_mem _)
theorem map_chS (cs : List Nat) : (cs.map chS).map D.str = cs.map chD := by rw [List.map_map]; rfl
def wtxN (cs : List Nat) (ps : List (Nat × Nat)) : Str := wtx (cs.map chS) (ps.map (pairS cs))
theorem web_in_spec {cs : List Nat} {ps : List (Nat × Nat)} {M : List MO} (N : Net cs ps) (hp : ps.length ≤ 1000) : f_web_in [.str (wtxN cs ps)] M = some (.d (.tup [.tup (cs.map chD), .tup ((ps.map (pairS cs)).map .str)]), M) := by
  have A := net_nms N hp
  have s0 := split_rows A
  have c0 : cutS (row0 (cs.map chS)) (some (7 : Int)) none = Txt.join ", " (cs.map chS) := cut_app (a := ("places " : Str)) (k := 7) (by decide +kernel)
  have s1 := split_names (L := cs.map chS) A.pne A.pn fun p hp => ⟨(A.pl p hp).1, by have := (A.pl p hp).2; omega⟩
  rw [map_chS] at s1
  have w1 := wrong_place_spec (M := M) N.nd N.le N.let_
  have w2 := wrong_tie_spec (M := M) N
  have w3 := web_text_spec (M := M) A
  rw [map_chS] at w3
  have q1 := row1_none A
  show f_web_in [.str (wtx (cs.map chS) (ps.map (pairS cs)))] M = some (.d (.tup [.tup (cs.map chD), .tup ((ps.map (pairS cs)).map .str)]), M)
  have s2 := fun q => split_names (L := ps.map (pairS cs)) q A.tn fun p hp => ⟨(A.tl p hp).1, by have := (A.tl p hp).2; omega⟩
  have a0 : ∀ a b : D, atI [a, b] 0 = some a := fun _ _ => rfl
  have a1 : ∀ a b : D, atI [a, b] 1 = some b := fun _ _ => rfl
  clear A
  generalize ps.map (pairS cs) = ts at *
  by_cases q : ts = []
  · subst q
    have r1 : row1 ([] : List Str) = ("ties none" : Str) := q1.mpr rfl
    rw [r1] at s0
    simp only [List.map_nil] at w2 w3 ⊢
    unfold f_web_in m_web_in
    simp [slots0, s0, c0, s1, w1, w2, w3, a0, a1]
  · have r1 : ¬ row1 ts = ("ties none" : Str) := fun z => q (q1.mp z)
    have c1 : cutS (row1 ts) (some (5 : Int)) none = Txt.join ", " ts := by
      unfold row1
      rw [if_neg q]
      exact cut_app (a := ("ties " : Str)) (k := 5) (by decide +kernel)
    have s3 := s2 q
    unfold f_web_in m_web_in
    simp [slots0, s0, c0, s1, c1, s3, w1, w2, w3, r1, a0, a1]
end KM

set_option maxHeartbeats 4000000
namespace KM
open PySem PySem.Spec PyProof.Rows L2 KD
/-! webs made in a law -/
theorem make_web {cs : List Nat} {ps : List (Nat × Nat)} {m : MO} {sl : List Sl} {fa : AM} (N : Net cs ps) (hm : noPM 1 m = true) (h : fa ⟨sl, [m]⟩ = some ([.d (.tup (cs.map chD)), .d (.tup ((ps.map (pairS cs)).map .str))], ⟨sl, [m]⟩)) :
    eMake 0 f_Web_init [] fa ⟨sl, [m]⟩ = some (.new (.ins 0 ["places", "ties"] [.tup (cs.map chD), .tup ((ps.map (pairS cs)).map .str)]), ⟨sl, [m]⟩) := by
  have n1 : noPL 1 [D.tup (cs.map chD), .tup ((ps.map (pairS cs)).map .str)] = true := by
    show (noPL 1 (cs.map chD) && (noPL 1 ((ps.map (pairS cs)).map D.str) && true)) = true
    rw [noPL_chs, noPL_strs]
    rfl
  have n2 : [m].all (noPM 1) = true := by
    show (noPM 1 m && true) = true
    rw [hm]
    rfl
  unfold eMake
  rw [h]
  simp only [Option.bind_some, escL_c, fzv_d, escV_d, escL_n, Option.map_some, List.append_nil, List.length_singleton]
  rw [if_pos ⟨n1, n2⟩]
  have e := web_init_spec (m := m) N
  simp only [List.cons_append, List.nil_append]
  rw [e, Option.bind_some, if_pos ⟨rfl, rfl, n2⟩]
  show (if 0 = 0 ∧ noPL 1 [D.tup (cs.map chD), .tup ((ps.map (pairS cs)).map .str)] = true then _ else none) = _
  rw [if_pos ⟨rfl, n1⟩]
  rfl
theorem Bag.no {z n : Nat} {m : MO} (h : Bag z [m]) : noPM n m = true := by
  obtain ⟨a, b, c, e, _⟩ := h
  cases e
  rfl
theorem Bag.one {z : Nat} {M : List MO} (h : Bag z M) : ∃ m, M = [m] := by
  obtain ⟨a, b, c, e, _⟩ := h
  exact ⟨_, e⟩
end KM

set_option maxHeartbeats 4000000
namespace KM
open PySem PySem.Spec PyProof.Rows L2 KD
/-! degrees: the laws of the source family -/
end KM

set_option maxHeartbeats 4000000
namespace KM
open PySem PySem.Spec PyProof.Rows L2 KD
end KM

/-! the peeling of a web: plain law, no program in sight -/
namespace PL
/-- how many of L are joined with b -/
def deg (J : Nat → Nat → Bool) (L : List Nat) (b : Nat) : Nat := (L.filter fun a => J a b).length
/-- the least degree within L -/
def least (J : Nat → Nat → Bool) (L : List Nat) : Nat := match L with
  | [] => 0
  | a :: r => (r.map (deg J (a :: r))).foldl min (deg J (a :: r) a)
theorem foldl_min_le : ∀ (l : List Nat) (a : Nat), l.foldl min a ≤ a ∧ ∀ x ∈ l, l.foldl min a ≤ x
  | [], a => ⟨Nat.le_refl _, fun _ h => by cases h⟩
  | b :: l, a => by
    obtain ⟨h1, h2⟩ := foldl_min_le l (min a b)
    refine ⟨by simp only [List.foldl_cons]; omega, fun x hx => ?_⟩
    simp only [List.foldl_cons]
    rcases List.mem_cons.mp hx with rfl | hx
    · omega
    · exact h2 x hx
theorem foldl_min_mem : ∀ (l : List Nat) (a : Nat), l.foldl min a = a ∨ l.foldl min a ∈ l
  | [], a => .inl rfl
  | b :: l, a => by
    simp only [List.foldl_cons]
    rcases foldl_min_mem l (min a b) with h | h
    · rw [h]
      by_cases q : a ≤ b
      · left; exact Nat.min_eq_left q
      · right; rw [Nat.min_eq_right (by omega)]; exact List.mem_cons_self
    · exact .inr (List.mem_cons_of_mem _ h)
theorem least_le {J : Nat → Nat → Bool} {L : List Nat} {b : Nat} (h : b ∈ L) : least J L ≤ deg J L b := by
  cases L with
  | nil => cases h
  | cons a r =>
    obtain ⟨h1, h2⟩ := foldl_min_le (r.map (deg J (a :: r))) (deg J (a :: r) a)
    rcases List.mem_cons.mp h with rfl | h
    · exact h1
    · exact h2 _ (List.mem_map.mpr ⟨b, h, rfl⟩)
theorem least_mem {J : Nat → Nat → Bool} {L : List Nat} (h : L ≠ []) : ∃ b ∈ L, deg J L b = least J L := by
  cases L with
  | nil => exact absurd rfl h
  | cons a r =>
    rcases foldl_min_mem (r.map (deg J (a :: r))) (deg J (a :: r) a) with q | q
    · exact ⟨a, List.mem_cons_self, q.symm⟩
    · obtain ⟨b, hb, e⟩ := List.mem_map.mp q
      exact ⟨b, List.mem_cons_of_mem _ hb, e⟩
/-- the first place of least degree -/
def first (J : Nat → Nat → Bool) (L : List Nat) : Nat := ((L.filter fun b => decide (deg J L b = least J L)).head?).getD 0
theorem first_mem {J : Nat → Nat → Bool} {L : List Nat} (h : L ≠ []) : first J L ∈ L ∧ deg J L (first J L) = least J L := by
  obtain ⟨b, hb, e⟩ := least_mem (J := J) h
  have hm : b ∈ L.filter fun b => decide (deg J L b = least J L) := List.mem_filter.mpr ⟨hb, by simpa using e⟩
  unfold first
  cases q : L.filter fun b => decide (deg J L b = least J L) with
  | nil => rw [q] at hm; cases hm
  | cons x r =>
    have hx : x ∈ L.filter fun b => decide (deg J L b = least J L) := by rw [q]; exact List.mem_cons_self
    obtain ⟨h1, h2⟩ := List.mem_filter.mp hx
    exact ⟨h1, by simpa using h2⟩
/-- a sub-lot has smaller degrees -/
theorem deg_sub {J : Nat → Nat → Bool} {S L : List Nat} (h : S.Sublist L) (b : Nat) : deg J S b ≤ deg J L b := (h.filter _).length_le
/-- the greatest least degree met while places of least degree are taken off -/
def peel (J : Nat → Nat → Bool) : Nat → List Nat → Nat
  | 0, _ => 0
  | _ + 1, [] => 0
  | n + 1, L => max (least J L) (peel J n (L.filter fun a => decide (a ≠ first J L)))
/-- degeneracy: no sub-lot has a greater least degree -/
theorem least_le_peel {J : Nat → Nat → Bool} : ∀ (n : Nat) (L S : List Nat), L.length ≤ n → S.Sublist L → S ≠ [] → least J S ≤ peel J n L
  | 0, L, S, hl, hs, hn => by
    have := hs.length_le
    exact absurd (List.eq_nil_of_length_eq_zero (by omega)) hn
  | n + 1, [], S, hl, hs, hn => absurd (List.sublist_nil.mp hs) hn
  | n + 1, a :: r, S, hl, hs, hn => by
    show least J S ≤ max (least J (a :: r)) (peel J n ((a :: r).filter fun x => decide (x ≠ first J (a :: r))))
    obtain ⟨f1, f2⟩ := first_mem (J := J) (L := a :: r) (by simp)
    by_cases h : first J (a :: r) ∈ S
    · have h1 := least_le (J := J) h
      have h2 := deg_sub (J := J) hs (first J (a :: r))
      omega
    · have hs' : S.Sublist ((a :: r).filter fun x => decide (x ≠ first J (a :: r))) := by
        have e : S.filter (fun x => decide (x ≠ first J (a :: r))) = S := List.filter_eq_self.mpr fun x hx => by
          have : x ≠ first J (a :: r) := fun e => h (e ▸ hx)
          simpa using this
        rw [← e]
        exact hs.filter _
      have hlt : ((a :: r).filter fun x => decide (x ≠ first J (a :: r))).length < (a :: r).length := by
        exact List.length_filter_lt_length_iff_exists.mpr ⟨first J (a :: r), f1, by simp⟩
      have ih := least_le_peel (J := J) n ((a :: r).filter fun x => decide (x ≠ first J (a :: r))) S (by omega) hs' hn
      omega
end PL

/-! the array of a web: plain law -/
namespace PL
/-- places of least degree go to the end, time and again -/
def arr (J : Nat → Nat → Bool) : Nat → List Nat → List Nat
  | 0, _ => []
  | _ + 1, [] => []
  | n + 1, a :: r => arr J n ((a :: r).filter fun x => decide (x ≠ first J (a :: r))) ++ [first J (a :: r)]
theorem filt_lt {L : List Nat} {x : Nat} (h : x ∈ L) : (L.filter fun a => decide (a ≠ x)).length < L.length :=
  List.length_filter_lt_length_iff_exists.mpr ⟨x, h, by simp⟩
theorem arr_perm {J : Nat → Nat → Bool} : ∀ (n : Nat) (L : List Nat), L.length ≤ n → L.Nodup → List.Perm (arr J n L) L
  | 0, L, h, _ => by
    have e : L = [] := List.eq_nil_of_length_eq_zero (by omega)
    subst e
    exact .refl _
  | n + 1, [], _, _ => .refl _
  | n + 1, a :: r, h, hn => by
    obtain ⟨f1, f2⟩ := first_mem (J := J) (L := a :: r) (by simp)
    have hl := filt_lt f1
    have ih := arr_perm (J := J) n ((a :: r).filter fun x => decide (x ≠ first J (a :: r))) (by omega) (hn.filter _)
    show List.Perm (arr J n ((a :: r).filter fun x => decide (x ≠ first J (a :: r))) ++ [first J (a :: r)]) (a :: r)
    have h2 : List.Perm (((a :: r).filter fun x => decide (x ≠ first J (a :: r))) ++ [first J (a :: r)]) (a :: r) := by
      have e : (a :: r).filter (fun x => decide (x ≠ first J (a :: r))) = (a :: r).erase (first J (a :: r)) := by
        rw [List.Nodup.erase_eq_filter hn]
        exact List.filter_congr fun x _ => by
          by_cases q : x = first J (a :: r) <;> simp [q]
      rw [e]
      exact (List.perm_append_comm.trans (List.perm_cons_erase f1).symm)
    exact (ih.append_right _).trans h2
theorem deg_perm {J : Nat → Nat → Bool} {A B : List Nat} (h : List.Perm A B) (x : Nat) : deg J A x = deg J B x := (h.filter _).length_eq
theorem deg_drop {J : Nat → Nat → Bool} (hi : ∀ x, J x x = false) (L : List Nat) (x : Nat) : deg J (L.filter fun a => decide (a ≠ x)) x = deg J L x := by
  unfold deg
  rw [List.filter_filter]
  refine congrArg _ (List.filter_congr fun a _ => ?_)
  by_cases q : a = x
  · rw [q, hi]; rfl
  · simp [q]
/-- the peeled lots are sub-lots: the greatest least degree is reached -/
theorem peel_attained {J : Nat → Nat → Bool} : ∀ (n : Nat) (L : List Nat), L.length ≤ n → L ≠ [] → ∃ S, S.Sublist L ∧ S ≠ [] ∧ least J S = peel J n L
  | 0, L, h, hn => absurd (List.eq_nil_of_length_eq_zero (by omega)) hn
  | n + 1, [], _, hn => absurd rfl hn
  | n + 1, a :: r, h, _ => by
    obtain ⟨f1, f2⟩ := first_mem (J := J) (L := a :: r) (by simp)
    have hl := filt_lt f1
    show ∃ S, S.Sublist (a :: r) ∧ S ≠ [] ∧ least J S = max (least J (a :: r)) (peel J n ((a :: r).filter fun x => decide (x ≠ first J (a :: r))))
    by_cases he : (a :: r).filter (fun x => decide (x ≠ first J (a :: r))) = []
    · refine ⟨a :: r, List.Sublist.refl _, by simp, ?_⟩
      rw [he]
      have : peel J n [] = 0 := by cases n <;> rfl
      omega
    · obtain ⟨S, h1, h2, h3⟩ := peel_attained (J := J) n ((a :: r).filter fun x => decide (x ≠ first J (a :: r))) (by omega) he
      by_cases q : least J (a :: r) ≤ peel J n ((a :: r).filter fun x => decide (x ≠ first J (a :: r)))
      · exact ⟨S, h1.trans List.filter_sublist, h2, by omega⟩
      · exact ⟨a :: r, List.Sublist.refl _, by simp, by omega⟩
/-- degrees by steps: the greatest number of joined ones ahead -/
def depN (J : Nat → Nat → Bool) : List Nat → Nat → Nat
  | _, 0 => 0
  | A, k + 1 => max (depN J A k) (deg J (A.take k) (A.getD k 0))
theorem depN_congr {J : Nat → Nat → Bool} {A B : List Nat} : ∀ k, (∀ i, i < k → A.take i = B.take i ∧ A.getD i 0 = B.getD i 0) → depN J A k = depN J B k
  | 0, _ => rfl
  | k + 1, h => by
    obtain ⟨e1, e2⟩ := h k (by omega)
    show max (depN J A k) (deg J (A.take k) (A.getD k 0)) = max (depN J B k) (deg J (B.take k) (B.getD k 0))
    rw [depN_congr k (fun i hi => h i (by omega)), e1, e2]
theorem depN_snoc {J : Nat → Nat → Bool} (A : List Nat) (x : Nat) : depN J (A ++ [x]) (A.length + 1) = max (depN J A A.length) (deg J A x) := by
  show max (depN J (A ++ [x]) A.length) (deg J ((A ++ [x]).take A.length) ((A ++ [x]).getD A.length 0)) = _
  rw [depN_congr (B := A) A.length (fun i hi => ⟨by rw [List.take_append_of_le_length (by omega)], by rw [List.getD_eq_getElem?_getD, List.getD_eq_getElem?_getD, List.getElem?_append_left hi]⟩)]
  simp
theorem depN_arr {J : Nat → Nat → Bool} (hi : ∀ x, J x x = false) : ∀ (n : Nat) (L : List Nat), L.length ≤ n → L.Nodup → depN J (arr J n L) (arr J n L).length = peel J n L
  | 0, L, h, _ => rfl
  | n + 1, [], _, _ => rfl
  | n + 1, a :: r, h, hn => by
    obtain ⟨f1, f2⟩ := first_mem (J := J) (L := a :: r) (by simp)
    have hl := filt_lt f1
    have ih := depN_arr (J := J) hi n ((a :: r).filter fun x => decide (x ≠ first J (a :: r))) (by omega) (hn.filter _)
    have hp := arr_perm (J := J) n ((a :: r).filter fun x => decide (x ≠ first J (a :: r))) (by omega) (hn.filter _)
    show depN J (arr J n ((a :: r).filter fun x => decide (x ≠ first J (a :: r))) ++ [first J (a :: r)]) (arr J n ((a :: r).filter fun x => decide (x ≠ first J (a :: r))) ++ [first J (a :: r)]).length = max (least J (a :: r)) (peel J n ((a :: r).filter fun x => decide (x ≠ first J (a :: r))))
    rw [List.length_append, List.length_singleton, depN_snoc, ih, deg_perm hp, deg_drop hi, f2]
    omega
end PL

set_option maxHeartbeats 4000000
namespace KD
open PySem PySem.Spec PyProof.Rows L2
theorem intsD_ints : ∀ l : List Int, intsD (l.map .int) = some l
  | [] => rfl
  | i :: l => by
    show ((intsD (l.map .int)).map fun r => i :: r) = _
    rw [intsD_ints l]
    rfl
theorem nI_map (l : List Nat) : l.map nI = (l.map Int.ofNat).map D.int := by rw [List.map_map]; rfl
theorem foldl_minI : ∀ (l : List Nat) (a : Nat), (l.map Int.ofNat).foldl min (a : Int) = ((l.foldl min a : Nat) : Int)
  | [], a => rfl
  | b :: l, a => by
    simp only [List.map_cons, List.foldl_cons]
    rw [show min (a : Int) (Int.ofNat b) = ((min a b : Nat) : Int) by show min (a : Int) (b : Int) = _; omega, foldl_minI l]
theorem foldl_maxI : ∀ (l : List Nat) (a : Nat), (l.map Int.ofNat).foldl max (a : Int) = ((l.foldl max a : Nat) : Int)
  | [], a => rfl
  | b :: l, a => by
    simp only [List.map_cons, List.foldl_cons]
    rw [show max (a : Int) (Int.ofNat b) = ((max a b : Nat) : Int) by show max (a : Int) (b : Int) = _; omega, foldl_maxI l]
theorem min1D_nats {a : Nat} {l : List Nat} : min1D [.lst ((a :: l).map nI)] = some (.d (nI (l.foldl min a))) := by
  show ((intsD ((a :: l).map nI)).bind fun b => (minI b).map fun m => Val.d (.int m)) = _
  rw [nI_map, intsD_ints, Option.bind_some]
  show some (Val.d (.int ((l.map Int.ofNat).foldl min (a : Int)))) = _
  rw [foldl_minI]
  rfl
theorem max1D_nats {a : Nat} {l : List Nat} : max1D [.lst ((a :: l).map nI)] = some (.d (nI (l.foldl max a))) := by
  show ((intsD ((a :: l).map nI)).bind fun b => (maxI b).map fun m => Val.d (.int m)) = _
  rw [nI_map, intsD_ints, Option.bind_some]
  show some (Val.d (.int ((l.map Int.ofNat).foldl max (a : Int)))) = _
  rw [foldl_maxI]
  rfl
end KD
namespace KM
open PySem PySem.Spec PyProof.Rows L2 KD
/-! orders -/
theorem in_near {cs : List Nat} {ts : List Str} {a b : Nat} (h : a ∈ cs) : decide (a ∈ cs.filter fun a => jn ts b a) = jn ts a b := by
  rw [jn_comm]
  cases q : jn ts b a <;> simp [h, q]
theorem least_map {J : Nat → Nat → Bool} {L : List Nat} (h : L ≠ []) : ∃ (a : Nat) (l : List Nat), L.map (PL.deg J L) = a :: l ∧ l.foldl min a = PL.least J L := by
  cases L with
  | nil => exact absurd rfl h
  | cons x r => exact ⟨_, _, rfl, rfl⟩
theorem lk_pl {x y : D} : ([("places" : Str), ("ties" : Str)].zip [x, y]).lookup ("places" : Str) = some x := rfl
theorem lk_ti {x y : D} : ([("places" : Str), ("ties" : Str)].zip [x, y]).lookup ("ties" : Str) = some y := by
  show (match (("ties" : Str) == "places") with | true => some x | false => _) = _
  rw [show (("ties" : Str) == "places") = false from by decide +kernel]
  rfl
theorem fld_pl {cs : List Nat} {ts : List Str} {fo : EM} {ε : SE} (h : fo ε = some (.d (webD cs ts), ε)) : eFld 0 "places" fo ε = some (.d (.tup (cs.map chD)), ε) := by
  simp only [eFld_s, fzE_s, h, Option.map_some, fzv_d, Option.bind_some, webD, res_ins, insD_i, fldR_s, if_true, lk_pl]
theorem fld_ti {cs : List Nat} {ts : List Str} {fo : EM} {ε : SE} (h : fo ε = some (.d (webD cs ts), ε)) : eFld 0 "ties" fo ε = some (.d (.tup (ts.map .str)), ε) := by
  simp only [eFld_s, fzE_s, h, Option.map_some, fzv_d, Option.bind_some, webD, res_ins, insD_i, fldR_s, if_true, lk_ti]
/-- one turn of the peeling of a web -/
theorem first_get {J : Nat → Nat → Bool} {L : List Nat} (h : L ≠ []) : ∃ r, (L.filter fun b => decide (PL.deg J L b = PL.least J L)) = PL.first J L :: r := by
  obtain ⟨b, hb, e⟩ := PL.least_mem (J := J) h
  have hm : b ∈ L.filter fun b => decide (PL.deg J L b = PL.least J L) := List.mem_filter.mpr ⟨hb, by simpa using e⟩
  unfold PL.first
  cases q : L.filter fun b => decide (PL.deg J L b = PL.least J L) with
  | nil => rw [q] at hm; cases hm
  | cons x r => exact ⟨r, rfl⟩
abbrev baSt (cs : List Nat) (ts : List Str) (x1 : Sl) (F : List Nat) (x3 x4 : Sl) (M : List MO) : SE := ⟨[.d (webD cs ts), x1, .d (.tup (F.map chD)), x3, x4, .no, .no], M⟩
end KM

set_option maxHeartbeats 4000000
namespace KM
open PySem PySem.Spec PyProof.Rows L2 KD
/-! orders: arrays, depths, lots -/
theorem dep_depN (J : Nat → Nat → Bool) (arr : List Nat) : ∀ k, dep J arr k = (PL.depN J arr k : Int)
  | 0 => rfl
  | k + 1 => by
    show (if (((arr.take k).filter fun a => J a (arr.getD k 0)).length : Int) > dep J arr k then (((arr.take k).filter fun a => J a (arr.getD k 0)).length : Int) else dep J arr k) = ((max (PL.depN J arr k) (PL.deg J (arr.take k) (arr.getD k 0)) : Nat) : Int)
    rw [dep_depN J arr k]
    unfold PL.deg
    split <;> omega
theorem jn_self {cs : List Nat} {ps : List (Nat × Nat)} (N : Net cs ps) (x : Nat) : jn (ps.map (pairS cs)) x x = false := by
  have h : ¬ str2 x x ∈ ps.map (pairS cs) := fun hm => by
    obtain ⟨p, hp, e⟩ := List.mem_map.mp hm
    obtain ⟨h1, h2⟩ := N.ok p hp
    have e' : (#[cs.getD p.1 0, cs.getD p.2 0] : Array Nat) = #[x, x] := congrArg Str.cps e
    simp only [Array.mk.injEq, List.cons.injEq, and_true] at e'
    have q := (List.getElem?_inj (i := p.1) (j := p.2) (by omega) N.nd).mp (by
      rw [List.getElem?_eq_getElem (by omega), List.getElem?_eq_getElem h2]
      rw [List.getD_eq_getElem?_getD, List.getElem?_eq_getElem (by omega)] at e'
      rw [List.getD_eq_getElem?_getD, List.getElem?_eq_getElem h2] at e'
      simp at e'
      rw [e'.1, e'.2])
    omega
  unfold jn
  rw [decide_eq_false h]; rfl
/-! a lot -/
theorem strsD_chs : ∀ cs : List Nat, strsD (cs.map chD) = some (cs.map chS)
  | [] => rfl
  | c :: cs => by
    show ((strsD (cs.map chD)).map fun r => chS c :: r) = _
    rw [strsD_chs cs]; rfl
theorem findIdx_chS (a : Nat) : ∀ cs : List Nat, a ∈ cs → (cs.map chS).findIdx? (· == chS a) = some (cs.idxOf a)
  | [], h => by cases h
  | c :: cs, h => by
    rw [List.map_cons, List.findIdx?_cons]
    by_cases q : c = a
    · subst q; simp
    · have q1 : (chS c == chS a) = false := by
        rw [beq_eq_false_iff_ne]; exact fun z => q (chS_inj z)
      have q2 : (c == a) = false := by rw [beq_eq_false_iff_ne]; exact q
      rw [q1, List.idxOf_cons, q2]
      have hm : a ∈ cs := by
        rcases List.mem_cons.mp h with rfl | h
        · exact absurd rfl q
        · exact h
      rw [findIdx_chS a cs hm]; rfl
theorem tix_ch {cs : List Nat} {a : Nat} (h : a ∈ cs) : tixD (.tup (cs.map chD)) [chD a] = some (.d (nI (cs.idxOf a))) := by
  show ((strsD (cs.map chD)).bind fun ss => (ss.findIdx? (· == chS a)).map fun j => Val.d (.int (j : Nat))) = _
  rw [strsD_chs, Option.bind_some, findIdx_chS a cs h]; rfl
theorem sub_order {cs L : List Nat} (hn : cs.Nodup) (h : L.Sublist cs) : L.Pairwise fun a b => cs.idxOf a < cs.idxOf b := by
  refine List.Pairwise.sublist h ?_
  rw [List.pairwise_iff_getElem]
  intro i j hi hj hij
  rw [hn.idxOf_getElem, hn.idxOf_getElem]; exact hij
@[simp] theorem leD_nI {a b : Nat} : leD (nI a) (nI b) = some (.d (.bl (decide (a ≤ b)))) := by
  show some (Val.d (.bl (decide ((a : Int) ≤ (b : Int))))) = _
  by_cases h : a ≤ b
  · have : (a : Int) ≤ b := by omega
    simp [h, this]
  · have : ¬ (a : Int) ≤ b := by omega
    simp [h, this]
end KM

/-! all lots, one place more each time: plain law -/
namespace PL
theorem snocRec {α : Type} {motive : List α → Prop} (nil : motive []) (append_singleton : ∀ (l : List α) (x : α), motive l → motive (l ++ [x])) (l : List α) : motive l := by
  rw [← List.reverse_reverse l]
  induction l.reverse with
  | nil => exact nil
  | cons a r ih => rw [List.reverse_cons]; exact append_singleton _ _ ih
def bsub (l : List Nat) : List (List Nat) := l.foldl (fun S x => S ++ S.map (· ++ [x])) [[]]
theorem bsub_snoc (l : List Nat) (x : Nat) : bsub (l ++ [x]) = bsub l ++ (bsub l).map (· ++ [x]) := by
  unfold bsub
  rw [List.foldl_append]; rfl
theorem bsub_len (l : List Nat) : (bsub l).length = 2 ^ l.length := by
  induction l using snocRec with
  | nil => rfl
  | append_singleton l x ih =>
    rw [bsub_snoc, List.length_append, List.length_map, ih, List.length_append, List.length_singleton, Nat.pow_succ]
    omega
theorem bsub_sub (l : List Nat) : ∀ g ∈ bsub l, g.Sublist l := by
  induction l using snocRec with
  | nil => intro g h; have : g = [] := by simpa [bsub] using h
           subst this; exact List.Sublist.refl _
  | append_singleton l x ih =>
    intro g h
    rw [bsub_snoc] at h
    rcases List.mem_append.mp h with h | h
    · exact (ih g h).trans (List.sublist_append_left _ _)
    · obtain ⟨g', h', rfl⟩ := List.mem_map.mp h
      exact (ih g' h').append (List.Sublist.refl _)
theorem bsub_all (l : List Nat) : ∀ g, g.Sublist l → g ∈ bsub l := by
  induction l using snocRec with
  | nil => intro g h; have := List.sublist_nil.mp h
           subst this; simp [bsub]
  | append_singleton l x ih =>
    intro g h
    rw [bsub_snoc]
    obtain ⟨a, b, rfl, ha, hb⟩ := List.sublist_append_iff.mp h
    have hb' : b = [] ∨ b = [x] := by
      cases b with
      | nil => exact .inl rfl
      | cons y r =>
        right
        have h1 := hb.length_le
        have : r = [] := by
          rw [List.length_cons, List.length_singleton] at h1
          exact List.eq_nil_of_length_eq_zero (by omega)
        subst this
        have := hb.subset (a := y) List.mem_cons_self
        have : y = x := by simpa using this
        rw [this]
    rcases hb' with rfl | rfl
    · rw [List.append_nil]; exact List.mem_append_left _ (ih a ha)
    · exact List.mem_append_right _ (List.mem_map.mpr ⟨a, ih a ha, rfl⟩)
theorem bsub_head (l : List Nat) : ∃ t, bsub l = [] :: t ∧ (∀ g ∈ t, g ≠ []) := by
  induction l using snocRec with
  | nil => exact ⟨[], rfl, fun g h => by cases h⟩
  | append_singleton l x ih =>
    obtain ⟨t, e, h⟩ := ih
    refine ⟨t ++ (bsub l).map (· ++ [x]), by rw [bsub_snoc, e]; rfl, fun g hg => ?_⟩
    rcases List.mem_append.mp hg with q | q
    · exact h g q
    · obtain ⟨g', _, rfl⟩ := List.mem_map.mp q
      simp
theorem foldl_max_ge : ∀ (l : List Nat) (a : Nat), a ≤ l.foldl max a ∧ ∀ x ∈ l, x ≤ l.foldl max a
  | [], a => ⟨Nat.le_refl _, fun _ h => by cases h⟩
  | b :: l, a => by
    obtain ⟨h1, h2⟩ := foldl_max_ge l (max a b)
    refine ⟨by simp only [List.foldl_cons]; omega, fun x hx => ?_⟩
    simp only [List.foldl_cons]
    rcases List.mem_cons.mp hx with rfl | hx
    · omega
    · exact h2 x hx
theorem foldl_max_le : ∀ (l : List Nat) (a m : Nat), a ≤ m → (∀ x ∈ l, x ≤ m) → l.foldl max a ≤ m
  | [], a, m, h, _ => h
  | b :: l, a, m, h, g => by
    have := g b List.mem_cons_self
    exact foldl_max_le l (max a b) m (by omega) fun x hx => g x (List.mem_cons_of_mem _ hx)
/-- the greatest of some numbers that are not too great, one of them so great -/
theorem foldl_max_eq {l : List Nat} {a m : Nat} (h1 : ∀ x ∈ a :: l, x ≤ m) (h2 : m ∈ a :: l) : l.foldl max a = m := by
  have q1 := foldl_max_le l a m (h1 a List.mem_cons_self) fun x hx => h1 x (List.mem_cons_of_mem _ hx)
  obtain ⟨q2, q3⟩ := foldl_max_ge l a
  rcases List.mem_cons.mp h2 with rfl | h
  · omega
  · have := q3 m h
    omega
/-- the depth is the greatest core number -/
theorem max_least {J : Nat → Nat → Bool} {L : List Nat} {t : List (List Nat)} {a : Nat} {l : List Nat} (h0 : L ≠ []) (e : bsub L = [] :: t) (ht : ∀ g ∈ t, g ≠ []) (em : t.map (least J) = a :: l) : l.foldl max a = peel J L.length L := by
  refine foldl_max_eq (fun x hx => ?_) ?_
  · rw [← em] at hx
    obtain ⟨g, hg, rfl⟩ := List.mem_map.mp hx
    exact least_le_peel _ _ _ (Nat.le_refl _) (bsub_sub L g (by rw [e]; exact List.mem_cons_of_mem _ hg)) (ht g hg)
  · obtain ⟨S, h1, h2, h3⟩ := peel_attained (J := J) L.length L (Nat.le_refl _) h0
    have hm := bsub_all L S h1
    rw [e] at hm
    rcases List.mem_cons.mp hm with rfl | hm
    · exact absurd rfl h2
    · rw [← em, ← h3]
      exact List.mem_map.mpr ⟨S, hm, rfl⟩
theorem least_bd {J : Nat → Nat → Bool} {L : List Nat} : least J L ≤ L.length := by
  cases L with
  | nil => exact Nat.le_refl _
  | cons a r =>
    have h1 := least_le (J := J) (L := a :: r) (b := a) List.mem_cons_self
    have h2 : deg J (a :: r) a ≤ (a :: r).length := List.length_filter_le _ _
    omega
end PL

/-! popping the place of least degree: plain law -/
namespace PL
theorem first_find {J : Nat → Nat → Bool} {L : List Nat} : first J L = (L.find? fun b => decide (deg J L b = least J L)).getD 0 := by
  unfold first
  rw [List.head?_filter]
theorem pop_first {J : Nat → Nat → Bool} {L : List Nat} {j : Nat} (hn : L.Nodup) (hj : (L.map (deg J L)).findIdx? (fun b => decide (b = least J L)) = some j) :
    ∃ h : j < L.length, L[j] = first J L ∧ L.eraseIdx j = L.filter fun a => decide (a ≠ first J L) := by
  rw [List.findIdx?_map] at hj
  obtain ⟨h1, h2, h3⟩ := List.findIdx?_eq_some_iff_getElem.mp hj
  have e : L.find? (fun b => decide (deg J L b = least J L)) = some L[j] := by
    rw [List.find?_eq_some_iff_getElem]
    exact ⟨h2, j, h1, rfl, fun k hk => by
      have := h3 k hk
      simpa using this⟩
  have e2 : L[j] = first J L := by rw [first_find, e]; rfl
  refine ⟨h1, e2, ?_⟩
  rw [← e2, ← List.erase_eq_eraseIdx_of_idxOf (a := L[j]) (hn.idxOf_getElem j h1), List.Nodup.erase_eq_filter hn]
  refine List.filter_congr fun x _ => ?_
  by_cases q : x = L[j] <;> simp [q]
theorem pop_some {J : Nat → Nat → Bool} {L : List Nat} (h : L ≠ []) : ∃ j, (L.map (deg J L)).findIdx? (fun b => decide (b = least J L)) = some j := by
  obtain ⟨b, hb, e⟩ := least_mem (J := J) h
  cases q : (L.map (deg J L)).findIdx? (fun b => decide (b = least J L)) with
  | some j => exact ⟨j, rfl⟩
  | none =>
    have := List.findIdx?_eq_none_iff.mp q (deg J L b) (List.mem_map.mpr ⟨b, hb, rfl⟩)
    simp [e] at this
theorem peel_step {J : Nat → Nat → Bool} {n : Nat} {L : List Nat} (h : L ≠ []) : peel J (n + 1) L = max (least J L) (peel J n (L.filter fun a => decide (a ≠ first J L))) := by
  cases L with
  | nil => exact absurd rfl h
  | cons a r => rfl
end PL

/-! what is reached along ties within a lot: plain law -/
namespace PL
inductive R (J : Nat → Nat → Bool) (L : List Nat) (x : Nat) : Nat → Prop
  | refl : R J L x x
  | step {y z : Nat} : R J L x y → z ∈ L → J y z = true → R J L x z
section
variable {J : Nat → Nat → Bool} {L : List Nat}
theorem R.trans {x y z : Nat} (h : R J L x y) (g : R J L y z) : R J L x z := by
  induction g with
  | refl => exact h
  | step _ m j ih => exact ih.step m j
theorem R.mem {x y : Nat} (h : R J L x y) (hx : x ∈ L) : y ∈ L := by
  cases h with
  | refl => exact hx
  | step _ m _ => exact m
theorem R.symm (hJ : ∀ a b, J a b = J b a) {x y : Nat} (hx : x ∈ L) (h : R J L x y) : R J L y x := by
  induction h with
  | refl => exact .refl
  | @step y z h m j ih =>
    have h1 : R J L z y := R.step .refl (h.mem hx) (by rw [hJ]; exact j)
    exact h1.trans ih
theorem R.sub {M : List Nat} (hs : ∀ a ∈ L, a ∈ M) {x y : Nat} (h : R J L x y) : R J M x y := by
  induction h with
  | refl => exact .refl
  | step _ m j ih => exact ih.step (hs _ m) j
/-- a lot that is reached, whole -/
structure Part (J : Nat → Nat → Bool) (L : List Nat) (x : Nat) (S : List Nat) : Prop where
  has : x ∈ S
  all : ∀ y ∈ S, R J L x y
  closed : ∀ y ∈ S, ∀ z ∈ L, J y z = true → z ∈ S
theorem Part.iff {x : Nat} {S : List Nat} (h : Part J L x S) (y : Nat) : y ∈ S ↔ R J L x y := by
  refine ⟨h.all y, fun r => ?_⟩
  induction r with
  | refl => exact h.has
  | step _ m j ih => exact h.closed _ ih _ m j
/-! the law's own way: round by round -/
def addIn (J : Nat → Nat → Bool) (S : List Nat) (e : Nat) : List Nat := if (!decide (e ∈ S) && S.any fun o => J e o) = true then S ++ [e] else S
def round (J : Nat → Nat → Bool) (L S : List Nat) : List Nat := L.foldl (addIn J) S
def rounds (J : Nat → Nat → Bool) (L : List Nat) : Nat → List Nat → List Nat
  | 0, S => S
  | n + 1, S => rounds J L n (round J L S)
theorem addIn_keep {S : List Nat} {e y : Nat} (h : y ∈ S) : y ∈ addIn J S e := by
  unfold addIn
  split
  · exact List.mem_append_left _ h
  · exact h
theorem addIn_len {S : List Nat} {e : Nat} : S.length ≤ (addIn J S e).length := by
  unfold addIn
  split
  · rw [List.length_append]; omega
  · exact Nat.le_refl _
theorem round_len : ∀ (M S : List Nat), S.length ≤ (M.foldl (addIn J) S).length
  | [], S => Nat.le_refl _
  | e :: M, S => Nat.le_trans addIn_len (round_len M (addIn J S e))
theorem addIn_same {S : List Nat} {e : Nat} (h : (addIn J S e).length = S.length) : addIn J S e = S ∧ ((!decide (e ∈ S) && S.any fun o => J e o) = false) := by
  unfold addIn at h ⊢
  split at h
  · rw [List.length_append, List.length_singleton] at h; omega
  · rename_i q
    rw [if_neg q]
    exact ⟨rfl, by simpa using q⟩
theorem round_same : ∀ (M S : List Nat), (M.foldl (addIn J) S).length = S.length → M.foldl (addIn J) S = S ∧ ∀ e ∈ M, (!decide (e ∈ S) && S.any fun o => J e o) = false
  | [], S, _ => ⟨rfl, fun _ h => by cases h⟩
  | e :: M, S, h => by
    have h' : (M.foldl (addIn J) (addIn J S e)).length = S.length := h
    have h1 := round_len (J := J) M (addIn J S e)
    have h2 := addIn_len (J := J) (S := S) (e := e)
    obtain ⟨q1, q2⟩ := addIn_same (J := J) (S := S) (e := e) (by omega)
    obtain ⟨q3, q4⟩ := round_same M S (by rw [q1] at h'; exact h')
    refine ⟨by show M.foldl (addIn J) (addIn J S e) = S; rw [q1]; exact q3, fun x hx => ?_⟩
    rcases List.mem_cons.mp hx with rfl | hx
    · exact q2
    · exact q4 x hx
/-- what is kept while it grows -/
structure Grow (J : Nat → Nat → Bool) (L : List Nat) (x : Nat) (S : List Nat) : Prop where
  has : x ∈ S
  nd : S.Nodup
  sub : ∀ y ∈ S, y ∈ L
  all : ∀ y ∈ S, R J L x y
theorem Grow.add (hJ : ∀ a b, J a b = J b a) {x e : Nat} {S : List Nat} (h : Grow J L x S) (he : e ∈ L) : Grow J L x (addIn J S e) := by
  unfold addIn
  split
  · rename_i q
    rw [Bool.and_eq_true] at q
    have hn : e ∉ S := by simpa using q.1
    obtain ⟨o, ho, hj⟩ := List.any_eq_true.mp q.2
    refine ⟨List.mem_append_left _ h.has, ?_, fun y hy => ?_, fun y hy => ?_⟩
    · rw [List.nodup_append]
      exact ⟨h.nd, by simp, fun a ha b hb => by have : b = e := by simpa using hb
                                                subst this; rintro rfl; exact hn ha⟩
    · rcases List.mem_append.mp hy with hy | hy
      · exact h.sub y hy
      · have : y = e := by simpa using hy
        rw [this]; exact he
    · rcases List.mem_append.mp hy with hy | hy
      · exact h.all y hy
      · have : y = e := by simpa using hy
        rw [this]
        exact (h.all o ho).step he (by rw [hJ]; exact hj)
  · exact h
theorem Grow.fold (hJ : ∀ a b, J a b = J b a) {x : Nat} : ∀ (M S : List Nat), (∀ e ∈ M, e ∈ L) → Grow J L x S → Grow J L x (M.foldl (addIn J) S)
  | [], _, _, h => h
  | e :: M, S, hs, h => Grow.fold hJ M (addIn J S e) (fun a ha => hs a (List.mem_cons_of_mem _ ha)) (h.add hJ (hs e List.mem_cons_self))
theorem nodup_le : ∀ {S M : List Nat}, S.Nodup → (∀ y ∈ S, y ∈ M) → S.length ≤ M.length
  | [], M, _, _ => Nat.zero_le _
  | a :: S, M, hn, hs => by
    rw [List.nodup_cons] at hn
    have ha := hs a List.mem_cons_self
    have ih := nodup_le (S := S) (M := M.erase a) hn.2 fun y hy => (List.mem_erase_of_ne (show y ≠ a from fun e => by rw [e] at hy; exact hn.1 hy)).mpr (hs y (List.mem_cons_of_mem _ hy))
    rw [List.length_erase_of_mem ha] at ih
    have := List.length_pos_of_mem ha
    rw [List.length_cons]
    omega
theorem rounds_part (hJ : ∀ a b, J a b = J b a) {x : Nat} : ∀ (n : Nat) (S : List Nat), Grow J L x S → L.length < S.length + n → Part J L x (rounds J L n S) ∧ (rounds J L n S).Nodup
  | 0, S, h, hl => by
    have := nodup_le h.nd h.sub
    omega
  | n + 1, S, h, hl => by
    by_cases q : (round J L S).length = S.length
    · obtain ⟨q1, q2⟩ := round_same L S q
      have stay : ∀ n, rounds J L n S = S := by
        intro n
        induction n with
        | zero => rfl
        | succ n ih =>
          show rounds J L n (round J L S) = S
          unfold round
          rw [q1]; exact ih
      rw [stay]
      refine ⟨⟨h.has, h.all, fun y hy z hz hj => ?_⟩, h.nd⟩
      have := q2 z hz
      by_cases hm : z ∈ S
      · exact hm
      · have ha : (S.any fun o => J z o) = true := List.any_eq_true.mpr ⟨y, hy, by rw [hJ]; exact hj⟩
        rw [ha] at this
        simp [hm] at this
    · have h2 := round_len (J := J) L S
      have h3 : (round J L S).length = (L.foldl (addIn J) S).length := rfl
      exact rounds_part hJ n (round J L S) (Grow.fold hJ L S (fun _ h => h) h) (by omega)
theorem Grow.one {x : Nat} (hx : x ∈ L) : Grow J L x [x] := by
  refine ⟨by simp, by simp, fun y hy => ?_, fun y hy => ?_⟩
  · have e : y = x := by simpa using hy
    rw [e]; exact hx
  · have e : y = x := by simpa using hy
    rw [e]; exact .refl
theorem spread_part (hJ : ∀ a b, J a b = J b a) {x : Nat} (hx : x ∈ L) : Part J L x (rounds J L L.length [x]) := (rounds_part hJ L.length [x] (Grow.one hx) (by simp)).1
/-! the program's way: layer by layer -/
def layStep (J : Nat → Nat → Bool) (C left some : List Nat) (later : List Nat) (one : Nat) : List Nat := later ++ (C.filter fun o => J one o).filter fun o => decide (o ∈ left) && !decide (o ∈ some ++ later)
def layer (J : Nat → Nat → Bool) (C left some lay : List Nat) : List Nat := lay.foldl (layStep J C left some) []
theorem layStep_ok {C left some : List Nat} (hc : C.Nodup) {later : List Nat} {one : Nat} (hn : later.Nodup) (hs : ∀ y ∈ later, y ∈ left ∧ y ∉ some) :
    (layStep J C left some later one).Nodup ∧ (∀ y ∈ layStep J C left some later one, y ∈ left ∧ y ∉ some) ∧ ∀ y, y ∈ layStep J C left some later one ↔ y ∈ later ∨ (y ∈ C ∧ J one y = true ∧ y ∈ left ∧ y ∉ some) := by
  unfold layStep
  refine ⟨?_, fun y hy => ?_, fun y => ?_⟩
  · rw [List.nodup_append]
    refine ⟨hn, (hc.filter _).filter _, fun a ha b hb => ?_⟩
    rintro rfl
    have := (List.mem_filter.mp hb).2
    simp [ha] at this
  · rcases List.mem_append.mp hy with hy | hy
    · exact hs y hy
    · have := (List.mem_filter.mp hy).2
      simp at this
      exact ⟨this.1, this.2.1⟩
  · rw [List.mem_append, List.mem_filter, List.mem_filter]
    constructor
    · rintro (h | ⟨⟨h1, h2⟩, h3⟩)
      · exact .inl h
      · simp at h3
        exact .inr ⟨h1, h2, h3.1, h3.2.1⟩
    · rintro (h | ⟨h1, h2, h3, h4⟩)
      · exact .inl h
      · by_cases hl : y ∈ later
        · exact .inl hl
        · exact .inr ⟨⟨h1, h2⟩, by simp [h3, h4, hl]⟩
theorem layer_ok {C left some : List Nat} (hc : C.Nodup) : ∀ (lay later : List Nat), later.Nodup → (∀ y ∈ later, y ∈ left ∧ y ∉ some) →
    (lay.foldl (layStep J C left some) later).Nodup ∧ (∀ y ∈ lay.foldl (layStep J C left some) later, y ∈ left ∧ y ∉ some) ∧ ∀ y, y ∈ lay.foldl (layStep J C left some) later ↔ y ∈ later ∨ (y ∈ C ∧ y ∈ left ∧ y ∉ some ∧ ∃ one ∈ lay, J one y = true)
  | [], later, hn, hs => by
    refine ⟨hn, hs, fun y => ⟨fun h => .inl h, fun h => ?_⟩⟩
    rcases h with h | ⟨_, _, _, _, h, _⟩
    · exact h
    · cases h
  | one :: lay, later, hn, hs => by
    obtain ⟨q1, q2, q3⟩ := layStep_ok (J := J) (one := one) hc hn hs
    obtain ⟨r1, r2, r3⟩ := layer_ok hc lay (layStep J C left some later one) q1 q2
    refine ⟨r1, r2, fun y => ?_⟩
    show y ∈ lay.foldl (layStep J C left some) (layStep J C left some later one) ↔ _
    rw [r3 y, q3 y]
    constructor
    · rintro ((h | ⟨h1, h2, h3, h4⟩) | ⟨h1, h2, h3, o, ho, hj⟩)
      · exact .inl h
      · exact .inr ⟨h1, h3, h4, one, List.mem_cons_self, h2⟩
      · exact .inr ⟨h1, h2, h3, o, List.mem_cons_of_mem _ ho, hj⟩
    · rintro (h | ⟨h1, h2, h3, o, ho, hj⟩)
      · exact .inl (.inl h)
      · rcases List.mem_cons.mp ho with rfl | ho
        · exact .inl (.inr ⟨h1, hj, h2, h3⟩)
        · exact .inr ⟨h1, h2, h3, o, ho, hj⟩
/-- what holds ahead of each layer -/
structure Bfs (J : Nat → Nat → Bool) (left : List Nat) (x : Nat) (some lay : List Nat) : Prop where
  g : Grow J left x some
  lay_sub : ∀ y ∈ lay, y ∈ some
  done : ∀ y ∈ some, y ∉ lay → ∀ z ∈ left, J y z = true → z ∈ some
theorem Bfs.next {C left : List Nat} (hc : C.Nodup) (hl : ∀ y ∈ left, y ∈ C) {x : Nat} {some lay : List Nat} (h : Bfs J left x some lay) : Bfs J left x (some ++ layer J C left some lay) (layer J C left some lay) := by
  obtain ⟨q1, q2, q3⟩ := layer_ok (J := J) (C := C) (left := left) (some := some) hc lay [] (by simp) (fun y hy => by cases hy)
  refine ⟨⟨List.mem_append_left _ h.g.has, ?_, fun y hy => ?_, fun y hy => ?_⟩, fun y hy => List.mem_append_right _ hy, fun y hy hn z hz hj => ?_⟩
  · rw [List.nodup_append]
    exact ⟨h.g.nd, q1, fun a ha b hb => by rintro rfl; exact (q2 a hb).2 ha⟩
  · rcases List.mem_append.mp hy with hy | hy
    · exact h.g.sub y hy
    · exact (q2 y hy).1
  · rcases List.mem_append.mp hy with hy | hy
    · exact h.g.all y hy
    · rcases (q3 y).mp hy with hy' | ⟨_, h2, _, o, ho, hj⟩
      · cases hy'
      · exact (h.g.all o (h.lay_sub o ho)).step h2 hj
  · rcases List.mem_append.mp hy with hy | hy
    · by_cases hy' : y ∈ lay
      · by_cases hs : z ∈ some
        · exact List.mem_append_left _ hs
        · exact List.mem_append_right _ ((q3 z).mpr (.inr ⟨hl z hz, hz, hs, y, hy', hj⟩))
      · exact List.mem_append_left _ (h.done y hy hy' z hz hj)
    · exact absurd hy hn
theorem Bfs.part {left : List Nat} {x : Nat} {some : List Nat} (h : Bfs J left x some []) : Part J left x some := ⟨h.g.has, h.g.all, fun y hy z hz hj => h.done y hy (fun q => by cases q) z hz hj⟩
theorem Bfs.one {left : List Nat} {x : Nat} (hx : x ∈ left) : Bfs J left x [x] [x] := ⟨Grow.one hx, fun y hy => hy, fun y hy hn => absurd hy hn⟩
end
end PL

set_option maxHeartbeats 4000000
namespace KD
open PySem PySem.Spec PyProof.Rows L2
/-! colours, colourings as data -/
def dg (c : Nat) : D := chD (c + 48)
def txt (col : List Nat) : Str := ⟨(col.map (· + 48)).toArray⟩
@[simp] theorem res_dg {ε : SE} {c : Nat} : Val.res ε (.d (dg c)) = some (dg c) := id rfl
@[simp] theorem kindD_dg {ε : SE} {c : Nat} : kindD ε (dg c) = some (.ty "str") := id rfl
@[simp] theorem txt_len {col : List Nat} : (txt col).length = col.length := by
  show (col.map (· + 48)).toArray.size = _
  simp
@[simp] theorem seqD_txt {col : List Nat} : seqD (.str (txt col)) = some (col.map dg) := by
  rw [seqD_s]
  show some ((col.map (· + 48)).toArray.toList.map chD) = _
  rw [List.toList_toArray, List.map_map]; rfl
@[simp] theorem txt_chs {col : List Nat} : (txt col).cps.toList.map chD = col.map dg := by
  show (col.map (· + 48)).toArray.toList.map chD = _
  rw [List.toList_toArray, List.map_map]; rfl
theorem Enc.dg : Enc KD.dg 0 := ⟨fun _ => rfl, fun _ => Nat.le_refl _, fun a b => by
  have := Enc.ch.eq (a + 48) (b + 48)
  show eqd (chD (a + 48)) (chD (b + 48)) = _
  rw [this]
  by_cases h : a = b
  · simp [h]
  · have : ¬ a + 48 = b + 48 := by omega
    simp [h, this]⟩
@[simp] theorem eqD_dg {a b : Nat} : eqD (dg a) (dg b) = some (.d (.bl (decide (a = b)))) := Enc.dg.eqD (by decide) a b
@[simp] theorem neD_dg {a b : Nat} : neD (dg a) (dg b) = some (.d (.bl (!decide (a = b)))) := Enc.dg.neD (by decide) a b
@[simp] theorem blsD_map' {α : Type} (f : α → Bool) : ∀ l : List α, blsD (l.map fun a => .bl (f a)) = some (l.map f)
  | [] => rfl
  | a :: l => by
    show ((blsD (l.map fun a => .bl (f a))).map fun r => f a :: r) = _
    rw [blsD_map' f l]; rfl
theorem allD_map {α : Type} {f : α → Bool} {l : List α} : allD [.lst (l.map fun a => .bl (f a))] = some (.d (.bl (l.all f))) := by
  rw [allD_l, blsD_map' f l]
  simp [List.all_map]
theorem anyD_map {α : Type} {f : α → Bool} {l : List α} : anyD [.lst (l.map fun a => .bl (f a))] = some (.d (.bl (l.any f))) := by
  rw [anyD_l, blsD_map' f l]
  simp [List.any_map]
theorem txt_at {col : List Nat} {i : Nat} (h : i < col.length) : ixD (.str (txt col)) (.int (i : Int)) = some (.d (dg col[i])) := by
  rw [ixD_s]
  show (atI ((col.map (· + 48)).toArray.toList) (i : Int)).map (fun c => Val.d (chD c)) = _
  rw [List.toList_toArray, atI_nat' (by simpa using h)]
  simp [List.getElem?_eq_getElem h]
  rfl
def digits (k : Nat) : Str := cutS "1234" none (some (k : Int))
theorem in_digits {c k : Nat} (h1 : 1 ≤ c) (h2 : c ≤ 4) (h3 : 1 ≤ k) (h4 : k ≤ 4) : inD (dg c) (.str (digits k)) = some (decide (c ≤ k)) := by
  have key : ∀ (c k : Fin 4), inD (dg (c.val + 1)) (.str (digits (k.val + 1))) = some (decide (c.val + 1 ≤ k.val + 1)) := by
    intro c k
    show some (!(Builtin.Str.occurrences (digits (k.val + 1)) ⟨#[c.val + 1 + 48]⟩ 0 (digits (k.val + 1)).length 1).isEmpty) = _
    revert c k
    decide +kernel
  have := key ⟨c - 1, by omega⟩ ⟨k - 1, by omega⟩
  simp only [show c - 1 + 1 = c by omega, show k - 1 + 1 = k by omega] at this
  exact this
theorem intD_dg {c : Nat} (h : c < 10) : intD' [dg c] = some (.d (nI c)) := by
  have key : ∀ c : Fin 10, (match intD' [dg c.val] with | some (.d (.int i)) => decide (i = (c.val : Int)) | _ => false) = true := by decide +kernel
  have := key ⟨c, h⟩
  simp only at this
  split at this
  · rename_i i hi
    rw [hi]
    have := of_decide_eq_true this
    rw [this]; rfl
  · cases this
/-! dicts by their pairs -/
theorem keysD_ch : ∀ cs : List Nat, keysD (cs.map chD) = some (cs.map fun c => Sum.inr (chS c))
  | [] => rfl
  | c :: cs => by
    show ((keyD (chD c)).bind fun k => (keysD (cs.map chD)).map fun ks => k :: ks) = _
    rw [keysD_ch cs]; rfl
theorem putD_new {ps : List (L2.Key × D)} {k : L2.Key} {d : D} (h : k ∉ ps.map (·.1)) : putD ps k d = ps ++ [(k, d)] := by
  unfold putD
  rw [if_neg]
  intro hh
  obtain ⟨q, hq, e⟩ := List.any_eq_true.mp hh
  exact h (List.mem_map.mpr ⟨q, hq, of_decide_eq_true e⟩)
theorem mergeD_nodup : ∀ (more ps : List (L2.Key × D)), ((ps ++ more).map (·.1)).Nodup → mergeD ps more = ps ++ more
  | [], ps, _ => by simp [mergeD]
  | q :: more, ps, h => by
    have h' : ((ps ++ [q] ++ more).map (·.1)).Nodup := by simpa using h
    have hq : q.1 ∉ ps.map (·.1) := by
      rw [List.map_append, List.map_cons, List.nodup_append] at h
      exact fun hm => h.2.2 q.1 hm q.1 List.mem_cons_self rfl
    show mergeD (putD ps q.1 q.2) more = _
    rw [putD_new hq, mergeD_nodup more (ps ++ [(q.1, q.2)]) h']
    simp
theorem nodup_chS {cs : List Nat} (h : cs.Nodup) : (cs.map fun c => (Sum.inr (chS c) : L2.Key)).Nodup := by
  rw [List.nodup_iff_pairwise_ne, List.pairwise_map]
  exact (List.nodup_iff_pairwise_ne.mp h).imp fun hab e => hab (chS_inj (Sum.inr.inj e))
theorem zip_dict {cs : List Nat} {m : List D} (hn : cs.Nodup) (hl : m.length = cs.length) : (zipKD (cs.map chD) m).map (fun kd => dctM (mergeD [] kd)) = some (.dct (cs.map fun c => Sum.inr (chS c)) m) := by
  unfold zipKD
  rw [List.length_map, hl, Nat.min_self, List.take_of_length_le (by simp), keysD_ch, Option.map_some, Option.map_some]
  have hl2 : m.length = (cs.map fun c => (Sum.inr (chS c) : L2.Key)).length := by simpa using hl
  obtain ⟨z1, z2⟩ := zip_fst hl2
  rw [mergeD_nodup _ _ (by rw [List.nil_append, z1]; exact nodup_chS hn), List.nil_append]
  unfold dctM
  rw [z1, z2]
theorem valD_idx : ∀ {cs : List Nat} {m : List D} {a : Nat}, a ∈ cs → valD ((cs.map fun c => (Sum.inr (chS c) : L2.Key)).zip m) (.inr (chS a)) = m[cs.idxOf a]?
  | [], m, a, h => by cases h
  | c :: cs, [], a, h => by simp [valD]
  | c :: cs, d :: m, a, h => by
    unfold valD
    rw [List.map_cons, List.zip_cons_cons, List.find?_cons]
    by_cases q : c = a
    · subst q
      simp
    · have q1 : ¬ (Sum.inr (chS c) : L2.Key) = .inr (chS a) := fun e => q (chS_inj (Sum.inr.inj e))
      have q2 : (c == a) = false := by rw [beq_eq_false_iff_ne]; exact q
      have hm : a ∈ cs := by
        rcases List.mem_cons.mp h with rfl | h
        · exact absurd rfl q
        · exact h
      rw [decide_eq_false q1, List.idxOf_cons, q2]
      exact valD_idx hm
end KD
namespace KM
open PySem PySem.Spec PyProof.Rows L2 KD
/-! colourings -/
def colOf (cs col : List Nat) (a : Nat) : Nat := col.getD (cs.idxOf a) 0
/-- a colouring of a web, with colours from 1 to k -/
structure Col (cs : List Nat) (ps : List (Nat × Nat)) (k : Nat) (col : List Nat) : Prop where
  len : col.length = cs.length
  bd : ∀ c ∈ col, 1 ≤ c ∧ c ≤ k
  ok : ∀ p ∈ ps, col.getD p.1 0 ≠ col.getD p.2 0
theorem idx_lt {cs : List Nat} {a : Nat} (h : a ∈ cs) : cs.idxOf a < cs.length := List.idxOf_lt_length_of_mem h
theorem Col.at_ {cs : List Nat} {ps : List (Nat × Nat)} {k : Nat} {col : List Nat} (C : Col cs ps k col) {a : Nat} (h : a ∈ cs) : ∃ hi : cs.idxOf a < col.length, colOf cs col a = col[cs.idxOf a] ∧ 1 ≤ colOf cs col a ∧ colOf cs col a ≤ k := by
  have hi : cs.idxOf a < col.length := by rw [C.len]; exact idx_lt h
  have e : colOf cs col a = col[cs.idxOf a] := by unfold colOf; rw [List.getD_eq_getElem?_getD, List.getElem?_eq_getElem hi]; rfl
  have := C.bd _ (List.getElem_mem hi)
  exact ⟨hi, e, by rw [e]; exact this.1, by rw [e]; exact this.2⟩
end KM

set_option maxHeartbeats 4000000
namespace KM
open PySem PySem.Spec PyProof.Rows L2 KD
/-! the law's own end: the source family -/
theorem bls_all : ∀ l : List D, blsD (l.map fun _ => D.bl true) = some (l.map fun _ => true)
  | [] => rfl
  | d :: l => by
    show ((blsD (l.map fun _ => D.bl true)).map fun r => true :: r) = _
    rw [bls_all l]
    rfl
end KM

set_option maxHeartbeats 4000000
namespace KD
open PySem PySem.Spec PyProof.Rows L2
theorem eBor_own {i : Nat} {f : EM} {ε : SE} {m : MO} {v : Val} (h : nth ε.sl i = some (.own m)) (hf : f (setS ε i (.d m.toD)) = some (v, setS ε i (.d m.toD))) (h1 : flatVal v = true) (h2 : ε.M.all flatMO = true) (h3 : (setS ε i (.d m.toD)).sl.all flatSl = true) : eBor i f ε = some (v, ε) := by
  unfold eBor
  rw [show ε.sl[i]? = some (.own m) from h]
  simp only []
  rw [hf, Option.bind_some, if_pos ⟨h1, h2, h3, rfl⟩]
  rfl
theorem eBor_d {i : Nat} {f : EM} {ε : SE} {x : D} (h : nth ε.sl i = some (.d x)) : eBor i f ε = f ε := by
  unfold eBor
  rw [show ε.sl[i]? = some (.d x) from h]
end KD
namespace KM
open PySem PySem.Spec PyProof.Rows L2 KD
/-! met in many laws -/
theorem Bag.flat {z : Nat} {M : List MO} (h : Bag z M) : M.all flatMO = true := by
  obtain ⟨a, b, c, rfl, _⟩ := h
  rfl
abbrev tupC (L : List Nat) : D := .tup (L.map chD)
@[simp] theorem res_tupC {ε : SE} {L : List Nat} : Val.res ε (.d (tupC L)) = some (tupC L) := id rfl
theorem Enc.tupC : Enc KM.tupC 1 := Enc.ch.tup
end KM

set_option maxHeartbeats 4000000
namespace KM
open PySem PySem.Spec PyProof.Rows L2 KD
/-! the draws of the «bag» laws -/
theorem l_draw_spec {z : Nat} {M : List MO} {n : Int} (hB : Bag z M) (hz : z < 2 ^ 59) (h0 : 0 < n) (h1 : n < 1073741824) :
    ∃ (v : Nat) (M' : List MO), f_l_draw [.ptr 0, .int n] M = some (.d (.int (v : Int)), M') ∧ Bag (z + 1) M' ∧ (v : Int) < n := by
  obtain ⟨a, b, c, rfl, ha, hb, hc, hcz⟩ := hB
  have e1 : wid (69031 : Int) = true := wid_mk (by decide) (by decide)
  have e2 : wid (11 : Int) = true := wid_mk (by decide) (by decide)
  have e4 : wid ((b + 69031 * (c + 1)) % 64033 + 53003) = true := by
    have h1 := Int.emod_nonneg (b + 69031 * (c + 1)) (show (64033 : Int) ≠ 0 by omega)
    have h2 := Int.emod_lt_of_pos (b + 69031 * (c + 1)) (show (0 : Int) < 64033 by omega)
    exact wid_mk (by omega) (by omega)
  have main : ∃ (v : Int) (M' : List MO), f_l_draw [.ptr 0, .int n] [.lst [.int a, .int b, .int c]] = some (.d (.int v), M') ∧ Bag (z + 1) M' ∧ 0 ≤ v ∧ v < n := by
    unfold f_l_draw m_l_draw
    by_cases h : 0 < a
    · refine ⟨a % n, [.lst [.int (a / n), .int b, .int (c + 1)]], ?_, ⟨_, _, _, rfl, Int.ediv_nonneg ha (by omega), hb, by omega, by omega⟩, Int.emod_nonneg _ (by omega), Int.emod_lt_of_pos _ h0⟩
      simp [slots0, List.replicate, ixN, atI, modD_i, fdivD_i, h, h0, h1]
    · refine ⟨((b + 69031 * (c + 1)) * ((b + 69031 * (c + 1)) % 64033 + 53003) + 11 * (c + 1) + 19) % 2147483549 / 509 % n, [.lst [.int a, .int (((b + 69031 * (c + 1)) * ((b + 69031 * (c + 1)) % 64033 + 53003) + 11 * (c + 1) + 19) % 2147483549), .int (c + 1)]], ?_, ⟨_, _, _, rfl, ha, Int.emod_nonneg _ (by omega), by omega, by omega⟩, Int.emod_nonneg _ (by omega), Int.emod_lt_of_pos _ h0⟩
      simp [slots0, List.replicate, ixN, atI, modD_i, fdivD_i, mulD_l e1, mulD_l e2, mulD_r e4, h, h0, h1]
  obtain ⟨v, M', q1, q2, q3, q4⟩ := main
  obtain ⟨w, rfl⟩ := Int.eq_ofNat_of_zero_le q3
  exact ⟨w, M', q1, q2, q4⟩
theorem l_one_spec {α : Type} {e : α → D} {z : Nat} {M : List MO} {q : D} {t : List α} (hB : Bag z M) (hz : z < 2 ^ 50) (h0 : t ≠ []) (hl : t.length < 100000) (hq : q = .lst (t.map e) ∨ q = .tup (t.map e)) :
    ∃ (v : Nat) (hv : v < t.length) (M' : List MO), f_l_one [.ptr 0, q] M = some (.d (e t[v]), M') ∧ Bag (z + 1) M' := by
  have hp : 0 < t.length := List.length_pos_iff.mpr h0
  obtain ⟨v, M', e1, hB', hv⟩ := l_draw_spec (n := (t.length : Int)) hB (by omega) (by omega) (by omega)
  have hv' : v < t.length := by omega
  have ha : atI (t.map e) (v : Int) = some (e t[v]) := by
    rw [atI_nat' (by simpa using hv')]
    simp [List.getElem?_eq_getElem hv']
  refine ⟨v, hv', M', ?_, hB'⟩
  unfold f_l_one m_l_one
  rcases hq with rfl | rfl
  · simp [slots0, e1, ha, hB.len, hB'.len]
  · simp [slots0, e1, ha, hB.len, hB'.len]
theorem l_bag_spec {ns : List Int} {k : Nat} (hl : ns.length ≤ 63) (hk : k ≤ 63) : ∃ m, f_l_bag [.scr ns, .int (k : Int)] [] = some (.new m, []) ∧ Bag 0 [m] ∧ noPM 0 m = true := by
  have e1 : wid (55711 : Int) = true := wid_mk (by decide) (by decide)
  have e2 : wid (98909 : Int) = true := wid_mk (by decide) (by decide)
  have e3 : wid (17 : Int) = true := wid_mk (by decide) (by decide)
  have e4 : wid (92003 : Int) = true := wid_mk (by decide) (by decide)
  have pw : powD (.int 10) (.int 15) = some (.d (.int 1000000000000000)) := by
    show (if (decide ((0 : Int) ≤ 15) && decide ((15 : Int) ≤ 1000) && wid 10) = true then some (Val.d (.int ((10 : Int) ^ (15 : Int).toNat))) else none) = _
    rw [wid_mk (by decide) (by decide), if_pos (by decide)]
    rfl
  have loop : ∀ (l : List Int) (s : Int) (x x4 : Sl), ∃ (s' : Int) (x' : Sl), loopF (gN 2) b_l_bag_1 (l.map .int) ⟨[.d (.scr ns), .d (.int k), x, .no, x4, .d (.int s)], []⟩ = some (.nx ⟨[.d (.scr ns), .d (.int k), x', .no, x4, .d (.int s')], []⟩) := by
    intro l
    induction l with
    | nil => exact fun s x x4 => ⟨s, x, rfl⟩
    | cons a l ih =>
      intro s x x4
      rw [List.map_cons, loopF_c]
      unfold b_l_bag_1 at ih ⊢
      simp [mulD_r e1, mulD_l e3, modD_i]
      exact ih _ _ _
  have sl : KD.cutD (ns.map D.int) none (some 7) = (ns.map D.int).take 7 := by
    rw [cutD_to (by omega), show (7 : Int).toNat = 7 from rfl]
  obtain ⟨cell, hcell⟩ : ∃ cell : Int, (ifE (eB (eOp ltD (eVar 1) (eCB lenD (aCons (eVar 0) aNil)))) (eCB intD' (aCons (eOp ixD (eVar 0) (eVar 1)) aNil)) (eC (.int 0))) ⟨[.d (.scr ns), .d (.int k), .no, .no, .no, .no], []⟩ = some (.d (.int cell), ⟨[.d (.scr ns), .d (.int k), .no, .no, .no, .no], []⟩) := by
    by_cases hkl : k < ns.length
    · have hz : atI ns (k : Int) = some ns[k] := by rw [atI_nat' hkl]; exact List.getElem?_eq_getElem hkl
      exact ⟨ns[k], by simp [hkl, hz]⟩
    · exact ⟨0, by simp [hkl]⟩
  obtain ⟨s', x', hlp⟩ := loop (ns.take 7) (98909 * ((k : Int) + 5)) .no (.d (.int cell))
  rw [List.map_take] at hlp
  refine ⟨.lst [.int (if cell < 0 ∨ 1000000000000000 ≤ cell then (if cell < 0 then -cell else cell) else 0), .int ((s' + 92003 * (cell % 999931)) % 2147483549), .int 0], ?_, ⟨_, _, _, rfl, ?_, Int.emod_nonneg _ (by omega), by omega, by omega⟩, rfl⟩
  · unfold f_l_bag m_l_bag w_l_bag_1
    by_cases h : cell < 0
    · simp [-ifE_s, slots0, List.replicate, hcell, mulD_l e2, sl, hlp]
      simp [pw, mulD_l e4, modD_i, h]
    · by_cases h2 : 1000000000000000 ≤ cell
      · simp [-ifE_s, slots0, List.replicate, hcell, mulD_l e2, sl, hlp]
        simp [pw, mulD_l e4, modD_i, h, h2]
      · simp [-ifE_s, slots0, List.replicate, hcell, mulD_l e2, sl, hlp]
        simp [pw, mulD_l e4, modD_i, h, h2]
  · by_cases h : cell < 0
    · simp [h]; omega
    · by_cases h2 : 1000000000000000 ≤ cell
      · simp [h, h2]; omega
      · simp [h, h2]
end KM

/-! the greatest whole lots: plain law -/
namespace PL
open Classical in
noncomputable def reachB (J : Nat → Nat → Bool) (L : List Nat) (x y : Nat) : Bool := decide (R J L x y)
theorem reachB_iff {J : Nat → Nat → Bool} {L : List Nat} {x y : Nat} : reachB J L x y = true ↔ R J L x y := by
  unfold reachB
  exact @decide_eq_true_iff _ (Classical.propDecidable _)
/-- the part of a place, in the order of the lot -/
noncomputable def comp (J : Nat → Nat → Bool) (L : List Nat) (x : Nat) : List Nat := L.filter (reachB J L x)
noncomputable def lotsF (J : Nat → Nat → Bool) (L : List Nat) : Nat → List Nat → List (List Nat)
  | 0, _ => []
  | _ + 1, [] => []
  | n + 1, a :: r => comp J L a :: lotsF J L n ((a :: r).filter fun y => !reachB J L a y)
noncomputable def lots (J : Nat → Nat → Bool) (L : List Nat) : List (List Nat) := lotsF J L L.length L
section
variable {J : Nat → Nat → Bool} {L : List Nat}
theorem comp_part {x : Nat} (hx : x ∈ L) {S : List Nat} (h : Part J L x S) : L.filter (fun y => decide (y ∈ S)) = comp J L x := by
  refine List.filter_congr fun y hy => ?_
  by_cases q : y ∈ S
  · rw [decide_eq_true q, reachB_iff.mpr ((h.iff y).mp q)]
  · have : reachB J L x y = false := by
      rw [Bool.eq_false_iff]
      exact fun e => q ((h.iff y).mpr (reachB_iff.mp e))
    rw [decide_eq_false q, this]
/-- what is left is closed -/
def Closed (J : Nat → Nat → Bool) (L left : List Nat) : Prop := (∀ y ∈ left, y ∈ L) ∧ ∀ y ∈ left, ∀ z ∈ L, J y z = true → z ∈ left
theorem Closed.self : Closed J L L := ⟨fun _ h => h, fun _ _ z hz _ => hz⟩
theorem Closed.reach {left : List Nat} (h : Closed J L left) {x y : Nat} (hx : x ∈ left) (r : R J L x y) : R J left x y ∧ y ∈ left := by
  induction r with
  | refl => exact ⟨.refl, hx⟩
  | step _ m j ih =>
    have := h.2 _ ih.2 _ m j
    exact ⟨ih.1.step this j, this⟩
theorem Closed.part {left : List Nat} (h : Closed J L left) {x : Nat} (hx : x ∈ left) {S : List Nat} (p : Part J left x S) : Part J L x S :=
  ⟨p.has, fun y hy => (p.all y hy).sub h.1, fun y hy z hz hj => p.closed y hy z (h.2 y ((p.all y hy).mem hx) z hz hj) hj⟩
theorem Closed.rest (hJ : ∀ a b, J a b = J b a) {left : List Nat} (h : Closed J L left) {x : Nat} : Closed J L (left.filter fun y => !reachB J L x y) := by
  refine ⟨fun y hy => h.1 y (List.mem_filter.mp hy).1, fun y hy z hz hj => ?_⟩
  obtain ⟨h1, h2⟩ := List.mem_filter.mp hy
  refine List.mem_filter.mpr ⟨h.2 y h1 z hz hj, ?_⟩
  have hn : ¬ R J L x y := fun r => by rw [reachB_iff.mpr r] at h2; cases h2
  have : ¬ R J L x z := fun r => hn (r.step (h.1 y h1) (by rw [hJ]; exact hj))
  have e : reachB J L x z = false := by
    rw [Bool.eq_false_iff]
    exact fun e => this (reachB_iff.mp e)
  rw [e]; rfl
theorem filter_reach_lt {left : List Nat} {a : Nat} {r : List Nat} (e : left = a :: r) : (left.filter fun y => !reachB J L a y).length < left.length := by
  refine List.length_filter_lt_length_iff_exists.mpr ⟨a, by rw [e]; exact List.mem_cons_self, ?_⟩
  rw [reachB_iff.mpr .refl]; simp
theorem reachB_symm (hJ : ∀ a b, J a b = J b a) {x y z : Nat} (hx : x ∈ L) (h : R J L x y) : reachB J L x z = reachB J L y z := by
  cases q : reachB J L y z with
  | true => exact reachB_iff.mpr (h.trans (reachB_iff.mp q))
  | false =>
    rw [Bool.eq_false_iff] at q ⊢
    exact fun e => q (reachB_iff.mpr ((h.symm hJ hx).trans (reachB_iff.mp e)))
theorem comp_eq (hJ : ∀ a b, J a b = J b a) {x y : Nat} (hx : x ∈ L) (h : R J L x y) : comp J L x = comp J L y := List.filter_congr fun z _ => reachB_symm hJ hx h
theorem mem_comp {x y : Nat} : y ∈ comp J L x ↔ y ∈ L ∧ R J L x y := by
  unfold comp
  rw [List.mem_filter, reachB_iff]
/-- one lot alone has a place -/
theorem lots_has (hJ : ∀ a b, J a b = J b a) {p : Nat} : ∀ (n : Nat) (left : List Nat), left.length ≤ n → Closed J L left →
    (lotsF J L n left).filter (fun S => decide (p ∈ S)) = if p ∈ left then [comp J L p] else []
  | 0, left, hl, _ => by
    have : left = [] := List.eq_nil_of_length_eq_zero (by omega)
    subst this
    simp [lotsF]
  | n + 1, [], _, _ => by simp [lotsF]
  | n + 1, a :: r, hl, hc => by
    have ih := lots_has hJ (p := p) n ((a :: r).filter fun y => !reachB J L a y) (by have := filter_reach_lt (J := J) (L := L) (left := a :: r) rfl; omega) (hc.rest hJ)
    have ha : a ∈ L := hc.1 a List.mem_cons_self
    show (comp J L a :: lotsF J L n ((a :: r).filter fun y => !reachB J L a y)).filter (fun S => decide (p ∈ S)) = _
    rw [List.filter_cons, ih]
    by_cases hp : p ∈ comp J L a
    · obtain ⟨h1, h2⟩ := mem_comp.mp hp
      have hm : p ∈ a :: r := (hc.reach List.mem_cons_self h2).2
      have hn : p ∉ (a :: r).filter fun y => !reachB J L a y := fun h => by
        have := (List.mem_filter.mp h).2
        rw [reachB_iff.mpr h2] at this; cases this
      rw [decide_eq_true hp, if_pos rfl, if_neg hn, if_pos hm, comp_eq hJ ha h2]
    · rw [decide_eq_false hp, if_neg (by simp)]
      by_cases hm : p ∈ a :: r
      · have h2 : ¬ R J L a p := fun h => hp (mem_comp.mpr ⟨hc.1 p hm, h⟩)
        have e : reachB J L a p = false := by
          rw [Bool.eq_false_iff]
          exact fun e => h2 (reachB_iff.mp e)
        rw [if_pos hm, if_pos (List.mem_filter.mpr ⟨hm, by rw [e]; rfl⟩)]
      · rw [if_neg hm, if_neg fun h => hm (List.mem_filter.mp h).1]
theorem lots_one (hJ : ∀ a b, J a b = J b a) {p : Nat} (hp : p ∈ L) : (lots J L).filter (fun S => decide (p ∈ S)) = [comp J L p] := by
  have := lots_has hJ (p := p) L.length L (Nat.le_refl _) Closed.self
  rw [if_pos hp] at this
  exact this
theorem lotsF_mem (hJ : ∀ a b, J a b = J b a) : ∀ (n : Nat) (left : List Nat), Closed J L left → ∀ S ∈ lotsF J L n left, ∃ a ∈ L, S = comp J L a
  | 0, _, _, S, h => by cases h
  | n + 1, [], _, S, h => by cases h
  | n + 1, a :: r, hc, S, h => by
    rcases List.mem_cons.mp h with rfl | h
    · exact ⟨a, hc.1 a List.mem_cons_self, rfl⟩
    · exact lotsF_mem hJ n ((a :: r).filter fun y => !reachB J L a y) (hc.rest hJ) S h
theorem comp_sub {x : Nat} : (comp J L x).Sublist L := List.filter_sublist
end
end PL

set_option maxHeartbeats 4000000
namespace KD
open PySem PySem.Spec PyProof.Rows L2
@[simp] theorem extM_s {l m : List D} (h : FitE (l.length + m.length)) : extM (.lst l) [.lst m] = some (.lst (l ++ m), .non) := if_pos h
/-- a comprehension over pairs -/
theorem lc_two {α : Type} {fi : IM} {tt : BM} {te : EM} {v w : Nat} {ε : SE} (S : Sl → Sl → SE) (e1 e2 : α → D) (p : α → Bool) (f : α → D) (xs : List α)
    (h1 : ∀ x y x', setS (S x y) v x' = S x' y) (h2 : ∀ x y y', setS (S x y) w y' = S x y') (n1 : nth (S .no .no).sl v = some .no) (n2 : nth (S .no .no).sl w = some .no)
    (hi : fi ε = some (xs.map fun a => .pair [e1 a, e2 a], S .no .no))
    (hb : ∀ a ∈ xs, tt (S (.d (e1 a)) (.d (e2 a))) = some (p a, S (.d (e1 a)) (.d (e2 a))))
    (he : ∀ a ∈ xs, p a = true → escE te (S (.d (e1 a)) (.d (e2 a))) = some (f a, S (.d (e1 a)) (.d (e2 a)))) :
    eLc fi (gT 2 (gsCons (gN v) (gsCons (gN w) gsNil))) tt te [v, w] ε = some (.new (.lst ((xs.filter p).map f)), S .no .no) := by
  have key : ∀ (xs : List α), (∀ a ∈ xs, tt (S (.d (e1 a)) (.d (e2 a))) = some (p a, S (.d (e1 a)) (.d (e2 a)))) →
      (∀ a ∈ xs, p a = true → escE te (S (.d (e1 a)) (.d (e2 a))) = some (f a, S (.d (e1 a)) (.d (e2 a)))) →
      ∀ x y : Sl, ∃ x' y', compL (gT 2 (gsCons (gN v) (gsCons (gN w) gsNil))) tt te [v, w] (xs.map fun a => .pair [e1 a, e2 a]) (S x y) = some ((xs.filter p).map f, S x' y') := by
    intro xs
    induction xs with
    | nil => intro _ _ x y; exact ⟨x, y, rfl⟩
    | cons a xs ih =>
      intro hb he x y
      obtain ⟨x', y', ih'⟩ := ih (fun b hb' => hb b (List.mem_cons_of_mem _ hb')) (fun b hb' => he b (List.mem_cons_of_mem _ hb')) (.d (e1 a)) (.d (e2 a))
      refine ⟨x', y', ?_⟩
      have ha := hb a List.mem_cons_self
      have eq : compL (gT 2 (gsCons (gN v) (gsCons (gN w) gsNil))) tt te [v, w] ((a :: xs).map fun a => .pair [e1 a, e2 a]) (S x y) = ((gT 2 (gsCons (gN v) (gsCons (gN w) gsNil)) (.pair [e1 a, e2 a]) (wipeS (S x y) [v, w])).bind fun ε1 => (tt ε1).bind fun r => if r.1 = true then (escE te r.2).bind fun y => (compL (gT 2 (gsCons (gN v) (gsCons (gN w) gsNil))) tt te [v, w] (xs.map fun a => .pair [e1 a, e2 a]) y.2).map fun q => (y.1 :: q.1, q.2) else compL (gT 2 (gsCons (gN v) (gsCons (gN w) gsNil))) tt te [v, w] (xs.map fun a => .pair [e1 a, e2 a]) r.2) := rfl
      have eg : gT 2 (gsCons (gN v) (gsCons (gN w) gsNil)) (.pair [e1 a, e2 a]) (wipeS (S x y) [v, w]) = some (S (.d (e1 a)) (.d (e2 a))) := by
        simp only [wipeS_c, wipeS_n, h2, h1, gT_pair, List.length_cons, List.length_nil, gsCons_s, gN_s, Option.bind_some, gsNil_s]
        rfl
      rw [eq, eg, Option.bind_some, ha, Option.bind_some]
      cases hp : p a with
      | false => simp [hp, ih']
      | true => simp only [if_true, he a List.mem_cons_self hp, Option.bind_some, ih', Option.map_some, List.filter_cons_of_pos hp, List.map_cons]
  obtain ⟨x', y', e⟩ := key xs hb he .no .no
  rw [eLc_s, hi, Option.bind_some]
  simp only []
  rw [e, Option.map_some]
  simp only [restS_c, restS_n, n1, n2, keepS_n, h2, h1]
end KD
namespace KM
open PySem PySem.Spec PyProof.Rows L2 KD
/-! whole lots -/
abbrev wlS (cs : List Nat) (ts : List Str) (L : List Nat) (F : List (List Nat)) (left : List Nat) (x4 x5 x6 x7 : Sl) (M : List MO) : SE :=
  ⟨[.d (webD cs ts), .d (tupC L), .own (.lst (F.map tupC)), .d (.lst (left.map chD)), x4, x5, x6, x7, .no, .no], M⟩
abbrev lstS (l : List Nat) : Sl := .d (.lst (l.map chD))
end KM

set_option maxHeartbeats 4000000
namespace KD
open PySem PySem.Spec PyProof.Rows L2
@[simp] theorem inD_nIT {a : Nat} {l : List Nat} : inD (nI a) (.tup (l.map nI)) = some (decide (a ∈ l)) := Enc.nat.inTup (fun _ => rfl) a l
@[simp] theorem inD_nI2 {a i j : Nat} : inD (nI a) (.tup [nI i, nI j]) = some (decide (a = i) || decide (a = j)) := by
  have := inD_nIT (a := a) (l := [i, j])
  simp only [List.map_cons, List.map_nil] at this
  rw [this]
  simp
end KD
namespace KM
open PySem PySem.Spec PyProof.Rows L2 KD
/-! parts for two colours -/
theorem zip_col {cs col : List Nat} (hn : cs.Nodup) (hl : col.length = cs.length) : List.zipWith (fun x y => D.pair [x, y]) (cs.map chD) (col.map dg) = cs.map fun a => .pair [chD a, dg (colOf cs col a)] := by
  apply List.ext_getElem?
  intro i
  rw [List.getElem?_zipWith, List.getElem?_map, List.getElem?_map, List.getElem?_map]
  by_cases h : i < cs.length
  · have h2 : i < col.length := by omega
    rw [List.getElem?_eq_getElem h, List.getElem?_eq_getElem h2]
    have : colOf cs col cs[i] = col[i] := by
      unfold colOf
      rw [hn.idxOf_getElem i h, List.getD_eq_getElem?_getD, List.getElem?_eq_getElem h2]; rfl
    simp [this]
  · rw [List.getElem?_eq_none (by omega)]
    rfl
def bothL (cs col : List Nat) (i j : Nat) : List Nat := cs.filter fun a => decide (colOf cs col a = i) || decide (colOf cs col a = j)
theorem bothL_sub {cs col : List Nat} {i j : Nat} : (bothL cs col i j).Sublist cs := List.filter_sublist
end KM

set_option maxHeartbeats 4000000
namespace KD
open PySem PySem.Spec PyProof.Rows L2
/-- a comprehension that draws: what comes is of some kind -/
theorem lc_draw {α β : Type} {fi : IM} {te : EM} {v : Nat} {ε : SE} (S : Sl → List MO → SE) (enc : α → D) (encB : β → D) (Q : β → Prop) (P : Nat → List MO → Prop) (lim : Nat) (xs : List α) (M0 : List MO) (z : Nat)
    (h1 : ∀ x M x', setS (S x M) v x' = S x' M) (n1 : ∀ x M, nth (S x M).sl v = some x)
    (hi : fi ε = some (xs.map enc, S .no M0)) (hP : P z M0) (hz : z + xs.length < lim)
    (he : ∀ a ∈ xs, ∀ z M, P z M → z < lim → ∃ b M', escE te (S (.d (enc a)) M) = some (encB b, S (.d (enc a)) M') ∧ Q b ∧ P (z + 1) M') :
    ∃ (ys : List β) (M' : List MO), eLc fi (gN v) yesB te [v] ε = some (.new (.lst (ys.map encB)), S .no M') ∧ ys.length = xs.length ∧ (∀ y ∈ ys, Q y) ∧ P (z + xs.length) M' := by
  have key : ∀ (xs : List α), (∀ a ∈ xs, ∀ z M, P z M → z < lim → ∃ b M', escE te (S (.d (enc a)) M) = some (encB b, S (.d (enc a)) M') ∧ Q b ∧ P (z + 1) M') →
      ∀ (x : Sl) (z : Nat) (M : List MO), P z M → z + xs.length < lim → ∃ (ys : List β) (x' : Sl) (M' : List MO), compL (gN v) yesB te [v] (xs.map enc) (S x M) = some (ys.map encB, S x' M') ∧ ys.length = xs.length ∧ (∀ y ∈ ys, Q y) ∧ P (z + xs.length) M' := by
    intro xs
    induction xs with
    | nil => intro _ x z M hP _; exact ⟨[], x, M, rfl, rfl, (fun y hy => by cases hy), hP⟩
    | cons a xs ih =>
      intro he x z M hP hz
      rw [List.length_cons] at hz
      obtain ⟨b, M1, e1, q1, p1⟩ := he a List.mem_cons_self z M hP (by omega)
      obtain ⟨ys, x', M', e2, l2, q2, p2⟩ := ih (fun c hc => he c (List.mem_cons_of_mem _ hc)) (.d (enc a)) (z + 1) M1 p1 (by omega)
      refine ⟨b :: ys, x', M', ?_, by simp [l2], fun y hy => ?_, by rw [List.length_cons, show z + (xs.length + 1) = z + 1 + xs.length by omega]; exact p2⟩
      · have eq : compL (gN v) yesB te [v] ((a :: xs).map enc) (S x M) = ((gN v (enc a) (wipeS (S x M) [v])).bind fun ε1 => (yesB ε1).bind fun r => if r.1 = true then (escE te r.2).bind fun y => (compL (gN v) yesB te [v] (xs.map enc) y.2).map fun q => (y.1 :: q.1, q.2) else compL (gN v) yesB te [v] (xs.map enc) r.2) := rfl
        rw [eq]
        simp only [wipeS_c, wipeS_n, gN_s, h1, Option.bind_some, yesB_s, if_true, e1, e2, Option.map_some, List.map_cons]
      · rcases List.mem_cons.mp hy with rfl | hy
        · exact q1
        · exact q2 y hy
  obtain ⟨ys, x', M', e, l, q, p⟩ := key xs he .no z M0 hP hz
  refine ⟨ys, M', ?_, l, q, p⟩
  rw [eLc_s, hi, Option.bind_some]
  simp only []
  rw [e, Option.map_some]
  simp only [restS_c, restS_n, n1, keepS_n, h1]
theorem digits_len {k : Nat} (h1 : 1 ≤ k) (h4 : k ≤ 4) : (digits k).length = k := by
  have key : ∀ k : Fin 4, (digits (k.val + 1)).length = k.val + 1 := by decide +kernel
  have := key ⟨k - 1, by omega⟩
  simp only [show k - 1 + 1 = k by omega] at this
  exact this
theorem digits_at {k v : Nat} (h1 : 1 ≤ k) (h4 : k ≤ 4) (hv : v < k) : ixD (.str (digits k)) (nI v) = some (.d (dg (v + 1))) := by
  have key : ∀ (k v : Fin 4), v.val < k.val + 1 → (match (digits (k.val + 1)).cps.toList[v.val]? with | some c => decide (c = v.val + 1 + 48) | none => false) = true := by decide +kernel
  have := key ⟨k - 1, by omega⟩ ⟨v, by omega⟩ (by simp only; omega)
  simp only [show k - 1 + 1 = k by omega] at this
  have hl := digits_len h1 h4
  show (atI (digits k).cps.toList (v : Int)).map (fun c => Val.d (chD c)) = _
  have hv2 : v < (digits k).cps.toList.length := by
    show v < (digits k).cps.toList.length
    rw [Array.length_toList]
    show v < (digits k).length
    omega
  rw [atI_nat' hv2]
  split at this
  · rename_i c hc
    rw [hc, of_decide_eq_true this]
    rfl
  · cases this
theorem strsD_dg : ∀ col : List Nat, strsD (col.map dg) = some (col.map fun c => chS (c + 48))
  | [] => rfl
  | c :: cs => by
    show ((strsD (cs.map dg)).map fun r => chS (c + 48) :: r) = _
    rw [strsD_dg cs]; rfl
theorem join_dg : ∀ col : List Nat, Txt.join ("" : Str) (col.map fun c => chS (c + 48)) = txt col := by
  intro col
  rw [TL.join_eq]
  induction col with
  | nil => rfl
  | cons c r ih =>
    cases r with
    | nil => rfl
    | cons d r =>
      show chS (c + 48) ++ ("" : Str) ++ Str.join "" ((d :: r).map fun c => chS (c + 48)) = _
      rw [ih]
      unfold txt
      show (⟨(#[c + 48] ++ #[]) ++ ((d :: r).map (· + 48)).toArray⟩ : Str) = _
      congr 1
      apply Array.toList_inj.mp
      simp
theorem txt_ok {col : List Nat} (h : ∀ c ∈ col, c < 1000) (hl : col.length ≤ 1000) : sOk (txt col) = true := by
  unfold sOk
  rw [Bool.and_eq_true]
  refine ⟨?_, decide_eq_true ?_⟩
  · rw [← Array.all_toList]
    refine List.all_eq_true.mpr fun c hc => decide_eq_true ?_
    have hc' : c ∈ col.map (· + 48) := by
      have e : (txt col).cps.toList = col.map (· + 48) := List.toList_toArray
      rw [e] at hc
      exact hc
    obtain ⟨d, hd, rfl⟩ := List.mem_map.mp hc'
    have := h d hd
    omega
  · show (txt col).length ≤ _
    rw [txt_len]; omega
theorem joinD_dg {col : List Nat} (h : ∀ c ∈ col, c < 1000) (hl : col.length ≤ 1000) : joinD (.str ("" : Str)) [.lst (col.map dg)] = some (.d (.str (txt col))) := by
  show ((strsD (col.map dg)).bind fun ys => if (ys.map (·.length)).sum + ys.length * ("" : Str).length ≤ 16777216 ∧ sOk (Txt.join "" ys) = true then some (Val.d (.str (Txt.join "" ys))) else none) = _
  rw [strsD_dg, Option.bind_some, join_dg]
  refine if_pos ⟨?_, txt_ok h hl⟩
  have : ∀ col : List Nat, ((col.map fun c => chS (c + 48)).map (·.length)).sum = col.length := by
    intro col
    induction col with
    | nil => rfl
    | cons c r ih => 
      simp only [List.map_cons, List.sum_cons, List.length_cons, ih]
      show 1 + r.length = _
      omega
  rw [this, List.length_map, show ("" : Str).length = 0 from rfl]
  omega
end KD
namespace KM
open PySem PySem.Spec PyProof.Rows L2 KD
/-! webs with a colouring, drawn -/
abbrev caS (most : Int) (k : Nat) (cs col : List Nat) (xi : Sl) (way : Int) (ps : List (Nat × Nat)) (xj : Sl) (M : List MO) : SE :=
  ⟨[.d (.ptr 0), .d (.int most), .d (nI k), .d (.tup (cs.map chD)), .d (.str (txt col)), xi, .d (.int way), .own (.lst (ps.map fun p => .str (pairS cs p))), xj, .no], M⟩
end KM

set_option maxHeartbeats 4000000
namespace KD
open PySem PySem.Spec PyProof.Rows L2
theorem strD_dg {c : Nat} (h : c < 10) : strD [nI c] = some (.d (dg c)) := by
  have key : ∀ c : Fin 10, (match strD [nI c.val] with | some (.d (.str s)) => decide (s.cps.toList = [c.val + 48]) | _ => false) = true := by
    intro c
    show (match (if (c.val : Int).natAbs.log2 < 1920 ∧ sOk (toString (c.val : Int)) = true then some (Val.d (.str (toString (c.val : Int)))) else none) with | some (.d (.str s)) => decide (s.cps.toList = [c.val + 48]) | _ => false) = true
    revert c
    decide +kernel
  have := key ⟨c, h⟩
  simp only at this
  split at this
  · rename_i s hs
    rw [hs]
    have e := of_decide_eq_true this
    have : s = chS (c + 48) := by
      have e2 : s.cps = #[c + 48] := Array.toList_inj.mp (by rw [e])
      show s = ⟨#[c + 48]⟩
      rw [← e2]
    rw [this]; rfl
  · cases this
end KD
namespace KM
open PySem PySem.Spec PyProof.Rows L2 KD
/-! what the law reaches by itself -/
--SPREAD
abbrev spS (cs : List Nat) (ts : List Str) (col : List Nat) (a h : Nat) (L S : List Nat) (x8 x9 : Sl) (M : List MO) : SE :=
  ⟨[.d (.tup (cs.map chD)), .d (.tup (ts.map .str)), .d (.str (txt col)), .d (chD a), .d (nI h), .d (dg (colOf cs col a)), .d (.lst (L.map chD)), .own (.lst (S.map chD)), x8, x9, .no, .no], M⟩
end KM

set_option maxHeartbeats 4000000
namespace KM
open PySem PySem.Spec PyProof.Rows L2 KD
/-! k28 -/
theorem letter_lt {c : Nat} (h : c ∈ letters) : c < 1000 := by
  have : ∀ c ∈ letters, c < 1000 := by decide +kernel
  exact this c h
theorem shw_tupC {L : List Nat} (h : ∀ a ∈ L, a < 1000) : Shw (tupC L) (L.length * 2) ∧ (toPy (tupC L)).depth ≤ 1 := by
  have := ShwL.mapM (e := chD) (k := 0) (c := 1) L fun a ha => ⟨Shw.ch (by have := h a ha; omega), Nat.le_refl _⟩
  exact ⟨this.tup (by decide), Nat.succ_le_succ this.dp⟩
theorem both_comm {cs col : List Nat} {i j : Nat} : bothL cs col i j = bothL cs col j i := List.filter_congr fun a _ => Bool.or_comm _ _
theorem mem_both {cs col : List Nat} {i j a : Nat} : a ∈ bothL cs col i j ↔ a ∈ cs ∧ (colOf cs col a = i ∨ colOf cs col a = j) := by
  unfold bothL
  rw [List.mem_filter]
  simp
/-- the part is the same from each of its places -/
theorem part_same {cs col : List Nat} {ts : List Str} {a b h : Nat} (ha : a ∈ cs) (hb : b ∈ PL.comp (jn ts) (bothL cs col (colOf cs col a) h) a) (hne : h ≠ colOf cs col a) :
    b ∈ cs ∧ PL.comp (jn ts) (bothL cs col (colOf cs col b) (colOf cs col a + h - colOf cs col b)) b = PL.comp (jn ts) (bothL cs col (colOf cs col a) h) a ∧ colOf cs col a + h - colOf cs col b ≠ colOf cs col b ∧ (colOf cs col b = colOf cs col a ∨ colOf cs col b = h) := by
  obtain ⟨h1, h2⟩ := PL.mem_comp.mp hb
  obtain ⟨h3, h4⟩ := mem_both.mp h1
  have hm : a ∈ bothL cs col (colOf cs col a) h := mem_both.mpr ⟨ha, .inl rfl⟩
  refine ⟨h3, ?_, by omega, h4⟩
  rw [PL.comp_eq (jn_comm ts) hm h2]
  rcases h4 with e | e
  · rw [e, show colOf cs col a + h - colOf cs col a = h by omega]
  · rw [e, show colOf cs col a + h - h = colOf cs col a by omega, both_comm]
abbrev r28 (k : Nat) (cs : List Nat) (ts : List Str) (col : List Nat) (x3 x7 x8 x9 x10 x11 x12 : Sl) (M : List MO) : SE :=
  ⟨[.d (.ptr 0), .d (nI k), .d (webD cs ts), x3, .d (.tup (cs.map chD)), .d (.tup (ts.map .str)), .d (.str (txt col)), x7, x8, x9, x10, x11, x12], M⟩
abbrev repT (n : Nat) (S : List Nat) : MO := .lst (List.replicate n (tupC S))
end KM

/-! the lots, group by group: plain law -/
namespace PL
noncomputable def gstep (J : Nat → Nat → Bool) (L : List Nat) (p : Nat → Bool) (s : List (List Nat) × List Nat) (a : Nat) : List (List Nat) × List Nat :=
  if (p a && !decide (a ∈ s.2)) = true then (s.1 ++ [comp J L a], s.2 ++ comp J L a) else s
theorem groups_lots {J : Nat → Nat → Bool} {L : List Nat} {p : Nat → Bool} : ∀ (xs : List Nat) (F : List (List Nat)) (K : List Nat) (n : Nat), (∀ y ∈ xs, p y = true → y ∈ L) → (xs.filter fun y => p y && !decide (y ∈ K)).length ≤ n →
    (xs.foldl (gstep J L p) (F, K)).1 = F ++ lotsF J L n (xs.filter fun y => p y && !decide (y ∈ K))
  | [], F, K, n, _, _ => by
    cases n <;> simp [lotsF]
  | a :: xs, F, K, n, hp, hn => by
    rw [List.foldl_cons]
    rw [List.filter_cons] at hn ⊢
    by_cases q : (p a && !decide (a ∈ K)) = true
    · rw [if_pos q] at hn ⊢
      rw [List.length_cons] at hn
      obtain ⟨n, rfl⟩ : ∃ m, n = m + 1 := ⟨n - 1, by omega⟩
      have e1 : gstep J L p (F, K) a = (F ++ [comp J L a], K ++ comp J L a) := if_pos q
      have ha : a ∈ L := hp a List.mem_cons_self (by revert q; cases p a <;> simp)
      have ef : ((a :: xs.filter fun y => p y && !decide (y ∈ K)).filter fun y => !reachB J L a y) = xs.filter fun y => p y && !decide (y ∈ K ++ comp J L a) := by
        rw [List.filter_cons, if_neg (by rw [reachB_iff.mpr .refl]; simp), List.filter_filter]
        refine List.filter_congr fun y hy => ?_
        by_cases hpy : p y = true
        · have hyL := hp y (List.mem_cons_of_mem _ hy) hpy
          cases hr : reachB J L a y with
          | true =>
            have : y ∈ comp J L a := mem_comp.mpr ⟨hyL, reachB_iff.mp hr⟩
            simp [this]
          | false =>
            have : y ∉ comp J L a := fun h => by
              rw [reachB_iff.mpr (mem_comp.mp h).2] at hr; cases hr
            simp [this]
        · rw [Bool.not_eq_true] at hpy
          simp [hpy]
      have hl : (xs.filter fun y => p y && !decide (y ∈ K ++ comp J L a)).length ≤ n := by
        rw [← ef]
        rw [List.filter_cons, if_neg (by rw [reachB_iff.mpr .refl]; simp)]
        exact Nat.le_trans (List.length_filter_le _ _) (by omega)
      rw [e1, groups_lots xs _ _ n (fun y hy => hp y (List.mem_cons_of_mem _ hy)) hl]
      show F ++ [comp J L a] ++ _ = F ++ (comp J L a :: lotsF J L n ((a :: xs.filter fun y => p y && !decide (y ∈ K)).filter fun y => !reachB J L a y))
      rw [ef]
      simp
    · rw [if_neg q] at hn ⊢
      have e1 : gstep J L p (F, K) a = (F, K) := if_neg q
      rw [e1]
      exact groups_lots xs F K n (fun y hy => hp y (List.mem_cons_of_mem _ hy)) hn
theorem lotsF_len {J : Nat → Nat → Bool} {L : List Nat} : ∀ (n : Nat) (l : List Nat), (lotsF J L n l).length ≤ n
  | 0, _ => Nat.le_refl _
  | n + 1, [] => Nat.zero_le _
  | n + 1, a :: r => by
    show (lotsF J L n _).length + 1 ≤ n + 1
    have := lotsF_len (J := J) (L := L) n ((a :: r).filter fun y => !reachB J L a y)
    omega
end PL

set_option maxHeartbeats 4000000
namespace KM
open PySem PySem.Spec PyProof.Rows L2 KD
/-! k29 -/
noncomputable abbrev grp (cs col : List Nat) (ts : List Str) (i j : Nat) (n : Nat) : List (List Nat) × List Nat :=
  (cs.take n).foldl (PL.gstep (jn ts) (bothL cs col i j) fun a => decide (colOf cs col a = i) || decide (colOf cs col a = j)) ([], [])
theorem comp_len {cs col : List Nat} {ts : List Str} {i j a : Nat} : (PL.comp (jn ts) (bothL cs col i j) a).length ≤ cs.length := Nat.le_trans PL.comp_sub.length_le bothL_sub.length_le
abbrev gS (cs : List Nat) (ts : List Str) (col : List Nat) (i j : Nat) (F : List (List Nat)) (K : List Nat) (x7 x8 x9 : Sl) (M : List MO) : SE :=
  ⟨[.d (.tup (cs.map chD)), .d (.tup (ts.map .str)), .d (.str (txt col)), .d (nI i), .d (nI j), .own (.lst (F.map tupC)), .own (.lst (K.map chD)), x7, x8, x9], M⟩
end KM
namespace KM
open PySem PySem.Spec PyProof.Rows L2 KD
theorem lots_le {J : Nat → Nat → Bool} {cs col : List Nat} {i j : Nat} : (PL.lots J (bothL cs col i j)).length ≤ cs.length := Nat.le_trans (PL.lotsF_len _ _) bothL_sub.length_le
noncomputable abbrev lotD (cs col : List Nat) (ts : List Str) (i j : Nat) : D := .tup ((PL.lots (jn ts) (bothL cs col i j)).map tupC)
theorem shw_lots {cs col : List Nat} {ts : List Str} {i j : Nat} (hc : ∀ a ∈ cs, a < 1000) (h6 : cs.length ≤ 6) (hJ : ∀ a b, jn ts a b = jn ts b a) : Shw (lotD cs col ts i j) 200 ∧ (toPy (lotD cs col ts i j)).depth ≤ 2 := by
  have hl := ShwL.mapM (e := tupC) (k := 1) (c := 12) (PL.lots (jn ts) (bothL cs col i j)) fun S hS => by
    obtain ⟨a, ha, rfl⟩ := PL.lotsF_mem hJ _ _ PL.Closed.self S hS
    have h1 := shw_tupC (L := PL.comp (jn ts) (bothL cs col i j) a) fun b hb => hc b (bothL_sub.subset (PL.comp_sub.subset hb))
    have h2 := comp_len (cs := cs) (col := col) (ts := ts) (i := i) (j := j) (a := a)
    exact ⟨h1.1.up (by omega), h1.2⟩
  have hL := lots_le (J := jn ts) (cs := cs) (col := col) (i := i) (j := j)
  have h9 : (PL.lots (jn ts) (bothL cs col i j)).length * (12 + 1) ≤ 6 * 13 := Nat.mul_le_mul (by omega) (by omega)
  exact ⟨(hl.tup (by decide)).up (by omega), Nat.succ_le_succ hl.dp⟩
abbrev r29 (k : Nat) (cs : List Nat) (ts : List Str) (col : List Nat) (x3 x7 x8 x9 : Sl) (M : List MO) : SE :=
  ⟨[.d (.ptr 0), .d (nI k), .d (webD cs ts), x3, .d (.tup (cs.map chD)), .d (.tup (ts.map .str)), .d (.str (txt col)), x7, x8, x9], M⟩
theorem lots_comm {cs col : List Nat} {ts : List Str} {i j : Nat} : PL.lots (jn ts) (bothL cs col i j) = PL.lots (jn ts) (bothL cs col j i) := by rw [both_comm]
end KM

set_option maxHeartbeats 4000000
namespace KD
open PySem PySem.Spec PyProof.Rows L2
/-! texts of figures -/
theorem txt_snoc {l : List Nat} {c : Nat} : txt l ++ chS (c + 48) = txt (l ++ [c]) := by
  show (⟨(l.map (· + 48)).toArray ++ #[c + 48]⟩ : Str) = ⟨((l ++ [c]).map (· + 48)).toArray⟩
  simp
theorem txt_nil : txt [] = ("" : Str) := rfl
theorem iadd2_txt {l : List Nat} {c : Nat} (h : FitE (l.length + 1)) : iadd2 (.str (txt l)) (dg c) = some (.str (txt (l ++ [c]))) := by
  show iadd2 (.str (txt l)) (.str (chS (c + 48))) = _
  rw [iadd2_s (by rw [txt_len]; exact h), txt_snoc]
theorem addD_txt {l : List Nat} {c : Nat} (h : FitE (l.length + 1)) : addD (.str (txt l)) (dg c) = some (.d (.str (txt (l ++ [c])))) := by
  show (if (txt l).length + (chS (c + 48)).length ≤ 16777216 then some (Val.d (.str (txt l ++ chS (c + 48)))) else none) = _
  rw [if_pos (by rw [txt_len]; exact h), txt_snoc]
theorem shw_txt {col : List Nat} (h : ∀ c ∈ col, c < 10) : Shw (.str (txt col)) col.length := by
  refine Shw.str (fun x hx => ?_) (by show (col.map (· + 48)).toArray.size ≤ _; simp)
  have hx' : x ∈ (col.map (· + 48)).toArray.toList := hx
  rw [List.toList_toArray] at hx'
  obtain ⟨c, hc, rfl⟩ := List.mem_map.mp hx'
  have := h c hc
  omega
end KD
namespace KM
open PySem PySem.Spec PyProof.Rows L2 KD
/-! exchanges -/
def swapF (cs col S : List Nat) (i j a : Nat) : Nat := if a ∈ S then i + j - colOf cs col a else colOf cs col a
def swapC (cs col S : List Nat) (i j : Nat) : List Nat := cs.map (swapF cs col S i j)
theorem swap_len {cs col S : List Nat} {i j : Nat} : (swapC cs col S i j).length = cs.length := List.length_map _
theorem colOf_map {cs : List Nat} {f : Nat → Nat} {a : Nat} (h : a ∈ cs) : colOf cs (cs.map f) a = f a := by
  unfold colOf
  rw [List.getD_eq_getElem?_getD, List.getElem?_map, List.getElem?_eq_getElem (idx_lt h)]
  simp
theorem colOf_swap {cs col S : List Nat} {i j a : Nat} (h : a ∈ cs) : colOf cs (swapC cs col S i j) a = swapF cs col S i j a := colOf_map h
theorem map_colOf {cs col : List Nat} (hn : cs.Nodup) (hl : col.length = cs.length) : cs.map (colOf cs col) = col := by
  apply List.ext_getElem
  · rw [List.length_map, hl]
  · intro i h1 h2
    rw [List.getElem_map]
    unfold colOf
    rw [hn.idxOf_getElem i (by omega), List.getD_eq_getElem?_getD, List.getElem?_eq_getElem h2]; rfl
theorem getD_colOf {cs col : List Nat} (hn : cs.Nodup) {i : Nat} (hi : i < cs.length) : col.getD i 0 = colOf cs col (cs.getD i 0) := by
  unfold colOf
  rw [show cs.getD i 0 = cs[i] by rw [List.getD_eq_getElem?_getD, List.getElem?_eq_getElem hi]; rfl, hn.idxOf_getElem i hi]
theorem jn_pair {cs : List Nat} {ps : List (Nat × Nat)} {p : Nat × Nat} (hp : p ∈ ps) : jn (ps.map (pairS cs)) (cs.getD p.1 0) (cs.getD p.2 0) = true := by
  unfold jn
  rw [decide_eq_true (show str2 (cs.getD p.1 0) (cs.getD p.2 0) ∈ ps.map (pairS cs) from List.mem_map.mpr ⟨p, hp, rfl⟩)]; rfl
/-- a lot of places with one of two colours, with all that is joined with it -/
structure Lot (J : Nat → Nat → Bool) (cs col S : List Nat) (i j : Nat) : Prop where
  sub : ∀ a ∈ S, a ∈ bothL cs col i j
  cl : ∀ a ∈ S, ∀ b ∈ bothL cs col i j, J a b = true → b ∈ S
theorem Lot.comp {J : Nat → Nat → Bool} {cs col : List Nat} {i j a : Nat} (ha : a ∈ bothL cs col i j) : Lot J cs col (PL.comp J (bothL cs col i j) a) i j :=
  ⟨fun b hb => (PL.mem_comp.mp hb).1, fun b hb c hc hJ => PL.mem_comp.mpr ⟨hc, (PL.mem_comp.mp hb).2.step hc hJ⟩⟩
theorem Col.swap {cs : List Nat} {ps : List (Nat × Nat)} {k : Nat} {col S : List Nat} {i j : Nat} (N : Net cs ps) (C : Col cs ps k col) (L : Lot (jn (ps.map (pairS cs))) cs col S i j) (hi : 1 ≤ i ∧ i ≤ k) (hj : 1 ≤ j ∧ j ≤ k) : Col cs ps k (swapC cs col S i j) := by
  have inb : ∀ a ∈ S, a ∈ cs ∧ (colOf cs col a = i ∨ colOf cs col a = j) := fun a ha => mem_both.mp (L.sub a ha)
  refine ⟨swap_len, fun c hc => ?_, fun p hp => ?_⟩
  · obtain ⟨a, ha, rfl⟩ := List.mem_map.mp hc
    obtain ⟨_, _, c1, c2⟩ := C.at_ ha
    unfold swapF
    split
    · rename_i q
      have := (inb a q).2
      omega
    · exact ⟨c1, c2⟩
  · obtain ⟨o1, o2⟩ := N.ok p hp
    have hx : cs.getD p.1 0 ∈ cs := by
      rw [List.getD_eq_getElem?_getD, List.getElem?_eq_getElem (show p.1 < cs.length by omega)]
      exact List.getElem_mem (show p.1 < cs.length by omega)
    have hy : cs.getD p.2 0 ∈ cs := by
      rw [List.getD_eq_getElem?_getD, List.getElem?_eq_getElem o2]
      exact List.getElem_mem o2
    have hne := C.ok p hp
    have hj1 := jn_pair (cs := cs) hp
    have hj2 := hj1
    rw [jn_comm] at hj2
    rw [getD_colOf N.nd (show p.1 < cs.length by omega), getD_colOf N.nd o2] at hne ⊢
    rw [colOf_swap hx, colOf_swap hy]
    generalize cs.getD p.1 0 = x at *
    generalize cs.getD p.2 0 = y at *
    unfold swapF
    by_cases qx : x ∈ S
    · by_cases qy : y ∈ S
      · have h1 := (inb x qx).2
        have h2 := (inb y qy).2
        rw [if_pos qx, if_pos qy]; omega
      · have h1 := (inb x qx).2
        have h2 : ¬ (colOf cs col y = i ∨ colOf cs col y = j) := fun h => qy (L.cl x qx y (mem_both.mpr ⟨hy, h⟩) hj1)
        rw [if_pos qx, if_neg qy]; omega
    · by_cases qy : y ∈ S
      · have h1 := (inb y qy).2
        have h2 : ¬ (colOf cs col x = i ∨ colOf cs col x = j) := fun h => qx (L.cl y qy x (mem_both.mpr ⟨hx, h⟩) hj2)
        rw [if_neg qx, if_pos qy]; omega
      · rw [if_neg qx, if_neg qy]; exact hne
theorem both_swap {J : Nat → Nat → Bool} {cs col S : List Nat} {i j : Nat} (L : Lot J cs col S i j) : bothL cs (swapC cs col S i j) i j = bothL cs col i j := by
  refine List.filter_congr fun a ha => ?_
  rw [colOf_swap ha]
  unfold swapF
  split
  · rename_i q
    have := (mem_both.mp (L.sub a q)).2
    rw [← Bool.decide_or, ← Bool.decide_or, decide_eq_decide]
    omega
  · rfl
theorem swap_back {J : Nat → Nat → Bool} {cs col S : List Nat} {i j : Nat} (hn : cs.Nodup) (hl : col.length = cs.length) (L : Lot J cs col S i j) : swapC cs (swapC cs col S i j) S i j = col := by
  rw [← map_colOf hn hl]
  refine List.map_congr_left fun a ha => ?_
  show swapF cs (swapC cs (cs.map (colOf cs col)) S i j) S i j a = _
  rw [map_colOf hn hl]
  unfold swapF
  rw [colOf_swap ha]
  unfold swapF
  split
  · rename_i q
    have := (mem_both.mp (L.sub a q)).2
    omega
  · rfl
theorem swap_comm {cs col S : List Nat} {i j : Nat} : swapC cs col S i j = swapC cs col S j i := by
  unfold swapC
  refine List.map_congr_left fun a _ => ?_
  unfold swapF
  rw [Nat.add_comm]
/-- the turns of both loops -/
theorem addN {i j : Nat} : addD (nI i) (nI j) = some (.d (nI (i + j))) := by
  show some (Val.d (.int ((i : Int) + (j : Int)))) = some (Val.d (.int ((i + j : Nat) : Int)))
  rw [Int.natCast_add]
theorem subN {i j : Nat} (h : j ≤ i) : subD (nI i) (nI j) = some (.d (nI (i - j))) := by
  show some (Val.d (.int ((i : Int) - (j : Int)))) = some (Val.d (.int ((i - j : Nat) : Int)))
  rw [Int.ofNat_sub h]
theorem take_snoc {α β : Type} (f : α → β) {xs : List α} {n : Nat} {a : α} (h : xs[n]? = some a) : (xs.map f).take (n + 1) = (xs.map f).take n ++ [f a] := by
  rw [List.take_add_one, List.getElem?_map, h]; rfl
end KM

set_option maxHeartbeats 4000000
namespace KD
open PySem PySem.Spec PyProof.Rows L2
/-! walks that gather; ranges; slices of texts; repr tells texts apart -/
/-- a comprehension over pairs that are tuples -/
theorem lc_twoT {α : Type} {fi : IM} {tt : BM} {te : EM} {v w : Nat} {ε : SE} (S : Sl → Sl → SE) (e1 e2 : α → D) (p : α → Bool) (f : α → D) (xs : List α)
    (h1 : ∀ x y x', setS (S x y) v x' = S x' y) (h2 : ∀ x y y', setS (S x y) w y' = S x y') (n1 : nth (S .no .no).sl v = some .no) (n2 : nth (S .no .no).sl w = some .no)
    (hi : fi ε = some (xs.map fun a => .tup [e1 a, e2 a], S .no .no))
    (hb : ∀ a ∈ xs, tt (S (.d (e1 a)) (.d (e2 a))) = some (p a, S (.d (e1 a)) (.d (e2 a))))
    (he : ∀ a ∈ xs, p a = true → escE te (S (.d (e1 a)) (.d (e2 a))) = some (f a, S (.d (e1 a)) (.d (e2 a)))) :
    eLc fi (gT 2 (gsCons (gN v) (gsCons (gN w) gsNil))) tt te [v, w] ε = some (.new (.lst ((xs.filter p).map f)), S .no .no) := by
  have key : ∀ (xs : List α), (∀ a ∈ xs, tt (S (.d (e1 a)) (.d (e2 a))) = some (p a, S (.d (e1 a)) (.d (e2 a)))) →
      (∀ a ∈ xs, p a = true → escE te (S (.d (e1 a)) (.d (e2 a))) = some (f a, S (.d (e1 a)) (.d (e2 a)))) →
      ∀ x y : Sl, ∃ x' y', compL (gT 2 (gsCons (gN v) (gsCons (gN w) gsNil))) tt te [v, w] (xs.map fun a => .tup [e1 a, e2 a]) (S x y) = some ((xs.filter p).map f, S x' y') := by
    intro xs
    induction xs with
    | nil => intro _ _ x y; exact ⟨x, y, rfl⟩
    | cons a xs ih =>
      intro hb he x y
      obtain ⟨x', y', ih'⟩ := ih (fun b hb' => hb b (List.mem_cons_of_mem _ hb')) (fun b hb' => he b (List.mem_cons_of_mem _ hb')) (.d (e1 a)) (.d (e2 a))
      refine ⟨x', y', ?_⟩
      have ha := hb a List.mem_cons_self
      have eq : compL (gT 2 (gsCons (gN v) (gsCons (gN w) gsNil))) tt te [v, w] ((a :: xs).map fun a => .tup [e1 a, e2 a]) (S x y) = ((gT 2 (gsCons (gN v) (gsCons (gN w) gsNil)) (.tup [e1 a, e2 a]) (wipeS (S x y) [v, w])).bind fun ε1 => (tt ε1).bind fun r => if r.1 = true then (escE te r.2).bind fun y => (compL (gT 2 (gsCons (gN v) (gsCons (gN w) gsNil))) tt te [v, w] (xs.map fun a => .tup [e1 a, e2 a]) y.2).map fun q => (y.1 :: q.1, q.2) else compL (gT 2 (gsCons (gN v) (gsCons (gN w) gsNil))) tt te [v, w] (xs.map fun a => .tup [e1 a, e2 a]) r.2) := rfl
      have eg : gT 2 (gsCons (gN v) (gsCons (gN w) gsNil)) (.tup [e1 a, e2 a]) (wipeS (S x y) [v, w]) = some (S (.d (e1 a)) (.d (e2 a))) := by
        simp only [wipeS_c, wipeS_n, h2, h1, gT_tup, List.length_cons, List.length_nil, gsCons_s, gN_s, Option.bind_some, gsNil_s]
        rfl
      rw [eq, eg, Option.bind_some, ha, Option.bind_some]
      cases hp : p a with
      | false => simp [hp, ih']
      | true => simp only [if_true, he a List.mem_cons_self hp, Option.bind_some, ih', Option.map_some, List.filter_cons_of_pos hp, List.map_cons]
  obtain ⟨x', y', e⟩ := key xs hb he .no .no
  rw [eLc_s, hi, Option.bind_some]
  simp only []
  rw [e, Option.map_some]
  simp only [restS_c, restS_n, n1, n2, keepS_n, h2, h1]
theorem for_app {α β : Type} {g : GM} {body : SM} (enc : α → D) (out : α → List β) (I : List β → SE → Prop) : ∀ (xs : List α) (acc : List β) (ε : SE), I acc ε →
    (∀ a acc' ε, a ∈ xs → acc'.length + (out a).length ≤ acc.length + (xs.flatMap out).length → I acc' ε → ∃ ε1 ε2, g (enc a) ε = some ε1 ∧ (body ε1 = some (.nx ε2) ∨ body ε1 = some (.ct ε2)) ∧ I (acc' ++ out a) ε2) →
    ∃ ε', loopF g body (xs.map enc) ε = some (.nx ε') ∧ I (acc ++ xs.flatMap out) ε'
  | [], acc, ε, h, _ => ⟨ε, rfl, by simpa using h⟩
  | a :: xs, acc, ε, h, st => by
    have hl : ((a :: xs).flatMap out).length = (out a).length + (xs.flatMap out).length := by rw [List.flatMap_cons, List.length_append]
    obtain ⟨ε1, ε2, h1, h2, h3⟩ := st a acc ε List.mem_cons_self (by omega) h
    obtain ⟨ε', h4, h5⟩ := for_app enc out I xs (acc ++ out a) ε2 h3 fun b acc' ε hm hb hi => st b acc' ε (List.mem_cons_of_mem _ hm) (by rw [List.length_append] at hb; omega) hi
    refine ⟨ε', ?_, by rw [List.flatMap_cons, ← List.append_assoc]; exact h5⟩
    rw [List.map_cons, loopF_c, h1]
    rcases h2 with h2 | h2 <;> simp [h2, h4]
theorem flatMap_le {α β : Type} {f : α → List β} {c : Nat} : ∀ (xs : List α), (∀ a ∈ xs, (f a).length ≤ c) → (xs.flatMap f).length ≤ xs.length * c
  | [], _ => by simp
  | a :: xs, h => by
    have h1 := h a List.mem_cons_self
    have h2 := flatMap_le xs fun b hb => h b (List.mem_cons_of_mem _ hb)
    rw [List.flatMap_cons, List.length_append, List.length_cons, Nat.succ_mul]
    omega
theorem rngD_nI {a n : Nat} : rngD (a : Int) n = (List.range' a n).map nI := by
  unfold rngD
  rw [List.range'_eq_map_range, List.map_map]
  refine List.map_congr_left fun i _ => ?_
  show D.int ((a : Int) + (i : Int)) = D.int ((a + i : Nat) : Int)
  rw [Int.natCast_add]
theorem rngR_N {a b : Nat} {ε : SE} (hb : b ≤ 1000) (ha : a ≤ 1000) : rngR [.int (a : Int), .int ((b : Int) + 1)] ε = some ((List.range' a (b + 1 - a)).map nI, ε) := by
  have e : ((b : Int) + 1 - (a : Int)).toNat = b + 1 - a := by omega
  rw [rngR_2 (bnd_mk (by omega) (by omega)) (bnd_mk (by omega) (by omega)) (by rw [e]; exact fitE (by omega)), e, rngD_nI]
theorem cut_take {col : List Nat} {n : Nat} (h : n ≤ col.length) : cutS (txt col) none (some (n : Int)) = txt (col.take n) := by
  have h0 : cutS (txt col) none (some (n : Int)) = ⟨(((col.map (· + 48)).toArray.toList.drop 0).take (HT.sIx (txt col).length (txt col).length (some (n : Int)) - 0)).toArray⟩ := rfl
  rw [h0, HT.sIx_nat, txt_len, Nat.min_eq_left h, List.toList_toArray, Nat.sub_zero, List.drop_zero, ← List.map_take]
  rfl
theorem cut_drop {col : List Nat} {n : Nat} (h : n ≤ col.length) : cutS (txt col) (some (n : Int)) none = txt (col.drop n) := by
  have h0 : cutS (txt col) (some (n : Int)) none = ⟨(((col.map (· + 48)).toArray.toList.drop (HT.sIx (txt col).length 0 (some (n : Int)))).take ((txt col).length - HT.sIx (txt col).length 0 (some (n : Int)))).toArray⟩ := rfl
  rw [h0, HT.sIx_nat, txt_len, Nat.min_eq_left h, List.toList_toArray, ← List.map_drop, List.take_of_length_le (by simp)]
  rfl
theorem txt_app {a b : List Nat} : txt a ++ txt b = txt (a ++ b) := by
  show (⟨(a.map (· + 48)).toArray ++ (b.map (· + 48)).toArray⟩ : Str) = ⟨((a ++ b).map (· + 48)).toArray⟩
  simp
theorem dg_txt {c : Nat} : dg c = .str (txt [c]) := rfl
theorem addD_tt {a b : List Nat} (h : a.length + b.length ≤ 1000) : addD (.str (txt a)) (.str (txt b)) = some (.d (.str (txt (a ++ b)))) := by
  show (if (txt a).length + (txt b).length ≤ 16777216 then some (Val.d (.str (txt a ++ txt b))) else none) = _
  rw [if_pos (by rw [txt_len, txt_len]; omega), txt_app]
theorem repr_txt {col : List Nat} (h : ∀ c ∈ col, c < 10) : ∃ q, reprText (txt col) = ⟨([q] ++ col.map (· + 48) ++ [q]).toArray⟩ := by
  have key : ∀ c : Fin 10, Builtin.Str.reprChar 39 (c.val + 48) = [c.val + 48] ∧ Builtin.Str.reprChar 34 (c.val + 48) = [c.val + 48] := by decide +kernel
  have hq : reprQuote (txt col) = 34 ∨ reprQuote (txt col) = 39 := by
    unfold reprQuote
    split
    · exact .inl rfl
    · exact .inr rfl
  refine ⟨reprQuote (txt col), ?_⟩
  unfold reprText
  have hf : ∀ (q : Nat), (q = 34 ∨ q = 39) → ∀ (l : List Nat), (∀ c ∈ l, c < 10) → ∀ acc : Array Nat, (l.map (· + 48)).foldl (fun out c => out ++ (Builtin.Str.reprChar q c).toArray) acc = acc ++ (l.map (· + 48)).toArray := by
    intro q hq l
    induction l with
    | nil => intro _ acc; simp
    | cons c l ih =>
      intro hl acc
      have hk := key ⟨c, hl c List.mem_cons_self⟩
      have hk' : Builtin.Str.reprChar q (c + 48) = [c + 48] := by
        rcases hq with rfl | rfl
        · exact hk.2
        · exact hk.1
      rw [List.map_cons, List.foldl_cons, hk', ih fun d hd => hl d (List.mem_cons_of_mem _ hd)]
      simp
  have hc : (txt col).cps = (col.map (· + 48)).toArray := rfl
  generalize reprQuote (txt col) = q at *
  rw [hc, ← Array.foldl_toList, List.toList_toArray, hf q hq col h]
  apply congrArg Str.mk
  apply Array.toList_inj.mp
  simp
theorem repr_inj {a b : List Nat} (ha : ∀ c ∈ a, c < 10) (hb : ∀ c ∈ b, c < 10) (h : (toPy (.str (txt a))).shown = (toPy (.str (txt b))).shown) : a = b := by
  have h' : reprText (txt a) = reprText (txt b) := h
  obtain ⟨q, e1⟩ := repr_txt ha
  obtain ⟨r, e2⟩ := repr_txt hb
  rw [e1, e2] at h'
  have h2 := congrArg (fun s : Str => s.cps.toList) h'
  simp only [List.toList_toArray, List.singleton_append, List.cons_append] at h2
  injection h2 with h3 h4
  subst h3
  have h5 := List.append_cancel_right h4
  exact List.map_inj_right (fun x y e => by omega) |>.mp h5
theorem eqD_repr {a b : List Nat} (ha : ∀ c ∈ a, c < 10) (hb : ∀ c ∈ b, c < 10) : eqD (.str (toPy (.str (txt a))).shown) (.str (toPy (.str (txt b))).shown) = some (.d (.bl (decide (a = b)))) := by
  have e : eqD (.str (toPy (.str (txt a))).shown) (.str (toPy (.str (txt b))).shown) = some (.d (.bl (decide ((toPy (.str (txt a))).shown = (toPy (.str (txt b))).shown)))) := by simp
  rw [e]
  have : ((toPy (.str (txt a))).shown = (toPy (.str (txt b))).shown) = (a = b) := propext ⟨repr_inj ha hb, fun e => by rw [e]⟩
  simp only [this]
end KD

set_option maxHeartbeats 4000000
namespace KM
open PySem PySem.Spec PyProof.Rows L2 KD
/-! all exchanges of a colouring -/
abbrev Step := Nat × Nat × List Nat
def stepD (s : Step) : D := .tup [.tup [chD s.1, nI s.2.1], .str (txt s.2.2)]
noncomputable def lotOut (cs col : List Nat) (b : Bool) (i j : Nat) (S : List Nat) : List Step :=
  if (decide (S.length = 1) || !b) = true then [(S.headD 0, i + j - colOf cs col (S.headD 0), swapC cs col S i j)] else []
noncomputable def pairOut (ts : List Str) (cs col : List Nat) (b : Bool) (i j : Nat) : List Step := (PL.lots (jn ts) (bothL cs col i j)).flatMap (lotOut cs col b i j)
noncomputable def oneOut (ts : List Str) (cs col : List Nat) (k : Nat) (b : Bool) (i : Nat) : List Step := (List.range' (i + 1) (k - i)).flatMap (pairOut ts cs col b i)
noncomputable def stepsL (ts : List Str) (cs col : List Nat) (k : Nat) (b : Bool) : List Step := (List.range' 1 k).flatMap (oneOut ts cs col k b)
theorem lotOut_le {cs col : List Nat} {b : Bool} {i j : Nat} {S : List Nat} : (lotOut cs col b i j S).length ≤ 1 := by
  unfold lotOut
  split <;> simp
theorem stepsL_le {ts : List Str} {cs col : List Nat} {k : Nat} {b : Bool} (h4 : k ≤ 4) : (stepsL ts cs col k b).length ≤ 16 * cs.length := by
  have h1 : ∀ i j, (pairOut ts cs col b i j).length ≤ cs.length := fun i j => by
    have := flatMap_le (f := lotOut cs col b i j) (c := 1) (PL.lots (jn ts) (bothL cs col i j)) fun _ _ => lotOut_le
    have h := lots_le (J := jn ts) (cs := cs) (col := col) (i := i) (j := j)
    unfold pairOut
    omega
  have h2 : ∀ i, (oneOut ts cs col k b i).length ≤ 4 * cs.length := fun i => by
    have := flatMap_le (f := pairOut ts cs col b i) (c := cs.length) (List.range' (i + 1) (k - i)) fun _ _ => h1 _ _
    rw [List.length_range'] at this
    exact Nat.le_trans this (Nat.mul_le_mul (by omega) (Nat.le_refl _))
  have := flatMap_le (f := oneOut ts cs col k b) (c := 4 * cs.length) (List.range' 1 k) fun _ _ => h2 _
  rw [List.length_range'] at this
  have h3 : k * (4 * cs.length) ≤ 4 * (4 * cs.length) := Nat.mul_le_mul h4 (Nat.le_refl _)
  unfold stepsL
  omega
theorem lot_has {J : Nat → Nat → Bool} {L S : List Nat} (hJ : ∀ a b, J a b = J b a) (h : S ∈ PL.lots J L) : ∃ a ∈ L, a ∈ S ∧ S = PL.comp J L a := by
  obtain ⟨a, ha, rfl⟩ := PL.lotsF_mem hJ _ _ PL.Closed.self S h
  exact ⟨a, ha, PL.mem_comp.mpr ⟨ha, .refl⟩, rfl⟩
abbrev stS (cs : List Nat) (ts : List Str) (k : Nat) (col : List Nat) (b : Bool) (F : List Step) (x5 x6 x7 x8 : Sl) (M : List MO) : SE :=
  ⟨[.d (webD cs ts), .d (nI k), .d (.str (txt col)), .d (.bl b), .own (.lst (F.map stepD)), x5, x6, x7, x8], M⟩
end KM

set_option maxHeartbeats 4000000
namespace KM
open PySem PySem.Spec PyProof.Rows L2 KD
/-! k30 -/
theorem txt_ix {cs col : List Nat} {a : Nat} (hl : col.length = cs.length) (ha : a ∈ cs) : ixD (.str (txt col)) (nI (cs.idxOf a)) = some (.d (dg (colOf cs col a))) := by
  have hi : cs.idxOf a < col.length := by rw [hl]; exact idx_lt ha
  have e : colOf cs col a = col[cs.idxOf a] := by unfold colOf; rw [List.getD_eq_getElem?_getD, List.getElem?_eq_getElem hi]; rfl
  rw [e]
  exact txt_at hi
theorem getD_mem {cs : List Nat} {i : Nat} (h : i < cs.length) : cs.getD i 0 ∈ cs := by
  rw [List.getD_eq_getElem?_getD, List.getElem?_eq_getElem h]
  exact List.getElem_mem h
abbrev r30 (k : Nat) (cs : List Nat) (ts : List Str) (col : List Nat) (x3 x7 x8 x9 x10 x11 : Sl) (M : List MO) : SE :=
  ⟨[.d (.ptr 0), .d (nI k), .d (webD cs ts), x3, .d (.tup (cs.map chD)), .d (.tup (ts.map .str)), .d (.str (txt col)), x7, x8, x9, x10, x11, .no], M⟩
end KM

set_option maxHeartbeats 4000000
namespace KM
open PySem PySem.Spec PyProof.Rows L2 KD
/-! k32: single exchanges -/
noncomputable def single (ts : List Str) (cs col : List Nat) (a h : Nat) : Bool := decide (PL.comp (jn ts) (bothL cs col (colOf cs col a) h) a = [a])
theorem str2_inj {a b c d : Nat} (h : str2 a b = str2 c d) : a = c ∧ b = d := by
  have e' : (#[a, b] : Array Nat) = #[c, d] := congrArg Str.cps h
  simpa using e'
theorem tup_eq {S T : List Nat} : eqD (tupC S) (tupC T) = some (.d (.bl (decide (S = T)))) := Enc.tupC.eqD (by decide) S T
/-- joined places have unlike colours -/
theorem Col.un {cs : List Nat} {ps : List (Nat × Nat)} {k : Nat} {col : List Nat} (N : Net cs ps) (C : Col cs ps k col) {a b : Nat} (ha : a ∈ cs) (hb : b ∈ cs) (hj : jn (ps.map (pairS cs)) a b = true) : colOf cs col a ≠ colOf cs col b := by
  have key : ∀ x y, str2 x y ∈ ps.map (pairS cs) → colOf cs col x ≠ colOf cs col y := fun x y hm => by
    obtain ⟨p, hp, e⟩ := List.mem_map.mp hm
    obtain ⟨o1, o2⟩ := N.ok p hp
    obtain ⟨rfl, rfl⟩ := str2_inj e
    have := C.ok p hp
    rwa [getD_colOf N.nd (show p.1 < cs.length by omega), getD_colOf N.nd o2] at this
  unfold jn at hj
  rw [Bool.or_eq_true, decide_eq_true_iff, decide_eq_true_iff] at hj
  rcases hj with h | h
  · exact key a b h
  · exact fun e => key b a h e.symm
theorem single_iff {cs : List Nat} {ps : List (Nat × Nat)} {k : Nat} {col : List Nat} (N : Net cs ps) (C : Col cs ps k col) {a h : Nat} (ha : a ∈ cs) :
    single (ps.map (pairS cs)) cs col a h = true ↔ ∀ b ∈ cs, jn (ps.map (pairS cs)) a b = true → colOf cs col b ≠ h := by
  unfold single
  rw [decide_eq_true_iff]
  have hm : a ∈ bothL cs col (colOf cs col a) h := mem_both.mpr ⟨ha, .inl rfl⟩
  constructor
  · intro e b hb hj hc
    have : b ∈ PL.comp (jn (ps.map (pairS cs))) (bothL cs col (colOf cs col a) h) a := PL.mem_comp.mpr ⟨mem_both.mpr ⟨hb, .inr hc⟩, PL.R.refl.step (mem_both.mpr ⟨hb, .inr hc⟩) hj⟩
    rw [e, List.mem_singleton] at this
    subst this
    rw [jn_self N] at hj
    cases hj
  · intro hh
    have only : ∀ y, PL.R (jn (ps.map (pairS cs))) (bothL cs col (colOf cs col a) h) a y → y = a := fun y r => by
      induction r with
      | refl => rfl
      | step _ m j ih =>
        rw [ih] at j
        obtain ⟨hz, hc⟩ := mem_both.mp m
        rcases hc with hc | hc
        · exact absurd hc.symm (Col.un N C ha hz j)
        · exact absurd hc (hh _ hz j)
    unfold PL.comp
    have hnd : (bothL cs col (colOf cs col a) h).Nodup := N.nd.sublist bothL_sub
    generalize bothL cs col (colOf cs col a) h = L at *
    have e1 : L.filter (PL.reachB (jn (ps.map (pairS cs))) L a) = L.filter (fun y => y == a) := List.filter_congr fun y _ => by
      by_cases q : y = a
      · subst q
        rw [PL.reachB_iff.mpr .refl]; simp
      · have : PL.reachB (jn (ps.map (pairS cs))) L a y = false := by
          rw [Bool.eq_false_iff]
          exact fun e => q (only y (PL.reachB_iff.mp e))
        rw [this]
        exact (beq_eq_false_iff_ne.mpr q).symm
    rw [e1, List.filter_beq, hnd.count, if_pos hm]
    rfl
noncomputable def looseP (ts : List Str) (cs col : List Nat) (k a : Nat) : Bool := (List.range' 1 k).any fun h => !decide (h = colOf cs col a) && single ts cs col a h
theorem mem_steps {ts : List Str} {cs col : List Nat} {k : Nat} {b : Bool} {s : Step} : s ∈ stepsL ts cs col k b ↔ ∃ i j S, 1 ≤ i ∧ i < j ∧ j ≤ k ∧ S ∈ PL.lots (jn ts) (bothL cs col i j) ∧ (S.length = 1 ∨ b = false) ∧ s = (S.headD 0, i + j - colOf cs col (S.headD 0), swapC cs col S i j) := by
  unfold stepsL oneOut pairOut lotOut
  simp only [List.mem_flatMap, List.mem_range'_1]
  constructor
  · rintro ⟨i, hi, j, hj, S, hS, h⟩
    split at h
    · rename_i q
      rw [List.mem_singleton] at h
      refine ⟨i, j, S, hi.1, by omega, by omega, hS, ?_, h⟩
      rw [Bool.or_eq_true, decide_eq_true_iff] at q
      rcases q with q | q
      · exact .inl q
      · exact .inr (by simpa using q)
    · cases h
  · rintro ⟨i, j, S, h1, h2, h3, hS, q, h⟩
    refine ⟨i, by omega, j, by omega, S, hS, ?_⟩
    rw [if_pos (by rw [Bool.or_eq_true, decide_eq_true_iff]; rcases q with q | q; · exact .inl q
                   · exact .inr (by simp [q])), List.mem_singleton]
    exact h
theorem lots_comp {J : Nat → Nat → Bool} {L : List Nat} {a : Nat} (hJ : ∀ a b, J a b = J b a) (ha : a ∈ L) : PL.comp J L a ∈ PL.lots J L := by
  have := PL.lots_one hJ ha
  have h2 : PL.comp J L a ∈ (PL.lots J L).filter fun S => decide (a ∈ S) := by rw [this]; exact List.mem_singleton_self _
  exact (List.mem_filter.mp h2).1
theorem loose_iff {ts : List Str} {cs : List Nat} {ps : List (Nat × Nat)} {k : Nat} {col : List Nat} (hJ : ∀ a b, jn ts a b = jn ts b a) (C : Col cs ps k col) {a : Nat} (ha : a ∈ cs) : a ∈ (stepsL ts cs col k true).map (·.1) ↔ looseP ts cs col k a = true := by
  obtain ⟨_, _, c1, c2⟩ := C.at_ ha
  unfold looseP single
  simp only [List.mem_map, List.any_eq_true, List.mem_range'_1, Bool.and_eq_true, Bool.not_eq_true', decide_eq_false_iff_not, decide_eq_true_iff]
  constructor
  · rintro ⟨s, hs, rfl⟩
    obtain ⟨i, j, S, h1, h2, h3, hS, q, rfl⟩ := mem_steps.mp hs
    rcases q with q | q
    · obtain ⟨x, hx, hxS, e⟩ := lot_has hJ hS
      obtain ⟨y, rfl⟩ := List.length_eq_one_iff.mp q
      rw [List.mem_singleton] at hxS
      subst hxS
      obtain ⟨hxc, hc⟩ := mem_both.mp hx
      show ∃ h, _
      refine ⟨i + j - colOf cs col x, ⟨by omega, by omega⟩, by show ¬ i + j - colOf cs col x = colOf cs col x; omega, ?_⟩
      show PL.comp (jn ts) (bothL cs col (colOf cs col x) (i + j - colOf cs col x)) x = [x]
      rcases hc with hc | hc
      · rw [hc, show i + j - i = j by omega]; exact e.symm
      · rw [hc, show i + j - j = i by omega, both_comm]; exact e.symm
    · cases q
  · rintro ⟨h, ⟨h1, h2⟩, hne, e⟩
    have hm : a ∈ bothL cs col (colOf cs col a) h := mem_both.mpr ⟨ha, .inl rfl⟩
    have hl := lots_comp hJ hm
    rw [e] at hl
    by_cases q : colOf cs col a < h
    · exact ⟨_, mem_steps.mpr ⟨colOf cs col a, h, [a], c1, q, by omega, hl, .inl rfl, rfl⟩, rfl⟩
    · rw [both_comm] at hl
      exact ⟨_, mem_steps.mpr ⟨h, colOf cs col a, [a], h1, by omega, c2, hl, .inl rfl, rfl⟩, rfl⟩
end KM
namespace KD
open PySem PySem.Spec PyProof.Rows L2
@[simp] theorem oR_nI {i : Nat} {ε : SE} : oR (nI i) ε = some (some (i : Int), ε) := id rfl
theorem addN1 {i : Nat} : addD (nI i) (.int 1) = some (.d (nI (i + 1))) := id rfl
end KD
namespace KM
open PySem PySem.Spec PyProof.Rows L2 KD
theorem set_swap {cs col : List Nat} {a h : Nat} (hn : cs.Nodup) (hl : col.length = cs.length) (ha : a ∈ cs) : col.take (cs.idxOf a) ++ [h] ++ col.drop (cs.idxOf a + 1) = swapC cs col [a] (colOf cs col a) h := by
  have hi := idx_lt ha
  have e1 : col.take (cs.idxOf a) ++ [h] ++ col.drop (cs.idxOf a + 1) = col.set (cs.idxOf a) h := by
    rw [List.set_eq_take_append_cons_drop, if_pos (by omega)]
    simp
  rw [e1]
  apply List.ext_getElem
  · rw [List.length_set, swap_len, hl]
  · intro j h1 h2
    have hj : j < cs.length := by rw [swap_len] at h2; exact h2
    have h3 : (swapC cs col [a] (colOf cs col a) h)[j] = swapF cs col [a] (colOf cs col a) h cs[j] := List.getElem_map _
    rw [h3, List.getElem_set]
    unfold swapF
    by_cases q : cs.idxOf a = j
    · have e : cs[j] = a := by
        subst q
        exact List.getElem_idxOf hi
      rw [if_pos q, e, if_pos (List.mem_singleton_self a)]
      omega
    · have e : ¬ cs[j] ∈ [a] := fun hm => q (by rw [← List.mem_singleton.mp hm, hn.idxOf_getElem j hj])
      rw [if_neg q, if_neg e]
      unfold colOf
      rw [hn.idxOf_getElem j hj, List.getD_eq_getElem?_getD, List.getElem?_eq_getElem (by omega)]; rfl
theorem alone_iff {cs col S : List Nat} {a own h : Nat} (hn : cs.Nodup) (ho : own = colOf cs col a) (hne : h ≠ own) (hS : a ∈ S) (hd : S.Nodup) (hsub : ∀ b ∈ S, b ∈ bothL cs col own h) : (swapC cs col S own h = swapC cs col [a] own h) ↔ S = [a] := by
  constructor
  · intro e
    have only : ∀ b ∈ S, b = a := fun b hb => by
      obtain ⟨hbc, hc⟩ := mem_both.mp (hsub b hb)
      have e2 : swapF cs col S own h b = swapF cs col [a] own h b := by
        rw [← colOf_swap (S := S) hbc, ← colOf_swap (S := [a]) hbc, e]
      unfold swapF at e2
      rw [if_pos hb] at e2
      by_cases q : b = a
      · exact q
      · rw [if_neg (by simpa using q)] at e2
        omega
    cases S with
    | nil => cases hS
    | cons x r =>
      have hx := only x List.mem_cons_self
      subst hx
      cases r with
      | nil => rfl
      | cons y r =>
        have hy := only y (List.mem_cons_of_mem _ List.mem_cons_self)
        subst hy
        have := (List.nodup_cons.mp hd).1
        exact absurd List.mem_cons_self this
  · intro e; rw [e]
abbrev r32 (k : Nat) (cs : List Nat) (ts : List Str) (col F : List Nat) (x2 x8 x9 x10 x11 x12 x13 x14 : Sl) (M : List MO) : SE :=
  ⟨[.d (.ptr 0), .d (nI k), x2, .d (.tup (cs.map chD)), .d (.tup (ts.map .str)), .d (.str (txt col)), .d (webD cs ts), .own (.lst (F.map chD)), x8, x9, x10, x11, x12, x13, x14, .no, .no], M⟩
noncomputable def out32 (ts : List Str) (cs col : List Nat) (a h : Nat) : List Nat := if h = colOf cs col a then [] else if single ts cs col a h = true then [a] else []
abbrev barred (ts : List Str) (cs col : List Nat) (a : Nat) : List Nat := (cs.filter (jn ts a)).map (colOf cs col)
theorem enum_idx {cs : List Nat} (hn : cs.Nodup) : enumD (cs.map chD) = cs.map fun a => .pair [nI (cs.idxOf a), chD a] := by
  apply List.ext_getElem?
  intro i
  unfold enumD
  rw [List.getElem?_map, List.getElem?_zipIdx, List.getElem?_map, List.getElem?_map]
  by_cases h : i < cs.length
  · rw [List.getElem?_eq_getElem h]
    simp [hn.idxOf_getElem i h]
    rfl
  · rw [List.getElem?_eq_none (by omega)]
    rfl
noncomputable abbrev all32 (ts : List Str) (cs col : List Nat) (k a : Nat) : List Nat := (List.range' 1 k).flatMap (out32 ts cs col a)
theorem all32_le {ts : List Str} {cs col : List Nat} {k a : Nat} : (all32 ts cs col k a).length ≤ k := by
  have := flatMap_le (f := out32 ts cs col a) (c := 1) (List.range' 1 k) fun h _ => by
    unfold out32
    split
    · simp
    · split <;> simp
  rw [List.length_range', Nat.mul_one] at this
  exact this
end KM

set_option maxHeartbeats 4000000
namespace KD
open PySem PySem.Spec PyProof.Rows L2
/-- a for loop that goes on or hands back -/
theorem for_ret {α : Type} {g : GM} {body : SM} (enc : α → D) (I : Nat → SE → Prop) (R : Val → SE → Prop) : ∀ (xs : List α) (k : Nat) (ε : SE), I k ε →
    (∀ n a ε, xs[n]? = some a → I (k + n) ε → ∃ ε1, g (enc a) ε = some ε1 ∧ ((∃ ε2, body ε1 = some (.nx ε2) ∧ I (k + n + 1) ε2) ∨ ∃ v ε2, body ε1 = some (.rt v ε2) ∧ R v ε2)) →
    (∃ ε', loopF g body (xs.map enc) ε = some (.nx ε') ∧ I (k + xs.length) ε') ∨ ∃ v ε', loopF g body (xs.map enc) ε = some (.rt v ε') ∧ R v ε'
  | [], k, ε, h, _ => .inl ⟨ε, rfl, h⟩
  | a :: xs, k, ε, h, st => by
    obtain ⟨ε1, h1, h2⟩ := st 0 a ε rfl h
    rcases h2 with ⟨ε2, h2, h3⟩ | ⟨v, ε2, h2, h3⟩
    · rcases for_ret enc I R xs (k + 1) ε2 h3 (fun n b ε hb hi => by
        have := st (n + 1) b ε (by simpa using hb) (by rw [show k + (n + 1) = k + 1 + n by omega]; exact hi)
        rw [show k + (n + 1) + 1 = k + 1 + n + 1 by omega] at this
        exact this) with ⟨ε', h4, h5⟩ | ⟨v, ε', h4, h5⟩
      · refine .inl ⟨ε', ?_, by rw [List.length_cons, show k + (xs.length + 1) = k + 1 + xs.length by omega]; exact h5⟩
        rw [List.map_cons, loopF_c, h1]
        simp [h2, h4]
      · refine .inr ⟨v, ε', ?_, h5⟩
        rw [List.map_cons, loopF_c, h1]
        simp [h2, h4]
    · refine .inr ⟨v, ε2, ?_, h3⟩
      rw [List.map_cons, loopF_c, h1]
      simp [h2]
theorem seq_digits {k : Nat} (h1 : 1 ≤ k) (h4 : k ≤ 4) : seqD (.str (digits k)) = some ((List.range' 1 k).map dg) := by
  have key : ∀ k : Fin 4, (digits (k.val + 1)).cps.toList = (List.range' 1 (k.val + 1)).map (· + 48) := by decide +kernel
  have := key ⟨k - 1, by omega⟩
  simp only [show k - 1 + 1 = k by omega] at this
  rw [seqD_s, this, List.map_map]
  rfl
theorem txt_get {col : List Nat} {i : Nat} (h : i < col.length) : ixD (.str (txt col)) (nI i) = some (.d (dg (col.getD i 0))) := by
  have e : col.getD i 0 = col[i] := by rw [List.getD_eq_getElem?_getD, List.getElem?_eq_getElem h]; rfl
  rw [e]
  exact txt_at h
theorem tup_get {cs : List Nat} {i : Nat} (h : i < cs.length) : ixD (.tup (cs.map chD)) (nI i) = some (.d (chD (cs.getD i 0))) := by
  have e : cs.getD i 0 = cs[i] := by rw [List.getD_eq_getElem?_getD, List.getElem?_eq_getElem h]; rfl
  rw [e]
  show ixD (.tup (cs.map chD)) (.int (i : Int)) = _
  rw [ixD_t, atI_nat' (by simpa using h)]
  simp [List.getElem?_eq_getElem h]
end KD
namespace KM
open PySem PySem.Spec PyProof.Rows L2 KD
/-! a colouring drawn anew -/
abbrev rdS (cs : List Nat) (ts : List Str) (col : List Nat) (k : Nat) (f : List Nat) (x6 x7 x8 x9 : Sl) (M : List MO) : SE :=
  ⟨[.d (.ptr 0), .d (.tup (cs.map chD)), .d (.tup (ts.map .str)), .d (.str (txt col)), .d (nI k), .d (.str (txt f)), x6, x7, x8, x9, .no, .no], M⟩
abbrev rBar (cs : List Nat) (ts : List Str) (f : List Nat) (n : Nat) : List Nat := ((List.range' 0 n).filter fun p => jn ts (cs.getD p 0) (cs.getD n 0)).map fun p => f.getD p 0
abbrev rFree (k : Nat) (B : List Nat) : List Nat := (List.range' 1 k).filter fun c => !decide (c ∈ B)
theorem getD_app {f : List Nat} {c i : Nat} : (f ++ [c]).getD i 0 = if i < f.length then f.getD i 0 else if i = f.length then c else 0 := by
  rw [List.getD_eq_getElem?_getD, List.getElem?_append]
  split
  · rw [List.getD_eq_getElem?_getD]
  · split
    · rename_i h; subst h; simp
    · rename_i h1 h2
      rw [List.getElem?_eq_none (by simp; omega)]; rfl
end KM

set_option maxHeartbeats 4000000
namespace KD
open PySem PySem.Spec PyProof.Rows L2
/-- a comprehension that changes a state -/
theorem lc_st {β τ : Type} {fi : IM} {te : EM} {v : Nat} {ε : SE} (S : Sl → τ → SE) (encB : β → D) (I : Nat → List β → τ → Prop) (xs : List D) (t0 : τ)
    (h1 : ∀ x t x', setS (S x t) v x' = S x' t) (n1 : ∀ x t, nth (S x t).sl v = some x) (hi : fi ε = some (xs, S .no t0)) (h0 : I 0 [] t0)
    (he : ∀ d n ys t, n < xs.length → I n ys t → ∃ b t', escE te (S (.d d) t) = some (encB b, S (.d d) t') ∧ I (n + 1) (ys ++ [b]) t') :
    ∃ (ys : List β) (t' : τ), eLc fi (gN v) yesB te [v] ε = some (.new (.lst (ys.map encB)), S .no t') ∧ I xs.length ys t' := by
  have key : ∀ (zs : List D) (n : Nat) (ys : List β) (t : τ) (x : Sl), n + zs.length = xs.length → I n ys t → ∃ (ws : List β) (t' : τ) (x' : Sl), compL (gN v) yesB te [v] zs (S x t) = some (ws.map encB, S x' t') ∧ I xs.length (ys ++ ws) t' := by
    intro zs
    induction zs with
    | nil => intro n ys t x hn hI; exact ⟨[], t, x, rfl, by rw [List.append_nil, ← hn]; exact hI⟩
    | cons d zs ih =>
      intro n ys t x hn hI
      rw [List.length_cons] at hn
      obtain ⟨b, t1, e1, hI1⟩ := he d n ys t (by omega) hI
      obtain ⟨ws, t', x', e2, hI2⟩ := ih (n + 1) (ys ++ [b]) t1 (.d d) (by omega) hI1
      refine ⟨b :: ws, t', x', ?_, by rw [List.append_assoc] at hI2; exact hI2⟩
      have eq : compL (gN v) yesB te [v] (d :: zs) (S x t) = ((gN v d (wipeS (S x t) [v])).bind fun ε1 => (yesB ε1).bind fun r => if r.1 = true then (escE te r.2).bind fun y => (compL (gN v) yesB te [v] zs y.2).map fun q => (y.1 :: q.1, q.2) else compL (gN v) yesB te [v] zs r.2) := rfl
      rw [eq]
      simp only [wipeS_c, wipeS_n, gN_s, h1, Option.bind_some, yesB_s, if_true, e1, e2, Option.map_some, List.map_cons]
  obtain ⟨ws, t', x', e, hI⟩ := key xs 0 [] t0 .no (by omega) h0
  refine ⟨ws, t', ?_, hI⟩
  rw [eLc_s, hi, Option.bind_some]
  simp only []
  rw [e, Option.map_some]
  simp only [restS_c, restS_n, n1, keepS_n, h1]
/-- a comprehension that keeps some, by draws -/
theorem lc_keep {α τ : Type} {fi : IM} {tt : BM} {te : EM} {v : Nat} {ε : SE} (S : Sl → τ → SE) (enc : α → D) (P : Nat → τ → Prop) (xs : List α) (t0 : τ)
    (h1 : ∀ x t x', setS (S x t) v x' = S x' t) (n1 : ∀ x t, nth (S x t).sl v = some x) (hi : fi ε = some (xs.map enc, S .no t0)) (h0 : P 0 t0)
    (hb : ∀ a ∈ xs, ∀ n t, n < xs.length → P n t → ∃ b t', tt (S (.d (enc a)) t) = some (b, S (.d (enc a)) t') ∧ P (n + 1) t')
    (he : ∀ a ∈ xs, ∀ t, escE te (S (.d (enc a)) t) = some (enc a, S (.d (enc a)) t)) :
    ∃ (ys : List α) (t' : τ), eLc fi (gN v) tt te [v] ε = some (.new (.lst (ys.map enc)), S .no t') ∧ ys.Sublist xs ∧ P xs.length t' := by
  have key : ∀ (zs : List α) (n : Nat) (t : τ) (x : Sl), (∀ a ∈ zs, a ∈ xs) → n + zs.length = xs.length → P n t → ∃ (ws : List α) (t' : τ) (x' : Sl), compL (gN v) tt te [v] (zs.map enc) (S x t) = some (ws.map enc, S x' t') ∧ ws.Sublist zs ∧ P xs.length t' := by
    intro zs
    induction zs with
    | nil => intro n t x _ hn hI; exact ⟨[], t, x, rfl, .slnil, by rw [← hn]; exact hI⟩
    | cons a zs ih =>
      intro n t x hs hn hI
      rw [List.length_cons] at hn
      obtain ⟨b, t1, e1, hI1⟩ := hb a (hs a List.mem_cons_self) n t (by omega) hI
      obtain ⟨ws, t', x', e2, hw, hI2⟩ := ih (n + 1) t1 (.d (enc a)) (fun c hc => hs c (List.mem_cons_of_mem _ hc)) (by omega) hI1
      have e3 := he a (hs a List.mem_cons_self) t1
      have eq : compL (gN v) tt te [v] ((a :: zs).map enc) (S x t) = ((gN v (enc a) (wipeS (S x t) [v])).bind fun ε1 => (tt ε1).bind fun r => if r.1 = true then (escE te r.2).bind fun y => (compL (gN v) tt te [v] (zs.map enc) y.2).map fun q => (y.1 :: q.1, q.2) else compL (gN v) tt te [v] (zs.map enc) r.2) := rfl
      cases b with
      | true =>
        refine ⟨a :: ws, t', x', ?_, hw.cons_cons a, hI2⟩
        rw [eq]
        simp only [wipeS_c, wipeS_n, gN_s, h1, Option.bind_some, e1, if_true, e3, e2, Option.map_some, List.map_cons]
      | false =>
        refine ⟨ws, t', x', ?_, hw.cons a, hI2⟩
        rw [eq]
        simp only [wipeS_c, wipeS_n, gN_s, h1, Option.bind_some, e1, Bool.false_eq_true, if_false, e2]
  obtain ⟨ws, t', x', e, hw, hI⟩ := key xs 0 t0 .no (fun _ h => h) (by omega) h0
  refine ⟨ws, t', ?_, hw, hI⟩
  rw [eLc_s, hi, Option.bind_some]
  simp only []
  rw [e, Option.map_some]
  simp only [restS_c, restS_n, n1, keepS_n, h1]
end KD
namespace KM
open PySem PySem.Spec PyProof.Rows L2 KD
/-! webs of the «bag» laws -/
def poolL : List Nat := [97, 98, 99, 100, 101, 102, 120, 121, 122, 112]
theorem poolL_let : ∀ c ∈ poolL, c ∈ letters := by decide +kernel
theorem poolL_nd : poolL.Nodup := by decide +kernel
def upP (n i : Nat) : List (Nat × Nat) := (List.range' (i + 1) (n - (i + 1))).map fun j => (i, j)
def upPs (n : Nat) : List (Nat × Nat) := (List.range' 0 n).flatMap (upP n)
theorem mem_upPs {n : Nat} {p : Nat × Nat} (h : p ∈ upPs n) : p.1 < p.2 ∧ p.2 < n := by
  obtain ⟨i, _, hp⟩ := List.mem_flatMap.mp h
  obtain ⟨j, hj, rfl⟩ := List.mem_map.mp hp
  have := List.mem_range'_1.mp hj
  exact ⟨by show i < j; omega, by show j < n; omega⟩
theorem upPs_lex {n : Nat} : LexS (upPs n) := by
  unfold LexS upPs
  rw [List.pairwise_flatMap]
  refine ⟨fun i _ => ?_, ?_⟩
  · unfold upP
    rw [List.pairwise_map]
    exact (List.pairwise_lt_range' (s := i + 1) (n := n - (i + 1))).imp fun h => .inr ⟨rfl, h⟩
  · refine (List.pairwise_lt_range' (s := 0) (n := n)).imp fun {a b} hab p hp q hq => .inl ?_
    obtain ⟨j, _, rfl⟩ := List.mem_map.mp hp
    obtain ⟨j', _, rfl⟩ := List.mem_map.mp hq
    exact hab
theorem upPs_len {n : Nat} (h : n ≤ 6) : (upPs n).length ≤ 36 := by
  have := flatMap_le (f := upP n) (c := n) (List.range' 0 n) fun i _ => by
    unfold upP
    rw [List.length_map, List.length_range']; omega
  rw [List.length_range'] at this
  have h2 : n * n ≤ 6 * 6 := Nat.mul_le_mul h h
  unfold upPs
  omega
abbrev pSt (cs : List Nat) (p : Nat × Nat) : D := .str (pairS cs p)
abbrev wb (mp mt : Nat) (x3 x4 x5 x6 x7 x8 x9 : Sl) (M : List MO) : SE := ⟨[.d (.ptr 0), .d (nI mp), .d (nI mt), x3, x4, x5, x6, x7, x8, x9, .no, .no], M⟩
theorem web_every {mp mt : Nat} {cs : List Nat} {x3 x5 x6 x7 x8 : Sl} {M : List MO} (h6 : cs.length ≤ 6) :
    ∃ x5', w_l_web_1 (wb mp mt x3 (.d (.lst [])) x5 x6 x7 x8 (.d (.tup (cs.map chD))) M) = some (.nx (wb mp mt x3 (.d (.lst ((upPs cs.length).map (pSt cs)))) x5' x6 x7 x8 (.d (.tup (cs.map chD))) M)) := by
  obtain ⟨ε', e, x5', rfl⟩ := for_app (g := gN 5) (body := b_l_web_1) nI (upP cs.length) (fun F ε => ∃ x5, ε = wb mp mt x3 (.d (.lst (F.map (pSt cs)))) x5 x6 x7 x8 (.d (.tup (cs.map chD))) M) (List.range' 0 cs.length) [] (wb mp mt x3 (.d (.lst [])) x5 x6 x7 x8 (.d (.tup (cs.map chD))) M) ⟨_, rfl⟩
    (fun i F ε hi hb ⟨x5, e⟩ => by
      subst e
      have hi' := List.mem_range'_1.mp hi
      have hF := upPs_len h6
      have hb' : F.length + (upP cs.length i).length ≤ (upPs cs.length).length := by rw [List.length_nil, Nat.zero_add] at hb; exact hb
      refine ⟨wb mp mt x3 (.d (.lst (F.map (pSt cs)))) (.d (nI i)) x6 x7 x8 (.d (.tup (cs.map chD))) M, _, rfl, .inl ?_, .d (nI i), rfl⟩
      have gi := tup_get (cs := cs) (i := i) (by omega)
      have ai : addD (nI i) (.int 1) = some (.d (.int ((i : Int) + 1))) := rfl
      have ec : KD.cutD (cs.map chD) (some ((i : Int) + 1)) none = (cs.drop (i + 1)).map chD := by
        rw [cutD_from (by omega), show ((i : Int) + 1).toNat = i + 1 by omega, List.map_drop]
      have el : ((cs.drop (i + 1)).map fun c => (.str (str2 (cs.getD i 0) c) : D)) = (upP cs.length i).map (pSt cs) := by
        unfold upP
        rw [List.map_map]
        apply List.ext_getElem
        · simp
        · intro k h1 h2
          rw [List.getElem_map, List.getElem_map, List.getElem_drop, List.getElem_range']
          show D.str (str2 (cs.getD i 0) _) = D.str (pairS cs (i, _))
          unfold pairS
          rw [List.length_map, List.length_drop] at h1
          have hk : i + 1 + 1 * k < cs.length := by omega
          rw [Nat.one_mul] at hk ⊢
          have : cs.getD (i + 1 + k) 0 = cs[i + 1 + k] := by rw [List.getD_eq_getElem?_getD, List.getElem?_eq_getElem hk]; rfl
          rw [this]
      have c2 : c_l_web_2 (wb mp mt x3 (.d (.lst (F.map (pSt cs)))) (.d (nI i)) x6 x7 x8 (.d (.tup (cs.map chD))) M) = some (.new (.lst ((upP cs.length i).map (pSt cs))), wb mp mt x3 (.d (.lst (F.map (pSt cs)))) (.d (nI i)) x6 x7 x8 (.d (.tup (cs.map chD))) M) := by
        rw [← el]
        refine lc_map (v := 11) (ε' := wb mp mt x3 (.d (.lst (F.map (pSt cs)))) (.d (nI i)) x6 x7 x8 (.d (.tup (cs.map chD))) M) chD (fun c => .str (str2 (cs.getD i 0) c)) (cs.drop (i + 1)) (by simp [oSome, oNone, ai, ec]) (by simp) (fun c hc => ?_)
        have ad := addD_ch (cs.getD i 0) c
        generalize cs.getD i 0 = a at *
        simp only [chD_eq] at gi
        simp [-ixD_t, gi, chD_eq, ad]
      have fe : FitE (F.length + (upP cs.length i).length) := fitE (by omega)
      unfold b_l_web_1
      rw [List.map_append]
      generalize hU : (upP cs.length i).map (pSt cs) = U at *
      generalize hV : F.map (pSt cs) = V at *
      have fe' : FitE (V.length + U.length) := by rw [← hU, ← hV, List.length_map, List.length_map]; exact fe
      have ad : addD (.lst V) (.lst U) = some (.new (.lst (V ++ U))) := addD_l fe'
      simp only [wb] at c2 ⊢
      simp [-addD_l, c2, ad])
  refine ⟨x5', ?_⟩
  have rr : ∀ ε : SE, rngR [.int (cs.length : Int)] ε = some ((List.range' 0 cs.length).map nI, ε) := fun ε => by
    have := rngR_1 (j := (cs.length : Int)) (ε := ε) (bnd_mk (by omega) (by omega)) (fitE (by omega))
    rw [this]
    exact congrArg (fun l => some (l, ε)) (rngD_nI (a := 0) (n := cs.length))
  have e' : loopF (gN 5) b_l_web_1 ((List.range' 0 cs.length).map nI) (wb mp mt x3 (.d (.lst [])) x5 x6 x7 x8 (.d (.tup (cs.map chD))) M) = some (.nx (wb mp mt x3 (.d (.lst ((upPs cs.length).map (pSt cs)))) x5' x6 x7 x8 (.d (.tup (cs.map chD))) M)) := by rw [List.nil_append] at e; exact e
  unfold w_l_web_1
  simp only [wb] at e' ⊢
  generalize (upPs cs.length).map (pSt cs) = U at *
  simp [rr, e']
noncomputable def restW : SM := (sSeq (sSet 4 (fzE (eLst aNil)))
  (sSeq w_l_web_1
  (sSeq (sSet 6 (fzE (eCall f_l_one [] (aCons (eVar 0) (aCons (eLst (aCons (eC (.int 2)) (aCons (eC (.int 3)) (aCons (eC (.int 5)) aNil)))) aNil)))))
  (sSeq (sSet 7 c_l_web_3)
  (sSeq w_l_web_2
  (sRet (eLst (aCons (eVar 9) (aCons (eCB tupD (aCons (eVar 7) aNil)) aNil)))))))))
theorem restW_spec {z mp mt : Nat} {cs : List Nat} {x3 x5 : Sl} {M : List MO} (hB : Bag z M) (hz : z < 2 ^ 40) (h6 : cs.length ≤ 6) (hmt : mt ≤ 1000) :
    ∃ (ps : List (Nat × Nat)) (ε' : SE), restW (wb mp mt x3 .no x5 .no .no .no (.d (.tup (cs.map chD))) M) = some (.rt (.new (.lst [.tup (cs.map chD), .tup ((ps.map (pairS cs)).map .str)])) ε') ∧ Bag (z + 80) ε'.M ∧ ps.Sublist (upPs cs.length) ∧ ps.length ≤ mt := by
  obtain ⟨x5', e1⟩ := web_every (mp := mp) (mt := mt) (x3 := x3) (x5 := x5) (x6 := .no) (x7 := .no) (x8 := .no) (M := M) h6
  obtain ⟨v, hv, M1, e2, hB1⟩ := l_one_spec (e := nI) (t := [2, 3, 5]) (q := .lst [.int 2, .int 3, .int 5]) hB (by omega) (by simp) (by simp) (.inl rfl)
  have hf : 0 < [2, 3, 5][v] ∧ [2, 3, 5][v] ≤ 5 := by
    have : ∀ x ∈ [2, 3, 5], 0 < x ∧ x ≤ 5 := by decide
    exact this _ (List.getElem_mem hv)
  generalize ([2, 3, 5] : List Nat)[v] = few at *
  have hul := upPs_len h6
  obtain ⟨qs, M2, e3, hs, hB2⟩ := lc_keep (α := Nat × Nat) (τ := List MO) (fi := iSeq (eVar 4)) (tt := eB (eOp gtD (eCall f_l_draw [] (aCons (eVar 0) (aCons (eVar 6) aNil))) (eC (.int 0)))) (te := eVar 10) (v := 10) (ε := wb mp mt x3 (.d (.lst ((upPs cs.length).map (pSt cs)))) x5' (.d (nI few)) .no .no (.d (.tup (cs.map chD))) M1)
    (fun x M => ⟨[.d (.ptr 0), .d (nI mp), .d (nI mt), x3, .d (.lst ((upPs cs.length).map (pSt cs))), x5', .d (nI few), .no, .no, .d (.tup (cs.map chD)), x, .no], M⟩) (pSt cs) (fun n M => Bag (z + 1 + n) M) (upPs cs.length) M1 (fun _ _ _ => rfl) (fun _ _ => rfl) (by
      generalize (upPs cs.length).map (pSt cs) = U
      simp) hB1 (fun a ha n t hn hP => by
      obtain ⟨w, M', e, hB', hw⟩ := l_draw_spec (n := (few : Int)) hP (by omega) (by omega) (by omega)
      refine ⟨decide (0 < w), M', ?_, hB'⟩
      have e' : f_l_draw [.ptr 0, nI few] t = some (.d (.int (w : Int)), M') := e
      generalize (upPs cs.length).map (pSt cs) = U
      by_cases q : 0 < w
      · simp [e', hP.len, hB'.len, q]
      · simp [e', hP.len, hB'.len, q]) (fun a ha t => by
      generalize (upPs cs.length).map (pSt cs) = U
      simp)
  have hql := hs.length_le
  -- those too many are taken out
  have pops : ∀ (ds : List D) (qs : List (Nat × Nat)) (z' : Nat) (M : List MO) (x8 : Sl), ds.length ≤ qs.length → qs.length ≤ 36 → z' + ds.length < 2 ^ 45 → Bag z' M → ∃ (ps : List (Nat × Nat)) (x8' : Sl) (M' : List MO), loopF (gN 8) b_l_web_2 ds (wb mp mt x3 (.d (.lst ((upPs cs.length).map (pSt cs)))) x5' (.d (nI few)) (.own (.lst (qs.map (pSt cs)))) x8 (.d (.tup (cs.map chD))) M) = some (.nx (wb mp mt x3 (.d (.lst ((upPs cs.length).map (pSt cs)))) x5' (.d (nI few)) (.own (.lst (ps.map (pSt cs)))) x8' (.d (.tup (cs.map chD))) M')) ∧ ps.Sublist qs ∧ ps.length = qs.length - ds.length ∧ Bag (z' + ds.length) M' := by
    intro ds
    induction ds with
    | nil => intro qs z' M x8 _ _ _ hB; exact ⟨qs, x8, M, rfl, List.Sublist.refl _, by simp, hB⟩
    | cons d ds ih =>
      intro qs z' M x8 hl h36 hz' hB
      rw [List.length_cons] at hl hz'
      obtain ⟨w, M1', e, hB1', hw⟩ := l_draw_spec (n := (qs.length : Int)) hB (by omega) (by omega) (by omega)
      have hw' : w < qs.length := by omega
      have el := List.length_eraseIdx_of_lt hw'
      obtain ⟨ps, x8', M', e2, hs2, hl2, hB2'⟩ := ih (qs.eraseIdx w) (z' + 1) M1' (.d d) (by omega) (by omega) (by omega) hB1'
      refine ⟨ps, x8', M', ?_, hs2.trans (List.eraseIdx_sublist _ _), by rw [hl2, el, List.length_cons]; omega, by rw [List.length_cons, show z' + (ds.length + 1) = z' + 1 + ds.length by omega]; exact hB2'⟩
      have b1 : bnd (w : Int) = true := bnd_mk (by omega) (by omega)
      have b2 : ixN (qs.map (pSt cs)).length (w : Int) = some w := ixN_nat (by rw [List.length_map]; exact hw')
      have b4 : (qs.map (pSt cs))[w]? = some (pSt cs qs[w]) := by rw [List.getElem?_map, List.getElem?_eq_getElem hw']; rfl
      have b5 : (qs.map (pSt cs)).eraseIdx w = (qs.eraseIdx w).map (pSt cs) := by rw [map_erase]
      rw [loopF_c]
      have bd : b_l_web_2 (wb mp mt x3 (.d (.lst ((upPs cs.length).map (pSt cs)))) x5' (.d (nI few)) (.own (.lst (qs.map (pSt cs)))) (.d d) (.d (.tup (cs.map chD))) M) = some (.nx (wb mp mt x3 (.d (.lst ((upPs cs.length).map (pSt cs)))) x5' (.d (nI few)) (.own (.lst ((qs.eraseIdx w).map (pSt cs)))) (.d d) (.d (.tup (cs.map chD))) M1')) := by
        rw [← b5]
        have hq : (qs.map (pSt cs)).length = qs.length := List.length_map _
        rw [← hq] at e
        generalize qs.map (pSt cs) = Q at *
        generalize (upPs cs.length).map (pSt cs) = U at *
        unfold b_l_web_2
        simp [e, hB.len, hB1'.len, b1, b2, b4]
      show ((some (wb mp mt x3 (.d (.lst ((upPs cs.length).map (pSt cs)))) x5' (.d (nI few)) (.own (.lst (qs.map (pSt cs)))) (.d d) (.d (.tup (cs.map chD))) M)).bind _) = _
      rw [Option.bind_some, bd]
      exact e2
  obtain ⟨ps, x8', M3, e4, hs4, hl4, hB4⟩ := pops (rngD 0 (qs.length - mt)) qs (z + 1 + (upPs cs.length).length) M2 .no (by rw [rngD_len]; omega) (by omega) (by rw [rngD_len]; omega) hB2
  rw [rngD_len] at hl4 hB4
  refine ⟨ps, wb mp mt x3 (.d (.lst ((upPs cs.length).map (pSt cs)))) x5' (.d (nI few)) (.own (.lst (ps.map (pSt cs)))) x8' (.d (.tup (cs.map chD))) M3, ?_, hB4.mono (by omega), hs4.trans hs, by omega⟩
  have mx : max2D [.int 0, .int ((qs.length : Int) - (mt : Int))] = some (.d (.int ((qs.length - mt : Nat) : Int))) := by
    show some (Val.d (.int (if (qs.length : Int) - (mt : Int) > 0 then (qs.length : Int) - (mt : Int) else 0))) = _
    congr 3
    split <;> omega
  have sb : subD (.int (qs.length : Int)) (nI mt) = some (.d (.int ((qs.length : Int) - (mt : Int)))) := rfl
  have r1 : ∀ ε : SE, rngR [.int ((qs.length - mt : Nat) : Int)] ε = some (rngD 0 (qs.length - mt), ε) := fun ε => by
    have := rngR_1 (j := ((qs.length - mt : Nat) : Int)) (ε := ε) (bnd_mk (by omega) (by omega)) (fitE (by omega))
    rw [Int.toNat_natCast] at this
    exact this
  have hq : (qs.map (pSt cs)).length = qs.length := List.length_map _
  have fp : FitE (ps.map (pSt cs)).length := fitE (by rw [List.length_map]; omega)
  have tp : (.tup ((ps.map (pairS cs)).map .str) : D) = .tup (ps.map (pSt cs)) := by rw [List.map_map]; rfl
  rw [tp]
  have c3 : c_l_web_3 (wb mp mt x3 (.d (.lst ((upPs cs.length).map (pSt cs)))) x5' (.d (nI few)) .no .no (.d (.tup (cs.map chD))) M1) = _ := e3
  have f2 : FitE 2 := fitE (by decide)
  have f3 : FitE 3 := fitE (by decide)
  have f0 : FitE 0 := fitE (by decide)
  generalize (upPs cs.length).map (pSt cs) = U at *
  generalize qs.map (pSt cs) = Q at *
  generalize ps.map (pSt cs) = PP at *
  rw [← hq] at mx sb r1 e4
  unfold restW w_l_web_2
  simp only [wb] at e1 c3 e4 ⊢
  simp [-max2D_i, -subD_i, e1, e2, hB.len, hB1.len, c3, mx, sb, r1, e4, f0, f2, f3, fp]
theorem l_web_spec {z mp mt : Nat} {M : List MO} (hB : Bag z M) (hz : z < 2 ^ 39) (h0 : 0 < mp) (h6 : mp ≤ 6) (hmt : mt ≤ 1000) :
    ∃ (cs : List Nat) (ps : List (Nat × Nat)) (M' : List MO), f_l_web [.ptr 0, nI mp, nI mt] M = some (.new (.lst [.tup (cs.map chD), .tup ((ps.map (pairS cs)).map .str)]), M') ∧ Bag (z + 100) M' ∧ Net cs ps ∧ cs.length ≤ mp ∧ ps.length ≤ mt := by
  obtain ⟨u, M1, e1, hB1, hu⟩ := l_draw_spec (n := 2) hB (by omega) (by omega) (by omega)
  have e1' : f_l_draw [.ptr 0, .int 2] M = some (.d (.int (u : Int)), M1) := e1
  obtain ⟨v, M2, e2, hB2, hv⟩ := l_draw_spec (n := (mp : Int)) hB1 (by omega) (by omega) (by omega)
  have e2' : f_l_draw [.ptr 0, nI mp] M1 = some (.d (.int (v : Int)), M2) := e2
  have em : m_l_web = sSeq _ (sSeq _ restW) := rfl
  have pl : ([.str ("a" : Str), .str ("b" : Str), .str ("c" : Str), .str ("d" : Str), .str ("e" : Str), .str ("f" : Str), .str ("x" : Str), .str ("y" : Str), .str ("z" : Str), .str ("p" : Str)] : List D) = poolL.map chD := rfl
  have f10 : FitE 10 := fitE (by decide)
  have hpl : poolL.length = 10 := rfl
  have fin : ∀ (cs : List Nat) (x3 x5 : Sl) (M3 : List MO), cs.Nodup → 0 < cs.length → cs.length ≤ mp → (∀ c ∈ cs, c ∈ poolL) → Bag (z + 12) M3 → ∃ (ps : List (Nat × Nat)) (M' : List MO), (restW (wb mp mt x3 .no x5 .no .no .no (.d (.tup (cs.map chD))) M3)).bind finV = some (.new (.lst [.tup (cs.map chD), .tup ((ps.map (pairS cs)).map .str)]), M') ∧ Bag (z + 100) M' ∧ Net cs ps ∧ ps.length ≤ mt := by
    intro cs x3 x5 M3 c1 c2 c3 c4 hB3
    obtain ⟨ps, ε', e, hB', hs, hl⟩ := restW_spec (mp := mp) (mt := mt) (cs := cs) (x3 := x3) (x5 := x5) hB3 (by omega) (by omega) hmt
    refine ⟨ps, ε'.M, ?_, hB'.mono (by omega), ⟨c1, c2, by omega, fun c hc => poolL_let c (c4 c hc), upPs_lex.sublist hs, fun p hp => mem_upPs (hs.subset hp)⟩, hl⟩
    rw [e, Option.bind_some]
    rfl
  by_cases q : u = 0
  · subst q
    have hcs : ((poolL.take (1 + v))).length = 1 + v := by rw [List.length_take, hpl]; omega
    obtain ⟨ps, M', e3, hB', N, hl⟩ := fin (poolL.take (1 + v)) (.own (.lst (poolL.map chD))) .no M2 (poolL_nd.sublist (List.take_sublist _ _)) (by omega) (by omega) (fun c hc => List.mem_of_mem_take hc) (hB2.mono (by omega))
    refine ⟨poolL.take (1 + v), ps, M', ?_, hB', N, by omega, hl⟩
    have ct : KD.cutD (poolL.map chD) none (some (1 + (v : Int))) = (poolL.take (1 + v)).map chD := by
      rw [cutD_to (by omega), show (1 + (v : Int)).toNat = 1 + v by omega, List.map_take]
    have a1 : addD (.int 1) (.int (v : Int)) = some (.d (.int (1 + (v : Int)))) := rfl
    have fc : FitE (poolL.take (1 + v)).length := fitE (by omega)
    unfold f_l_web
    rw [em]
    simp only [wb] at e3
    generalize (poolL.take (1 + v)) = cs at *
    rw [← pl] at ct e3
    generalize restW = R at *
    simp [slots0, List.replicate, e1', e2', hB.len, hB1.len, hB2.len, f10, oSome, oNone, ct, fc, e3]
  · have a1 : addD (.int 1) (.int (v : Int)) = some (.d (.int (1 + (v : Int)))) := rfl
    have r1 : ∀ ε : SE, rngR [.int (1 + (v : Int))] ε = some (rngD 0 (1 + v), ε) := fun ε => by
      rw [show (1 + (v : Int)) = ((1 + v : Nat) : Int) by omega]
      have := rngR_1 (j := ((1 + v : Nat) : Int)) (ε := ε) (bnd_mk (by omega) (by omega)) (fitE (by omega))
      rw [Int.toNat_natCast] at this
      exact this
    obtain ⟨cs, ⟨L', M3⟩, e3, hB3, hp, hl⟩ := lc_st (β := Nat) (τ := List Nat × List MO) (fi := iRange (aCons (eOp addD (eC (.int 1)) (eCall f_l_draw [] (aCons (eVar 0) (aCons (eVar 1) aNil)))) aNil)) (te := eMut isL popM (eVar 3) (aCons (eCall f_l_draw [] (aCons (eVar 0) (aCons (eCB lenD (aCons (eVar 3) aNil)) aNil))) aNil)) (v := 5)
      (ε := ⟨[.d (.ptr 0), .d (nI mp), .d (nI mt), .own (.lst (poolL.map chD)), .no, .no, .no, .no, .no, .no, .no, .no], M1⟩)
      (fun x t => ⟨[.d (.ptr 0), .d (nI mp), .d (nI mt), .own (.lst (t.1.map chD)), .no, x, .no, .no, .no, .no, .no, .no], t.2⟩) chD (fun n ys t => Bag (z + 2 + n) t.2 ∧ (ys ++ t.1).Perm poolL ∧ ys.length = n) (rngD 0 (1 + v)) (poolL, M2) (fun _ _ _ => rfl) (fun _ _ => rfl) (by
        generalize poolL.map chD = P
        simp [e2', hB1.len, hB2.len, a1, r1]) ⟨hB2.mono (by omega), by simp, rfl⟩ (fun d n ys t hn hI => by
        obtain ⟨L, M'⟩ := t
        have hBt : Bag (z + 2 + n) M' := hI.1
        have hpt : (ys ++ L).Perm poolL := hI.2.1
        have hlt : ys.length = n := hI.2.2
        rw [rngD_len] at hn
        have hlen : ys.length + L.length = 10 := by
          have := hpt.length_eq
          rw [List.length_append, hpl] at this
          exact this
        have hLp : 0 < L.length := by omega
        obtain ⟨w, M4, e4, hB4, hw⟩ := l_draw_spec (n := (L.length : Int)) hBt (by omega) (by omega) (by omega)
        have hw' : w < L.length := by omega
        refine ⟨L[w], (L.eraseIdx w, M4), ?_, hB4.mono (by omega), ?_, by rw [List.length_append, hlt]; rfl⟩
        · have b1 : bnd (w : Int) = true := bnd_mk (by omega) (by omega)
          have b2 : ixN (L.map chD).length (w : Int) = some w := ixN_nat (by rw [List.length_map]; exact hw')
          have b4 : (L.map chD)[w]? = some (chD L[w]) := by rw [List.getElem?_map, List.getElem?_eq_getElem hw']; rfl
          have b5 : (L.map chD).eraseIdx w = (L.eraseIdx w).map chD := by rw [map_erase]
          have hq : (L.map chD).length = L.length := List.length_map _
          rw [← hq] at e4
          simp only [← b5]
          generalize L[w] = c at *
          generalize L.map chD = Q at *
          simp [e4, hBt.len, hB4.len, b1, b2, b4]
        · refine List.Perm.trans ?_ hpt
          rw [List.append_assoc]
          exact List.Perm.append_left ys (erase_perm L w hw'))
    rw [rngD_len] at hB3 hl
    have hcl : cs.length = 1 + v := hl
    have hnd := (hp.nodup_iff).mpr poolL_nd
    obtain ⟨ps, M', e5, hB', N, hpl'⟩ := fin cs (.own (.lst (L'.map chD))) .no M3 (List.nodup_append.mp hnd).1 (by omega) (by omega) (fun c hc => hp.subset (List.mem_append_left _ hc)) (hB3.mono (by omega))
    refine ⟨cs, ps, M', ?_, hB', N, by omega, hpl'⟩
    have fc : FitE cs.length := fitE (by omega)
    have c1 : c_l_web_1 ⟨[.d (.ptr 0), .d (nI mp), .d (nI mt), .own (.lst (poolL.map chD)), .no, .no, .no, .no, .no, .no, .no, .no], M1⟩ = _ := e3
    have hu1 : ¬ u = 0 := q
    unfold f_l_web
    rw [em]
    simp only [wb] at e5 c1
    rw [← pl] at c1
    generalize restW = R at *
    simp [slots0, List.replicate, e1', hB.len, hB1.len, f10, hu1, c1, fc, e5]
end KM

set_option maxHeartbeats 4000000
namespace KM
open PySem PySem.Spec PyProof.Rows L2 KD
/-! the end of the «bag» laws -/
theorem law_bag {fr : FM} {q : Nat} (hq : q ≤ 60) (right : ∀ m, Bag 0 [m] → ∃ m' : MO, fr [.ptr 0] [m] = some (.d (.bl true), [m'])) (ns : List Int) (hl : ns.length ≤ 63) :
    runF 1 2 (sRet (eCB allD (aCons (eLc (iRange (aCons (eCB max2D (aCons (eC (.int 2)) (aCons (eCB min2D (aCons (eCB lenD (aCons (eVar 0) aNil)) (aCons (eC (.int (q : Int))) aNil))) aNil))) aNil)) (gN 1) yesB (eBag fr [] (eCall f_l_bag [] (aCons (eVar 0) (aCons (eVar 1) aNil))) aNil) [1]) aNil))) [.scr ns] [] = some (.d (.bl true), []) := by
  obtain ⟨n, hn⟩ : ∃ n : Nat, (n : Int) = (if (if (q : Int) < (ns.length : Int) then (q : Int) else (ns.length : Int)) > 2 then (if (q : Int) < (ns.length : Int) then (q : Int) else (ns.length : Int)) else 2) := Int.eq_ofNat_of_zero_le (by split <;> split <;> omega) |>.imp fun _ h => h.symm
  have hn6 : n ≤ 60 := by
    have : (n : Int) ≤ 60 := by rw [hn]; split <;> split <;> omega
    omega
  obtain ⟨ε', e, x, rfl⟩ := compL_pure (g := gN 1) (tt := yesB) (te := eBag fr [] (eCall f_l_bag [] (aCons (eVar 0) (aCons (eVar 1) aNil))) aNil) (vs := [1]) (fun _ => true) (fun _ => .bl true)
    (fun ε => ∃ x : Sl, ε = ⟨[.d (.scr ns), x], []⟩) (rngD 0 n) (fun ε ⟨x, e⟩ d hd => by
      subst e
      obtain ⟨i, hi, e⟩ := List.mem_iff_getElem.mp hd
      obtain ⟨hi', rfl⟩ := rngD_get (List.getElem?_eq_some_iff.mpr ⟨hi, e⟩)
      rw [show (0 : Int) + (i : Int) = (i : Int) by omega]
      refine ⟨⟨[.d (.scr ns), .d (.int (i : Int))], []⟩, by simp, ⟨[.d (.scr ns), .d (.int (i : Int))], []⟩, rfl, (fun h => by cases h), fun _ => ⟨⟨[.d (.scr ns), .d (.int (i : Int))], []⟩, ?_, _, rfl⟩⟩
      obtain ⟨m, e1, hB, hno⟩ := l_bag_spec (k := i) hl (by omega)
      obtain ⟨m', e2⟩ := right m hB
      have eb : eBag fr [] (eCall f_l_bag [] (aCons (eVar 0) (aCons (eVar 1) aNil))) aNil ⟨[.d (.scr ns), .d (.int (i : Int))], []⟩ = some (.d (.bl true), ⟨[.d (.scr ns), .d (.int (i : Int))], []⟩) := by
        have ec : eCall f_l_bag [] (aCons (eVar 0) (aCons (eVar 1) aNil)) ⟨[.d (.scr ns), .d (.int (i : Int))], []⟩ = some (.new m, ⟨[.d (.scr ns), .d (.int (i : Int))], []⟩) := by simp [e1]
        unfold eBag
        rw [ec]
        simp only [Option.bind_some, aNil_s, escL_n, List.length_nil, List.append_nil, List.nil_append]
        rw [if_pos ⟨hno, rfl, rfl⟩, e2, Option.bind_some]
        rfl
      simp only [escE_s, fzE_s, eb, Option.map_some, Option.bind_some, fzv_d, escV_d]) ⟨[.d (.scr ns), .no], []⟩ ⟨_, rfl⟩
  have b1 : bnd (n : Int) = true := bnd_mk (by omega) (by omega)
  have b2 : FitE n := by unfold FitE; omega
  rw [List.filter_eq_self.mpr (fun _ _ => rfl)] at e
  have eb := bls_all (rngD 0 n)
  have ea : ((rngD 0 n).map fun _ => true).all id = true := by simp
  rw [runF_s (n := 1) (ds := [.scr ns]) rfl]
  simp only [sRet_s, eCB_s, aCons_s, fzE_s, eLc_s, iRange_s, eC_s, Option.map_some, Option.bind_some, fzv_d, eVar_s, slots0, List.map_cons, List.map_nil, List.length_singleton, List.replicate, Nat.reduceSub, List.cons_append, List.nil_append, nth_0, varR_d, aNil_s, resL_c, resL_n, res_int, res_scr, lenD_c, min2D_i, max2D_i]
  rw [← hn]
  simp only [rngR_1 b1 (show FitE (n : Int).toNat from b2), Int.toNat_natCast, Option.bind_some, e, Option.map_some, fzv_n, toD_l, aNil_s, resL_c, resL_n, res_lst, allD_l, eb, ea, restS_c, restS_n, nth_1, keepS_n, setS_s, setN_1, finV_d]
end KM

set_option maxHeartbeats 4000000
/-! webs by their texts; their own ==, len, text; the samples -/
namespace KM
open PySem PySem.Spec PyProof.Rows L2 KD
/-- the stores that a law has: none, one bag -/
def Sto (M : List MO) : Prop := M = [] ∨ ∃ m, M = [m] ∧ noPM 1 m = true
theorem Bag.sto {z : Nat} {m : MO} (h : Bag z [m]) : Sto [m] := .inr ⟨m, rfl, h.no⟩
theorem web_init0 {cs : List Nat} {ps : List (Nat × Nat)} (N : Net cs ps) : f_Web_init [.ptr 0, .tup (cs.map chD), .tup ((ps.map (pairS cs)).map .str)] [.ins 0 [] []] = some (.d .non, [.ins 0 ["places", "ties"] [.tup (cs.map chD), .tup ((ps.map (pairS cs)).map .str)]]) := by
  have e1 := check_places_spec (M := [.ins 0 [] []]) N.nd N.pos N.le N.let_
  have e2 := check_ties_spec (M := [.ins 0 [] []]) N
  simp only [List.map_map] at e2
  have p1 : ∀ x : D, putFD "places" x [] [] = ((["places"] : List Str), [x]) := fun x => rfl
  have p2 : ∀ x y : D, putFD "ties" y (["places"] : List Str) [x] = ((["places", "ties"] : List Str), [x, y]) := fun x y => by
    unfold putFD
    rw [show (["places"] : List Str).findIdx? (fun z => z == ("ties" : Str)) = none from by decide +kernel]
    rfl
  unfold f_Web_init m_Web_init
  simp [slots0, e1, e2, p1, p2]
theorem make_web0 {cs : List Nat} {ps : List (Nat × Nat)} {sl : List Sl} {fa : AM} (N : Net cs ps) (h : fa ⟨sl, []⟩ = some ([.d (.tup (cs.map chD)), .d (.tup ((ps.map (pairS cs)).map .str))], ⟨sl, []⟩)) :
    eMake 0 f_Web_init [] fa ⟨sl, []⟩ = some (.new (.ins 0 ["places", "ties"] [.tup (cs.map chD), .tup ((ps.map (pairS cs)).map .str)]), ⟨sl, []⟩) := by
  have n1 : noPL 0 [D.tup (cs.map chD), .tup ((ps.map (pairS cs)).map .str)] = true := by
    show (noPL 0 (cs.map chD) && (noPL 0 ((ps.map (pairS cs)).map D.str) && true)) = true
    rw [noPL_chs, noPL_strs]
    rfl
  unfold eMake
  rw [h]
  simp only [Option.bind_some, escL_c, fzv_d, escV_d, escL_n, Option.map_some, List.append_nil, List.length_nil]
  rw [if_pos ⟨n1, rfl⟩]
  have e := web_init0 N
  simp only [List.nil_append]
  rw [e, Option.bind_some, if_pos ⟨rfl, rfl, rfl⟩]
  show (if 0 = 0 ∧ noPL 0 [D.tup (cs.map chD), .tup ((ps.map (pairS cs)).map .str)] = true then _ else none) = _
  rw [if_pos ⟨rfl, n1⟩]
  rfl
theorem make_webS {cs : List Nat} {ps : List (Nat × Nat)} {M : List MO} {sl : List Sl} {fa : AM} (S : Sto M) (N : Net cs ps) (h : fa ⟨sl, M⟩ = some ([.d (.tup (cs.map chD)), .d (.tup ((ps.map (pairS cs)).map .str))], ⟨sl, M⟩)) :
    eMake 0 f_Web_init [] fa ⟨sl, M⟩ = some (.new (.ins 0 ["places", "ties"] [.tup (cs.map chD), .tup ((ps.map (pairS cs)).map .str)]), ⟨sl, M⟩) := by
  rcases S with rfl | ⟨m, rfl, hm⟩
  · exact make_web0 N h
  · exact make_web N hm h
theorem read_spec {cs : List Nat} {ps : List (Nat × Nat)} {M : List MO} (S : Sto M) (N : Net cs ps) (hp : ps.length ≤ 1000) : f_Web_read [.cls 0, .str (wtxN cs ps)] M = some (.d (webD cs (ps.map (pairS cs))), M) := by
  have e1 := web_in_spec (M := M) N hp
  have a0 : ∀ a b : D, atI [a, b] 0 = some a := fun _ _ => rfl
  have a1 : ∀ a b : D, atI [a, b] 1 = some b := fun _ _ => rfl
  have mk := make_webS (sl := [.d (.cls 0), .d (.str (wtxN cs ps)), .d (.tup [.tup (cs.map chD), .tup ((ps.map (pairS cs)).map .str)])]) (fa := aCons (eOp ixD (eVar 2) (eC (.int 0))) (aCons (eOp ixD (eVar 2) (eC (.int 1))) aNil)) S N (by simp [-List.map_map, a0, a1])
  have ew : webD cs (ps.map (pairS cs)) = (MO.ins 0 ["places", "ties"] [.tup (cs.map chD), .tup ((ps.map (pairS cs)).map .str)]).toD := rfl
  rw [ew]
  generalize (MO.ins 0 ["places", "ties"] [.tup (cs.map chD), .tup ((ps.map (pairS cs)).map .str)]) = W at *
  generalize ps.map (pairS cs) = ts at *
  have nn : ∀ l : List D, isND (.tup l) .non = some (.d (.bl false)) := fun _ => rfl
  unfold f_Web_read m_Web_read
  simp [slots0, List.replicate, e1, mk, nn]
theorem made_spec {cs : List Nat} {ps : List (Nat × Nat)} {M : List MO} (S : Sto M) (N : Net cs ps) : f_l_made [.lst [.tup (cs.map chD), .tup ((ps.map (pairS cs)).map .str)]] M = some (.d (webD cs (ps.map (pairS cs))), M) := by
  have a0 : ∀ a b : D, atI [a, b] 0 = some a := fun _ _ => rfl
  have a1 : ∀ a b : D, atI [a, b] 1 = some b := fun _ _ => rfl
  have mk := make_webS (sl := [.d (.lst [.tup (cs.map chD), .tup ((ps.map (pairS cs)).map .str)])]) (fa := aCons (eOp ixD (eVar 0) (eC (.int 0))) (aCons (eOp ixD (eVar 0) (eC (.int 1))) aNil)) S N (by simp [-List.map_map, a0, a1])
  have ew : webD cs (ps.map (pairS cs)) = (MO.ins 0 ["places", "ties"] [.tup (cs.map chD), .tup ((ps.map (pairS cs)).map .str)]).toD := rfl
  rw [ew]
  generalize (MO.ins 0 ["places", "ties"] [.tup (cs.map chD), .tup ((ps.map (pairS cs)).map .str)]) = W at *
  generalize ps.map (pairS cs) = ts at *
  unfold f_l_made m_l_made
  simp [slots0, mk]
theorem lookP {x y : D} : ([(("places" : Str), x), (("ties" : Str), y)]).lookup ("places" : Str) = some x := rfl
theorem lookT {x y : D} : ([(("places" : Str), x), (("ties" : Str), y)]).lookup ("ties" : Str) = some y := by
  show (match (("ties" : Str) == "places") with | true => some x | false => _) = _
  rw [show (("ties" : Str) == "places") = false from by decide +kernel]
  rfl
theorem text_spec {cs : List Nat} {ps : List (Nat × Nat)} {M : List MO} (N : Net cs ps) (hp : ps.length ≤ 1000) : f_Web_text [webD cs (ps.map (pairS cs))] M = some (.d (.str (wtxN cs ps)), M) := by
  have w3 := web_text_spec (M := M) (net_nms N hp)
  rw [map_chS] at w3
  have w4 : f_web_text [.tup (cs.map chD), .tup ((ps.map (pairS cs)).map .str)] M = some (.d (.str (wtxN cs ps)), M) := w3
  unfold webD
  generalize ps.map (pairS cs) = ts at *
  unfold f_Web_text m_Web_text
  simp [slots0, lookP, lookT, w4]
theorem eqD_chs (a b : List Nat) : eqD (.tup (a.map chD)) (.tup (b.map chD)) = some (.d (.bl (decide (a = b)))) := Enc.ch.tup.eqD (by decide) a b
theorem eqD_strs (a b : List Str) : eqD (.tup (a.map .str)) (.tup (b.map .str)) = some (.d (.bl (decide (a = b)))) := Enc.str.tup.eqD (by decide) a b
theorem eq_spec {cs cs' : List Nat} {ts ts' : List Str} {M : List MO} : f_Web_eq [webD cs ts, webD cs' ts'] M = some (.d (.bl (decide (cs = cs') && decide (ts = ts'))), M) := by
  have e1 := eqD_chs cs cs'
  have e2 := eqD_strs ts ts'
  have e3 : tabC isL_Web (.cl 0) = some true := rfl
  unfold webD f_Web_eq m_Web_eq
  cases h : decide (cs = cs') with
  | false => rw [h] at e1; simp [slots0, lookP, lookT, e1, e3]
  | true => rw [h] at e1; simp [slots0, lookP, lookT, e1, e2, e3]
theorem wtx_inj {cs cs' : List Nat} {ps ps' : List (Nat × Nat)} (N : Net cs ps) (N' : Net cs' ps') (hp : ps.length ≤ 1000) (hp' : ps'.length ≤ 1000) (h : wtxN cs ps = wtxN cs' ps') : cs = cs' ∧ ps.map (pairS cs) = ps'.map (pairS cs') := by
  have e1 := web_in_spec (M := []) N hp
  have e2 := web_in_spec (M := []) N' hp'
  rw [h, e2] at e1
  injection e1 with e1
  injection e1 with e1
  injection e1 with e1
  injection e1 with e1
  injection e1 with a b
  injection b with b _
  injection a with a
  injection b with b
  refine ⟨?_, ?_⟩
  · exact ((List.map_inj_right fun x y h => by simpa [chD] using h).mp a).symm
  · exact ((List.map_inj_right fun x y h => by injection h).mp b).symm
/-! ### the samples -/
def sqC : List Nat := [97, 98, 99, 100]
def sqP : List (Nat × Nat) := [(0, 1), (0, 3), (1, 2), (2, 3)]
def prC : List Nat := [97, 98, 99, 100, 101, 102]
def prP : List (Nat × Nat) := [(0, 1), (0, 2), (0, 3), (1, 2), (1, 4), (2, 5), (3, 4), (3, 5), (4, 5)]
def kiP : List (Nat × Nat) := [(0, 1), (0, 2), (1, 2), (2, 3)]
end KM

set_option maxHeartbeats 4000000
namespace KM
open PySem PySem.Spec PyProof.Rows L2 KD
/-! all the bags, in a law that has one name more -/
theorem bag_all {y : Sl} {fr : FM} {q : Nat} (hq : q ≤ 60) (right : ∀ m, Bag 0 [m] → ∃ m' : MO, fr [.ptr 0] [m] = some (.d (.bl true), [m'])) (ns : List Int) (hl : ns.length ≤ 63) :
    eCB allD (aCons (eLc (iRange (aCons (eCB max2D (aCons (eC (.int 2)) (aCons (eCB min2D (aCons (eCB lenD (aCons (eVar 0) aNil)) (aCons (eC (.int (q : Int))) aNil))) aNil))) aNil)) (gN 2) yesB (eBag fr [] (eCall f_l_bag [] (aCons (eVar 0) (aCons (eVar 2) aNil))) aNil) [2]) aNil) ⟨[.d (.scr ns), y, .no], []⟩ = some (.d (.bl true), ⟨[.d (.scr ns), y, .no], []⟩) := by
  obtain ⟨n, hn⟩ : ∃ n : Nat, (n : Int) = (if (if (q : Int) < (ns.length : Int) then (q : Int) else (ns.length : Int)) > 2 then (if (q : Int) < (ns.length : Int) then (q : Int) else (ns.length : Int)) else 2) := Int.eq_ofNat_of_zero_le (by split <;> split <;> omega) |>.imp fun _ h => h.symm
  have hn6 : n ≤ 60 := by
    have : (n : Int) ≤ 60 := by rw [hn]; split <;> split <;> omega
    omega
  obtain ⟨ε', e, x, rfl⟩ := compL_pure (g := gN 2) (tt := yesB) (te := eBag fr [] (eCall f_l_bag [] (aCons (eVar 0) (aCons (eVar 2) aNil))) aNil) (vs := [2]) (fun _ => true) (fun _ => .bl true)
    (fun ε => ∃ x : Sl, ε = ⟨[.d (.scr ns), y, x], []⟩) (rngD 0 n) (fun ε ⟨x, e⟩ d hd => by
      subst e
      obtain ⟨i, hi, e⟩ := List.mem_iff_getElem.mp hd
      obtain ⟨hi', rfl⟩ := rngD_get (List.getElem?_eq_some_iff.mpr ⟨hi, e⟩)
      rw [show (0 : Int) + (i : Int) = (i : Int) by omega]
      refine ⟨⟨[.d (.scr ns), y, .d (.int (i : Int))], []⟩, by simp, ⟨[.d (.scr ns), y, .d (.int (i : Int))], []⟩, rfl, (fun h => by cases h), fun _ => ⟨⟨[.d (.scr ns), y, .d (.int (i : Int))], []⟩, ?_, _, rfl⟩⟩
      obtain ⟨m, e1, hB, hno⟩ := l_bag_spec (k := i) hl (by omega)
      obtain ⟨m', e2⟩ := right m hB
      have eb : eBag fr [] (eCall f_l_bag [] (aCons (eVar 0) (aCons (eVar 2) aNil))) aNil ⟨[.d (.scr ns), y, .d (.int (i : Int))], []⟩ = some (.d (.bl true), ⟨[.d (.scr ns), y, .d (.int (i : Int))], []⟩) := by
        have ec : eCall f_l_bag [] (aCons (eVar 0) (aCons (eVar 2) aNil)) ⟨[.d (.scr ns), y, .d (.int (i : Int))], []⟩ = some (.new m, ⟨[.d (.scr ns), y, .d (.int (i : Int))], []⟩) := by simp [e1]
        unfold eBag
        rw [ec]
        simp only [Option.bind_some, aNil_s, escL_n, List.length_nil, List.append_nil, List.nil_append]
        rw [if_pos ⟨hno, rfl, rfl⟩, e2, Option.bind_some]
        rfl
      simp only [escE_s, fzE_s, eb, Option.map_some, Option.bind_some, fzv_d, escV_d]) ⟨[.d (.scr ns), y, .no], []⟩ ⟨_, rfl⟩
  have b1 : bnd (n : Int) = true := bnd_mk (by omega) (by omega)
  have b2 : FitE n := by unfold FitE; omega
  rw [List.filter_eq_self.mpr (fun _ _ => rfl)] at e
  have eb := bls_all (rngD 0 n)
  have ea : ((rngD 0 n).map fun _ => true).all id = true := by simp
  simp only [eCB_s, aCons_s, fzE_s, eLc_s, iRange_s, eC_s, Option.map_some, Option.bind_some, fzv_d, eVar_s, nth_0, varR_d, aNil_s, resL_c, resL_n, res_int, res_scr, lenD_c, min2D_i, max2D_i]
  rw [← hn]
  simp [rngR_1 b1 (show FitE (n : Int).toNat from b2), Int.toNat_natCast, e, eb]
end KM

set_option maxHeartbeats 4000000
namespace KM
open PySem PySem.Spec PyProof.Rows L2 KD
theorem permA_s {n : Nat} {is : List Nat} {fa : AM} {ε : SE} : permA n is fa ε = (fa ε).bind fun r => if r.1.length = n then some (pick is r.1, r.2) else none := rfl
theorem eFmt_s {f : EM} {ε : SE} : eFmt f ε = (fzE f ε).bind fun r => (r.1.res r.2).bind fun d => (fmtD d).map fun v => (v, r.2) := rfl
theorem str_spec {cs : List Nat} {ps : List (Nat × Nat)} {M : List MO} (N : Net cs ps) (hp : ps.length ≤ 1000) : f_Web_str [webD cs (ps.map (pairS cs))] M = some (.d (.str (wtxN cs ps)), M) := by
  have e := text_spec (M := M) N hp
  have t1 : (("text" : Str) ≠ "places") := by decide +kernel
  have t2 : (("text" : Str) ≠ "ties") := by decide +kernel
  have ff : ∀ z : Str, fmtD (.str z) = some (.d (.str z)) := fun _ => rfl
  unfold webD at *
  generalize ps.map (pairS cs) = ts at *
  unfold f_Web_str m_Web_str
  simp [slots0, eFmt_s, e, t1, t2, ff]
theorem join_ne {T : List Str} (h : ∀ t ∈ T, t.length = 2) : (Txt.join ", " T = ("" : Str)) ↔ T = [] := by
  constructor
  · intro e
    refine Decidable.byContradiction fun q => ?_
    have e3 := joinL_len2 (S := TL.tl (", " : Str)) (parts := T.map TL.tl) (fun p hp => by
      obtain ⟨z, hz, rfl⟩ := List.mem_map.mp hp
      rw [← TL.len_tl]; exact h z hz) (by decide +kernel) (by simpa using q)
    rw [← tl_jn, e, List.length_map] at e3
    have e4 : (TL.tl ("" : Str)).length = 0 := by decide +kernel
    rw [e4] at e3
    omega
  · rintro rfl; rfl
theorem wtx_rows {P T : List Str} : ((("places " : Str) ++ Txt.join ", " P) ++ ("\nties " : Str)) ++ (if T = [] then ("none" : Str) else Txt.join ", " T) = wtx P T := by
  refine TL.ext_tl ?_
  unfold wtx
  rw [tl_jn, TL.tl_append, TL.tl_append, TL.tl_append]
  show _ = TL.tl (row0 P) ++ (TL.tl ("\n" : Str) ++ TL.tl (row1 T))
  unfold row0 row1
  rw [TL.tl_append, TL.tl_append]
  have e : TL.tl ("\nties " : Str) = TL.tl ("\n" : Str) ++ TL.tl ("ties " : Str) := by decide +kernel
  rw [e]
  simp only [List.append_assoc]
theorem l_text_spec {cs : List Nat} {ps : List (Nat × Nat)} {M : List MO} (N : Net cs ps) (hp : ps.length ≤ 1000) : f_l_text [.lst [.tup (cs.map chD), .tup ((ps.map (pairS cs)).map .str)]] M = some (.d (.str (wtxN cs ps)), M) := by
  have A := net_nms N hp
  have a0 : ∀ a b : D, atI [a, b] 0 = some a := fun _ _ => rfl
  have a1 : ∀ a b : D, atI [a, b] 1 = some b := fun _ _ => rfl
  have j1 := joinD_tup (y := (", " : Str)) gd_sep A.gp (by have := A.pn; omega)
  rw [map_chS] at j1
  have j2 := joinD_tup (y := (", " : Str)) gd_sep A.gt (by have := A.tn; omega)
  have hn := join_ne (T := ps.map (pairS cs)) fun t ht => (A.tl t ht).2
  have g0 := A.gj
  have g1 := A.gi
  have hw := wtx_rows (P := cs.map chS) (T := ps.map (pairS cs))
  have b1 : addD (.str ("places " : Str)) (.str (Txt.join ", " (cs.map chS))) = some (.d (.str (("places " : Str) ++ Txt.join ", " (cs.map chS)))) := addD_s (by have := g0.2; have := gd_pl.2; show _ ≤ 16777216; omega)
  have h1 : (("places " : Str) ++ Txt.join ", " (cs.map chS)).length ≤ 4007 := Nat.le_trans (gd_pl.app g0).2 (by omega)
  have h2 : ("\nties " : Str).length ≤ 6 := by decide +kernel
  have b2 : addD (.str (("places " : Str) ++ Txt.join ", " (cs.map chS))) (.str ("\nties " : Str)) = some (.d (.str ((("places " : Str) ++ Txt.join ", " (cs.map chS)) ++ ("\nties " : Str)))) := addD_s (by show _ ≤ 16777216; omega)
  have h3 : ((("places " : Str) ++ Txt.join ", " (cs.map chS)) ++ ("\nties " : Str)).length ≤ 4013 := by
    rw [TL.len_tl, TL.tl_append, List.length_append, ← TL.len_tl, ← TL.len_tl]; omega
  have b3 : addD (.str ((("places " : Str) ++ Txt.join ", " (cs.map chS)) ++ ("\nties " : Str))) (.str (if ps.map (pairS cs) = [] then ("none" : Str) else Txt.join ", " (ps.map (pairS cs)))) = some (.d (.str (wtxN cs ps))) := by
    have := addD_s (i := ((("places " : Str) ++ Txt.join ", " (cs.map chS)) ++ ("\nties " : Str))) (j := (if ps.map (pairS cs) = [] then ("none" : Str) else Txt.join ", " (ps.map (pairS cs)))) (by have := g1.2; show _ ≤ 16777216; omega)
    rw [hw] at this
    exact this
  generalize wtxN cs ps = W at *
  clear hw g0 g1 A h1 h3
  generalize ps.map (pairS cs) = ts at *
  generalize Txt.join ", " (cs.map chS) = J at *
  unfold f_l_text m_l_text
  by_cases q : ts = []
  · subst q
    have hj := hn.mpr rfl
    rw [if_pos rfl] at b3
    have n1 : neD (.str (Txt.join ", " ([] : List Str))) (.str ("" : Str)) = some (.d (.bl false)) := by
      rw [neD_str, hj]; rfl
    have j2' : joinD (.str (", " : Str)) [.tup []] = some (.d (.str (Txt.join ", " ([] : List Str)))) := j2
    generalize Txt.join ", " ([] : List Str) = JE at *
    simp [-neD_str, -addD_s, slots0, List.replicate, a0, a1, j1, j2', b1, b2, b3, n1]
  · have hj : ¬ Txt.join ", " ts = ("" : Str) := fun z => q (hn.mp z)
    rw [if_neg q] at b3
    have n1 : neD (.str (Txt.join ", " ts)) (.str ("" : Str)) = some (.d (.bl true)) := by
      rw [neD_str, decide_eq_false hj]; rfl
    simp [-neD_str, -addD_s, slots0, List.replicate, a0, a1, j1, j2, b1, b2, b3, n1]
def wDn (p : List Nat × List (Nat × Nat)) : D := webD p.1 (p.2.map (pairS p.1))
def Oks (L : List (List Nat × List (Nat × Nat))) : Prop := ∀ p ∈ L, Net p.1 p.2 ∧ p.2.length ≤ 1000
def st03 (L : List (List Nat × List (Nat × Nat))) (x2 x3 x4 x5 x6 x7 : Sl) (m : MO) : SE := ⟨[.d (.ptr 0), .own (.lst (L.map wDn)), x2, x3, x4, x5, x6, x7], [m]⟩
theorem cpOk_gd {n : Nat} {z : Str} (h : Gd n z) : cpOk z := fun c hc => by have := h.1 c hc; omega
theorem shw_parts {cs : List Nat} {ps : List (Nat × Nat)} (N : Net cs ps) (hp : ps.length ≤ 1000) : ∃ z, reprD [.lst [.tup (cs.map chD), .tup ((ps.map (pairS cs)).map .str)]] = some (.d (.str z)) := by
  have A := net_nms N hp
  have s1 := shw_tupC (L := cs) fun a ha => letter_lt (N.let_ a ha)
  have s2 := ShwL.mapM (e := D.str) (k := 0) (c := 2) (ps.map (pairS cs)) fun t ht => ⟨Shw.str (cpOk_gd (A.gt t ht)) (A.gt t ht).2, Nat.le_refl _⟩
  have s3 : Shw (.tup ((ps.map (pairS cs)).map .str)) ((ps.map (pairS cs)).length * 3) ∧ (toPy (.tup ((ps.map (pairS cs)).map .str))).depth ≤ 1 := ⟨s2.tup (by decide), Nat.succ_le_succ s2.dp⟩
  have h6 := N.le
  exact ⟨_, reprD_l ((ShwL.cons (k := 1) s1.1 s1.2 (ShwL.cons s3.1 s3.2 ShwL.nil)).lst (by decide)) (by rw [List.length_map]; omega)⟩
theorem shw_texts {cs : List Nat} {ps : List (Nat × Nat)} (N : Net cs ps) (hp : ps.length ≤ 1000) : ∃ z, reprD [.lst [.str (wtxN cs ps), .str (wtxN cs ps)]] = some (.d (.str z)) := by
  have g := (net_nms N hp).gw
  have s1 : Shw (.str (wtxN cs ps)) 8022 := Shw.str (cpOk_gd g) g.2
  exact ⟨_, reprD_l ((ShwL.cons (k := 0) s1 (Nat.le_refl _) (ShwL.cons s1 (Nat.le_refl _) ShwL.nil)).lst (by decide)) (by omega)⟩
theorem inner03 {L : List (List Nat × List (Nat × Nat))} {cs : List Nat} {ps : List (Nat × Nat)} {m : MO} {x2 x7 : Sl} (N : Net cs ps) (hp : ps.length ≤ 1000) :
    b_l_right_v2_1 (st03 L x2 (.d (.lst [.tup (cs.map chD), .tup ((ps.map (pairS cs)).map .str)])) (.d (wDn (cs, ps))) (.d (wDn (cs, ps))) (.d (.str (wtxN cs ps))) x7 m) = some (.nx (st03 L x2 (.d (.lst [.tup (cs.map chD), .tup ((ps.map (pairS cs)).map .str)])) (.d (wDn (cs, ps))) (.d (wDn (cs, ps))) (.d (.str (wtxN cs ps))) x7 m)) := by
  obtain ⟨z, rz⟩ := shw_parts N hp
  have e := eq_spec (cs := cs) (cs' := cs) (ts := ps.map (pairS cs)) (ts' := ps.map (pairS cs)) (M := [m])
  rw [decide_eq_true rfl, decide_eq_true rfl] at e
  unfold wDn st03 b_l_right_v2_1
  dsimp only
  unfold webD at *
  generalize ps.map (pairS cs) = ts at *
  generalize cs.map chD = C at *
  generalize L.map wDn = LL at *
  generalize wtxN cs ps = W at *
  simp [e, lookP, lookT, rz]
theorem turn03 {L : List (List Nat × List (Nat × Nat))} {z : Nat} {m : MO} {x2 x3 x4 x5 x6 x7 : Sl} (hx4 : flatSl x4 = true) (hB : Bag z [m]) (hz : z < 2 ^ 39) (hL : L.length ≤ 1000) :
    ∃ (m1 : MO) (p : List Nat × List (Nat × Nat)) (y3 y4 y5 y6 : Sl), b_l_right_v2_2 (st03 L x2 x3 x4 x5 x6 x7 m) = some (.nx (st03 (L ++ [p]) x2 y3 y4 y5 y6 x7 m1)) ∧ Bag (z + 100) [m1] ∧ (Net p.1 p.2 ∧ p.2.length ≤ 1000) ∧ flatSl y3 = true ∧ flatSl y4 = true ∧ flatSl y5 = true ∧ flatSl y6 = true := by
  obtain ⟨cs, ps, M1, e1, hB1, N, hc, hp⟩ := l_web_spec (mp := 6) (mt := 15) hB hz (by decide) (by decide) (by decide)
  obtain ⟨m1, rfl⟩ := hB1.one
  have hp' : ps.length ≤ 1000 := by omega
  have S := hB1.sto
  have e2 := made_spec S N
  have e3 := l_text_spec (M := [m1]) N hp'
  have e4 := read_spec S N hp'
  have e5 := text_spec (M := [m1]) N hp'
  have e6 := str_spec (M := [m1]) N hp'
  obtain ⟨z1, rz⟩ := shw_texts N hp'
  have l1 : ∀ x4, flatSl x4 = true → ∃ y4, flatSl y4 = true ∧ loopF (gN 4) b_l_right_v2_1 [wDn (cs, ps), wDn (cs, ps)] (st03 L x2 (.d (.lst [.tup (cs.map chD), .tup ((ps.map (pairS cs)).map .str)])) x4 (.d (wDn (cs, ps))) (.d (.str (wtxN cs ps))) x7 m1) =
      some (.nx (st03 L x2 (.d (.lst [.tup (cs.map chD), .tup ((ps.map (pairS cs)).map .str)])) y4 (.d (wDn (cs, ps))) (.d (.str (wtxN cs ps))) x7 m1)) := fun x4 hx => by
    obtain ⟨ε', h, y4, hy, rfl⟩ := for_fold (g := gN 4) (body := b_l_right_v2_1) (β := Unit) (α := Unit) (fun _ => wDn (cs, ps)) (fun _ ε => ∃ x4, flatSl x4 = true ∧ ε = st03 L x2 (.d (.lst [.tup (cs.map chD), .tup ((ps.map (pairS cs)).map .str)])) x4 (.d (wDn (cs, ps))) (.d (.str (wtxN cs ps))) x7 m1) (fun _ _ => ()) [(), ()] () _ ⟨x4, hx, rfl⟩
      (fun _ _ ε _ ⟨x4, _, e⟩ => by
        subst e
        exact ⟨_, _, rfl, .inl (inner03 N hp'), _, rfl, rfl⟩)
    exact ⟨y4, hy, h⟩
  obtain ⟨y4, hy4, l2⟩ := l1 x4 hx4
  refine ⟨m1, (cs, ps), .d (.lst [.tup (cs.map chD), .tup ((ps.map (pairS cs)).map .str)]), y4, .d (wDn (cs, ps)), .d (.str (wtxN cs ps)), ?_, hB1, ⟨N, hp'⟩, rfl, hy4, rfl, rfl⟩
  have e1' : f_l_web [.ptr 0, .int 6, .int 15] [m] = some (.new (.lst [.tup (cs.map chD), .tup ((ps.map (pairS cs)).map .str)]), [m1]) := e1
  have ew : wDn (cs, ps) = .ins 0 ["places", "ties"] [.tup (cs.map chD), .tup ((ps.map (pairS cs)).map .str)] := rfl
  have ew' : webD cs (ps.map (pairS cs)) = .ins 0 ["places", "ties"] [.tup (cs.map chD), .tup ((ps.map (pairS cs)).map .str)] := rfl
  have fl : Fit (L.map wDn).length := by
    show _ < 16777216
    rw [List.length_map]; omega
  have t1 : (("text" : Str) ≠ "places") := by decide +kernel
  have t2 : (("text" : Str) ≠ "ties") := by decide +kernel
  have pk : ∀ v : Val, pick [0] [v] = [v] := fun _ => rfl
  unfold st03 at l2 ⊢
  rw [List.map_append, List.map_singleton]
  rw [ew'] at e2 e4 e5 e6
  rw [ew] at l2 ⊢
  generalize (.tup ((ps.map (pairS cs)).map .str) : D) = T at *
  generalize (.tup (cs.map chD) : D) = C at *
  generalize L.map wDn = LL at *
  generalize wtxN cs ps = W at *
  unfold b_l_right_v2_2 w_l_right_v2_1
  simp [e1', hB.len, hB1.len, e2, e3, e4, e5, e6, rz, l2, t1, t2, permA_s, pk, fl]
theorem atI_hd {x : D} {l : List D} : atI (x :: l) 0 = some x := by
  unfold atI
  simp [ixN]
theorem cmp03 {p q : List Nat × List (Nat × Nat)} (N : Net p.1 p.2 ∧ p.2.length ≤ 1000) (N' : Net q.1 q.2 ∧ q.2.length ≤ 1000) : (decide (p.1 = q.1) && decide (p.2.map (pairS p.1) = q.2.map (pairS q.1))) = decide (wtxN p.1 p.2 = wtxN q.1 q.2) := by
  by_cases h : wtxN p.1 p.2 = wtxN q.1 q.2
  · obtain ⟨h1, h2⟩ := wtx_inj N.1 N'.1 N.2 N'.2 h
    rw [decide_eq_true h, decide_eq_true h1, decide_eq_true h2]; rfl
  · rw [decide_eq_false h]
    by_cases h1 : p.1 = q.1
    · by_cases h2 : p.2.map (pairS p.1) = q.2.map (pairS q.1)
      · exfalso
        refine h ?_
        show wtx (p.1.map chS) (p.2.map (pairS p.1)) = wtx (q.1.map chS) (q.2.map (pairS q.1))
        rw [← h2, h1]
      · rw [decide_eq_false h2, Bool.and_false]
    · rw [decide_eq_false h1, Bool.false_and]
theorem lc03 {L : List (List Nat × List (Nat × Nat))} {m : MO} {x2 x3 x4 x5 x6 : Sl} (hL : Oks L) (hne : L ≠ []) (hm : flatMO m = true) (h2 : flatSl x2 = true) (h3 : flatSl x3 = true) (h4 : flatSl x4 = true) (h5 : flatSl x5 = true) (h6 : flatSl x6 = true) :
    eBor 1 c_l_right_v2_1 (st03 L x2 x3 x4 x5 x6 .no m) = some (.new (.lst []), st03 L x2 x3 x4 x5 x6 .no m) := by
  obtain ⟨q, r, rfl⟩ := List.exists_cons_of_ne_nil hne
  have hq := hL q List.mem_cons_self
  refine eBor_own (m := .lst ((q :: r).map wDn)) rfl ?_ rfl ?_ ?_
  · refine (lc_one (v := 7) (ε' := setS (st03 (q :: r) x2 x3 x4 x5 x6 .no m) 1 (.d (MO.lst ((q :: r).map wDn)).toD)) wDn (fun _ => false) wDn (q :: r) (by simp [st03]) rfl (fun p hp => ?_) (fun _ _ h => by cases h)).trans ?_
    · have hp' := hL p hp
      have e1 := text_spec (M := [m]) hp'.1 hp'.2
      have e2 := text_spec (M := [m]) hq.1 hq.2
      have e3 := eq_spec (cs := p.1) (cs' := q.1) (ts := p.2.map (pairS p.1)) (ts' := q.2.map (pairS q.1)) (M := [m])
      rw [cmp03 hp' hq] at e3
      have e5 : eqD (.str (wtxN p.1 p.2)) (.str (wtxN q.1 q.2)) = some (.d (.bl (decide (wtxN p.1 p.2 = wtxN q.1 q.2)))) := eqD_str
      have a0 : atI ((q :: r).map wDn) 0 = some (wDn q) := atI_hd
      have e4 : ∀ b : Bool, neD (.bl b) (.bl b) = some (.d (.bl false)) := fun b => by
        have := Enc.bl.neD (by decide) b b
        rw [decide_eq_true rfl] at this
        exact this
      have t1 : (("text" : Str) ≠ "places") := by decide +kernel
      have t2 : (("text" : Str) ≠ "ties") := by decide +kernel
      generalize (q :: r).map wDn = LL at *
      unfold wDn at a0 ⊢
      unfold webD at *
      generalize decide (wtxN p.1 p.2 = wtxN q.1 q.2) = bb at *
      generalize p.2.map (pairS p.1) = ts at *
      generalize q.2.map (pairS q.1) = ts' at *
      unfold st03
      simp [-eqD_str, e1, e2, e3, e5, e4, a0, t1, t2]
    · have : (q :: r).filter (fun _ => false) = [] := List.filter_eq_nil_iff.mpr fun _ _ h => by cases h
      rw [this]; rfl
  · show ([m].all flatMO) = true
    simp [hm]
  · show ([Sl.d (.ptr 0), .d _, x2, x3, x4, x5, x6, .no].all flatSl) = true
    simp only [List.all_cons, List.all_nil, h2, h3, h4, h5, h6]
    rfl
end KM
namespace KM
open PySem PySem.Spec PyProof.Rows L2 KD
theorem right03 {m : MO} (hB : Bag 0 [m]) : ∃ m' : MO, f_l_right_v2 [.ptr 0] [m] = some (.d (.bl true), [m']) := by
  obtain ⟨ε', l1, L, x2, x3, x4, x5, x6, m1, rfl, hl, hL, hB1, g2, g3, g4, g5, g6⟩ := loopF_inv (g := gN 2) (body := b_l_right_v2_2) (fun i ε => ∃ (L : List (List Nat × List (Nat × Nat))) (x2 x3 x4 x5 x6 : Sl) (m1 : MO), ε = st03 L x2 x3 x4 x5 x6 .no m1 ∧ L.length = i ∧ Oks L ∧ Bag (100 * i) [m1] ∧ flatSl x2 = true ∧ flatSl x3 = true ∧ flatSl x4 = true ∧ flatSl x5 = true ∧ flatSl x6 = true)
    (rngD 0 5) 0 (st03 [] .no .no .no .no .no .no m) ⟨[], .no, .no, .no, .no, .no, m, rfl, rfl, (fun _ h => by cases h), hB, rfl, rfl, rfl, rfl, rfl⟩ (fun i ε d hd ⟨L, x2, x3, x4, x5, x6, m1, e, hl, hL, hB1, g2, g3, g4, g5, g6⟩ => by
      subst e
      obtain ⟨hi, rfl⟩ := rngD_get hd
      obtain ⟨m2, p, y3, y4, y5, y6, e1, hB2, hp, f3, f4, f5, f6⟩ := turn03 (L := L) (x2 := .d (.int (0 + (i : Int)))) (x3 := x3) (x4 := x4) (x5 := x5) (x6 := x6) (x7 := .no) g4 hB1 (by omega) (by omega)
      refine ⟨_, _, rfl, .inl e1, L ++ [p], .d (.int (0 + (i : Int))), y3, y4, y5, y6, m2, rfl, by rw [List.length_append, hl]; rfl, fun q hq => ?_, by rw [Nat.mul_add]; exact hB2, rfl, f3, f4, f5, f6⟩
      rcases List.mem_append.mp hq with hq | hq
      · exact hL q hq
      · rw [List.mem_singleton] at hq; subst hq; exact hp)
  have h5 : (rngD 0 5).length = 5 := rngD_len
  rw [h5] at hl
  have hne : L ≠ [] := fun e => by rw [e] at hl; simp at hl
  have hf : flatMO m1 = true := by
    have := hB1.flat
    simpa using this
  have c1 := lc03 hL hne hf g2 g3 g4 g5 g6
  have b5 : bnd 5 = true := bnd_mk (by decide) (by decide)
  have f5 : FitE (5 : Int).toNat := fitE (by decide)
  have q1 : eqD (.lst []) (.lst []) = some (.d (.bl true)) := by
    have := Enc.int.lst.eqD (by decide) [] []
    rw [decide_eq_true rfl] at this
    exact this
  have l1' : loopF (gN 2) b_l_right_v2_2 (rngD 0 5) (st03 [] .no .no .no .no .no .no m) = some (.nx (st03 L x2 x3 x4 x5 x6 .no m1)) := l1
  refine ⟨m1, ?_⟩
  unfold st03 at l1' c1
  simp only [List.map_nil] at l1'
  generalize L.map wDn = LL at *
  unfold f_l_right_v2 m_l_right_v2 w_l_right_v2_2
  generalize (eBor 1 c_l_right_v2_1) = CC at *
  simp [slots0, List.replicate, b5, f5, l1', c1, q1, hB.len, hB1.len]
def baC : List Nat := [98, 97]
theorem net_ba0 : Net baC [] := ⟨by decide, by decide, by decide, by decide +kernel, by unfold LexS; decide, by decide⟩
theorem net_ba1 : Net baC [(0, 1)] := ⟨by decide, by decide, by decide, by decide +kernel, by unfold LexS; decide, by decide⟩
theorem law_v2_true (ns : List Int) (hl : ns.length ≤ 63) : f_law_v2 [.scr ns] [] = some (.d (.bl true), []) := by
  have S : Sto [] := .inl rfl
  have e1 := read_spec S net_ba0 (by decide)
  have e2 := read_spec S net_ba1 (by decide)
  have w1 : wtxN baC [] = ("places b, a\nties none" : Str) := by decide +kernel
  have w2 : wtxN baC [(0, 1)] = ("places b, a\nties ba" : Str) := by decide +kernel
  have w3 : [(0, 1)].map (pairS baC) = (["ba"] : List Str) := by decide +kernel
  rw [w1] at e1
  rw [w2, w3] at e2
  have ba := bag_all (y := .no) (fr := f_l_right_v2) (q := 5) (by decide) (fun m hB => right03 hB) ns hl
  have ba' : eCB allD (aCons c_law_v2_1 aNil) ⟨[.d (.scr ns), .no, .no], []⟩ = some (.d (.bl true), ⟨[.d (.scr ns), .no, .no], []⟩) := ba
  clear ba
  have q1 : eqD (.lst [.tup [.str ("b" : Str), .str ("a" : Str)], .tup [], .tup [.str ("ba" : Str)]]) (.lst [.tup [.str ("b" : Str), .str ("a" : Str)], .tup [], .tup [.str ("ba" : Str)]]) = some (.d (.bl true)) := by
    have := Enc.str.tup.lst.eqD (by decide) ([["b", "a"], [], ["ba"]] : List (List Str)) [["b", "a"], [], ["ba"]]
    rw [decide_eq_true rfl] at this
    exact this
  have x1 : webD baC (([] : List (Nat × Nat)).map (pairS baC)) = .ins 0 ["places", "ties"] [.tup [.str ("b" : Str), .str ("a" : Str)], .tup []] := rfl
  have x2 : webD baC ["ba"] = .ins 0 ["places", "ties"] [.tup [.str ("b" : Str), .str ("a" : Str)], .tup [.str ("ba" : Str)]] := rfl
  rw [x1] at e1
  rw [x2] at e2
  unfold f_law_v2 m_law_v2
  generalize (eCB allD (aCons c_law_v2_1 aNil)) = CA at *
  simp [slots0, List.replicate, ba', e1, e2, q1, lookP, lookT]
end KM

set_option maxHeartbeats 4000000
namespace L03
open PySem PySem.Spec PyProof.Rows L2 KD KM
abbrev Fx (w : World) (h : Heap) (K : PySem.W.Frag) : Prop := SaysY fa fn [] [] da exB w h K
section
variable {P : Program} {w : World} {K : PySem.W.Frag} {mg : Str → Option Value} {base h : Heap}
theorem fz (KX : K.In h) (G : h.Ns mainGlobals mg) (c : Fx w h K) {x : Str} (i : Nat) (e : fa[i]? = some (.free x)) : mg x = none := He.free_ok KX G (c.t.d.fact i e)
theorem gz (KX : K.In h) (G : h.Ns mainGlobals mg) (c : Fx w h K) {x : Str} (i : Nat) (e : fa[i]? = some (.glo x)) : mg x = some (.ref (He.ga K x)) := He.glo_ok KX G (c.t.d.fact i e)
theorem iz (KX : K.In h) (G : h.Ns mainGlobals mg) (c : Fx w h K) {x : Str} {z : Int} (i : Nat) (e : fa[i]? = some (.int x z)) : ∃ t, mg x = some (.int z t) := He.int_ok KX G (c.t.d.fact i e)
theorem sz_ (KX : K.In h) (G : h.Ns mainGlobals mg) (c : Fx w h K) {x z : Str} (i : Nat) (e : fa[i]? = some (.str x z)) : ∃ t, mg x = some (.str z t) := He.str_ok KX G (c.t.d.fact i e)
theorem cz (c : Fx w h K) {x : Str} (i : Nat) (e : fa[i]? = some (.cls x)) : Cls K (He.ga K x) := He.cls_ok (c.t.d.fact i e)
theorem nz (c : Fx w h K) {x f : Str} (i : Nat) (e : fa[i]? = some (.noat x f)) : NoAttr K (He.ga K x) f := He.noat_ok (c.t.d.fact i e)
theorem mz (c : Fx w h K) {x m : Str} (i : Nat) (e : fa[i]? = some (.meth x m)) : Meth K (He.ga K x) m (He.ma K (He.ga K x) m) := He.meth_ok (c.t.d.fact i e)
theorem yz (c : Fx w h K) {x : Str} (i : Nat) (e : fa[i]? = some (.mkr x)) : Mk K (He.ga K x) (He.ma K (He.ga K x) "__init__") := He.mkr_ok (c.t.d.fact i e)
theorem xz (c : Fx w h K) {f : PySem.W.Frag → Bool} (i : Nat) (e : exs[i]? = some f) : f K = true := List.all_eq_true.mp c.more f (List.mem_of_getElem? e)
theorem dz (c : Fx w h K) {d : He.DefD} (i : Nat) (e : fn[i]? = some d) : FunD K d.name d.qual d.params d.body d.scope (d.dvs K) (d.kws K) (He.fAd K d.at_) (fdOf K d) := sx_def c.x (List.mem_of_getElem? e)
theorem isI_Web (c : Fx w h K) : ∀ q ∈ isL_Web, IsC K (ctOf K q.1) := fun q z => (List.mem_cons.mp z).elim (fun e => by rw [e]; exact clsB_ok (xz c 3 rfl) (cz (x := "Web") c 22 rfl)) ((fun _ z => nomatch z) q)
theorem isK_Web (c : Fx w h K) : ∀ q ∈ isL_Web, PySem.W.kitOne K (.ref (ctOf K q.1)) (.ref (He.ga K "Web")) = some q.2 := fun q z => (List.mem_cons.mp z).elim (fun e => by rw [e]; exact kit2B_ok (xz c 4 rfl)) ((fun _ z => nomatch z) q)
theorem isT_Web (c : Fx w h K) : tyNames.all (fun n => decide (PySem.W.kitOne K (.type n) (.ref (He.ga K "Web")) = some false)) = true := xz (f := fun K => kitTB K "Web") c 5 rfl
theorem F_l_draw (c : Fx w h K) : FunD K "_law_draw" "_law_draw" (defArgs s_l_draw) (defBody s_l_draw) (defScope s_l_draw) [] [] (He.ga K "_law_draw") (fdOf K d_l_draw) := dz c 0 rfl
theorem kp_l_draw (c : Fx w h K) : PySem.W.keepIn K (.ref (He.ga K "_law_draw")) = true := (F_l_draw c).kp
theorem b_l_draw_2 (c : Fx w h K) : Binds K (fdOf K d_l_draw) ["_law_bag_here", "_law_wide"] [] := (F_l_draw c).bindsN fun _ _ _ _ _ _ us hl => match us, hl with | [_, _], _ => rfl
theorem ok_l_draw (KX : K.In h) (G : h.Ns mainGlobals mg) (c : Fx w h K) : FnOk P w K mg base CX0 1 (He.ga K "_law_draw") (fdOf K d_l_draw) ["_law_bag_here", "_law_wide"] (FnS K (ctOf K) 2 f_l_draw) := by
  refine fd_ok (F_l_draw c) sc_l_draw fun cdv A outer s H E hr => ?_
  have S := sc_l_draw
  have hu80 : (A.deeper (envOfC "_law_draw" (defScope s_l_draw) s.heap.objs.size (He.ga K "_law_draw") cdv)).units + 80 < cLine := by have := hr.un; omega
  have hu65 : (A.deeper (envOfC "_law_draw" (defScope s_l_draw) s.heap.objs.size (He.ga K "_law_draw") cdv)).units + 65 < cLine := by omega
  have hu64 : (A.deeper (envOfC "_law_draw" (defScope s_l_draw) s.heap.objs.size (He.ga K "_law_draw") cdv)).units + 64 < cLine := by omega
  have hu1 : (A.deeper (envOfC "_law_draw" (defScope s_l_draw) s.heap.objs.size (He.ga K "_law_draw") cdv)).units + 1 < cLine := by omega
  have hu0 : (A.deeper (envOfC "_law_draw" (defScope s_l_draw) s.heap.objs.size (He.ga K "_law_draw") cdv)).units < cLine := by omega
  exact (dss_cons (ds_setIx (ps_asg (de_fz (de_op op_addU os_add (de_ix ix_seq os_ix (de_var (pv 0)) (de_c pe_int (fun _ _ => .int _)) (fun _ _ => rfl)) (de_c pe_int (fun _ _ => .int _)))) (pg_sub (de_fz (de_var (pv 0))) (de_fz (de_c pe_int (fun _ _ => .int _))) set_list (fun _ => rfl))))
  (dss_cons (ds_if (dt_cmp op_gtU os_gt (de_ix ix_seq os_ix (de_var (pv 0)) (de_c pe_int (fun _ _ => .int _)) (fun _ _ => rfl)) (de_c pe_int (fun _ _ => .int _)) (nomark _)) (dss_cons (ds_set (ps_set (i := 4) S.nd rfl (by first | exact .inl rfl | exact .inr rfl) (de_fz (de_op op_mod os_mod (de_callTy cs_intU (call_intU) (da_cons (de_ix ix_seq os_ix (de_var (pv 0)) (de_c pe_int (fun _ _ => .int _)) (fun _ _ => rfl)) da_nil) (fz KX G c 4 rfl)) (de_var (pv 1))))))
  (dss_cons (ds_setIx (ps_asg (de_fz (de_op op_fdiv os_fdiv (de_ix ix_seq os_ix (de_var (pv 0)) (de_c pe_int (fun _ _ => .int _)) (fun _ _ => rfl)) (de_var (pv 1)))) (pg_sub (de_fz (de_var (pv 0))) (de_fz (de_c pe_int (fun _ _ => .int _))) set_list (fun _ => rfl))))
  (dss_one (ds_ret (de_var (pv 4)))))) dss_nil)
  (dss_cons (ds_set (ps_set (i := 2) S.nd rfl (by first | exact .inl rfl | exact .inr rfl) (de_fz (de_op op_addU os_add (de_callTy cs_intU (call_intU) (da_cons (de_ix ix_seq os_ix (de_var (pv 0)) (de_c pe_int (fun _ _ => .int _)) (fun _ _ => rfl)) da_nil) (fz KX G c 4 rfl)) (de_op op_mulU os_mul (de_c pe_int (fun _ _ => .int _)) (de_ix ix_seq os_ix (de_var (pv 0)) (de_c pe_int (fun _ _ => .int _)) (fun _ _ => rfl)))))))
  (dss_cons (ds_set (ps_set (i := 3) S.nd rfl (by first | exact .inl rfl | exact .inr rfl) (de_fz (de_op op_addU os_add (de_op op_mod os_mod (de_callTy cs_intU (call_intU) (da_cons (de_var (pv 2)) da_nil) (fz KX G c 4 rfl)) (de_c pe_int (fun _ _ => .int _))) (de_c pe_int (fun _ _ => .int _))))))
  (dss_cons (ds_setIx (ps_asg (de_fz (de_op op_mod os_mod (de_callTy cs_intU (call_intU) (da_cons (de_op op_addU os_add (de_op op_addU os_add (de_op op_mulU os_mul (de_var (pv 2)) (de_var (pv 3))) (de_op op_mulU os_mul (de_c pe_int (fun _ _ => .int _)) (de_ix ix_seq os_ix (de_var (pv 0)) (de_c pe_int (fun _ _ => .int _)) (fun _ _ => rfl)))) (de_c pe_int (fun _ _ => .int _))) da_nil) (fz KX G c 4 rfl)) (de_c pe_int (fun _ _ => .int _)))) (pg_sub (de_fz (de_var (pv 0))) (de_fz (de_c pe_int (fun _ _ => .int _))) set_list (fun _ => rfl))))
  (dss_one (ds_ret (de_op op_mod os_mod (de_op op_fdiv os_fdiv (de_callTy cs_intU (call_intU) (da_cons (de_ix ix_seq os_ix (de_var (pv 0)) (de_c pe_int (fun _ _ => .int _)) (fun _ _ => rfl)) da_nil) (fz KX G c 4 rfl)) (de_c pe_int (fun _ _ => .int _))) (de_var (pv 1))))))))))
theorem F_l_one (c : Fx w h K) : FunD K "_law_one" "_law_one" (defArgs s_l_one) (defBody s_l_one) (defScope s_l_one) [] [] (He.ga K "_law_one") (fdOf K d_l_one) := dz c 1 rfl
theorem kp_l_one (c : Fx w h K) : PySem.W.keepIn K (.ref (He.ga K "_law_one")) = true := (F_l_one c).kp
theorem b_l_one_2 (c : Fx w h K) : Binds K (fdOf K d_l_one) ["_law_bag_here", "_law_some"] [] := (F_l_one c).bindsN fun _ _ _ _ _ _ us hl => match us, hl with | [_, _], _ => rfl
theorem ok_l_one (KX : K.In h) (G : h.Ns mainGlobals mg) (c : Fx w h K) : FnOk P w K mg base CX0 2 (He.ga K "_law_one") (fdOf K d_l_one) ["_law_bag_here", "_law_some"] (FnS K (ctOf K) 2 f_l_one) := by
  refine fd_ok (F_l_one c) sc_l_one fun cdv A outer s H E hr => ?_
  have S := sc_l_one
  have hu80 : (A.deeper (envOfC "_law_one" (defScope s_l_one) s.heap.objs.size (He.ga K "_law_one") cdv)).units + 80 < cLine := by have := hr.un; omega
  have hu65 : (A.deeper (envOfC "_law_one" (defScope s_l_one) s.heap.objs.size (He.ga K "_law_one") cdv)).units + 65 < cLine := by omega
  have hu64 : (A.deeper (envOfC "_law_one" (defScope s_l_one) s.heap.objs.size (He.ga K "_law_one") cdv)).units + 64 < cLine := by omega
  have hu1 : (A.deeper (envOfC "_law_one" (defScope s_l_one) s.heap.objs.size (He.ga K "_law_one") cdv)).units + 1 < cLine := by omega
  have hu0 : (A.deeper (envOfC "_law_one" (defScope s_l_one) s.heap.objs.size (He.ga K "_law_one") cdv)).units < cLine := by omega
  exact (dss_one (ds_ret (de_ix ix_seq os_ix (de_var (pv 1)) (de_call (ok_l_draw KX G c) (hr.mono (by decide)) (gz KX G c 5 rfl) (kp_l_draw c) (b_l_draw_2 c) .nil pass0 (fun _ _ => .nil) (fun _ _ _ => runF_len) (da_cons (de_var (pv 0)) (da_cons (de_callB cs_len (call_len) (da_cons (de_var (pv 1)) da_nil) (fz KX G c 0 rfl)) da_nil))) (fun _ _ => rfl))))
theorem F_l_web (c : Fx w h K) : FunD K "_law_web" "_law_web" (defArgs s_l_web) (defBody s_l_web) (defScope s_l_web) [] [] (He.ga K "_law_web") (fdOf K d_l_web) := dz c 2 rfl
theorem kp_l_web (c : Fx w h K) : PySem.W.keepIn K (.ref (He.ga K "_law_web")) = true := (F_l_web c).kp
theorem b_l_web_3 (c : Fx w h K) : Binds K (fdOf K d_l_web) ["_law_bag_here", "_law_most_places", "_law_most_ties"] [] := (F_l_web c).bindsN fun _ _ _ _ _ _ us hl => match us, hl with | [_, _, _], _ => rfl
theorem ok_l_web (KX : K.In h) (G : h.Ns mainGlobals mg) (c : Fx w h K) : FnOk P w K mg base CX0 3 (He.ga K "_law_web") (fdOf K d_l_web) ["_law_bag_here", "_law_most_places", "_law_most_ties"] (FnS K (ctOf K) 3 f_l_web) := by
  refine fd_ok (F_l_web c) sc_l_web fun cdv A outer s H E hr => ?_
  have S := sc_l_web
  have hu80 : (A.deeper (envOfC "_law_web" (defScope s_l_web) s.heap.objs.size (He.ga K "_law_web") cdv)).units + 80 < cLine := by have := hr.un; omega
  have hu65 : (A.deeper (envOfC "_law_web" (defScope s_l_web) s.heap.objs.size (He.ga K "_law_web") cdv)).units + 65 < cLine := by omega
  have hu64 : (A.deeper (envOfC "_law_web" (defScope s_l_web) s.heap.objs.size (He.ga K "_law_web") cdv)).units + 64 < cLine := by omega
  have hu1 : (A.deeper (envOfC "_law_web" (defScope s_l_web) s.heap.objs.size (He.ga K "_law_web") cdv)).units + 1 < cLine := by omega
  have hu0 : (A.deeper (envOfC "_law_web" (defScope s_l_web) s.heap.objs.size (He.ga K "_law_web") cdv)).units < cLine := by omega
  exact (dss_cons (ds_set (ps_set (i := 3) S.nd rfl (by first | exact .inl rfl | exact .inr rfl) (de_lst (da_cons (de_c pe_str (fun _ _ => .str _ (by decide +kernel))) (da_cons (de_c pe_str (fun _ _ => .str _ (by decide +kernel))) (da_cons (de_c pe_str (fun _ _ => .str _ (by decide +kernel))) (da_cons (de_c pe_str (fun _ _ => .str _ (by decide +kernel))) (da_cons (de_c pe_str (fun _ _ => .str _ (by decide +kernel))) (da_cons (de_c pe_str (fun _ _ => .str _ (by decide +kernel))) (da_cons (de_c pe_str (fun _ _ => .str _ (by decide +kernel))) (da_cons (de_c pe_str (fun _ _ => .str _ (by decide +kernel))) (da_cons (de_c pe_str (fun _ _ => .str _ (by decide +kernel))) (da_cons (de_c pe_str (fun _ _ => .str _ (by decide +kernel))) da_nil)))))))))))))
  (dss_cons (ds_if (dt_cmp (op_eqD hu64) os_eq (de_call (ok_l_draw KX G c) (hr.mono (by decide)) (gz KX G c 5 rfl) (kp_l_draw c) (b_l_draw_2 c) .nil pass0 (fun _ _ => .nil) (fun _ _ _ => runF_len) (da_cons (de_var (pv 0)) (da_cons (de_c pe_int (fun _ _ => .int _)) da_nil))) (de_c pe_int (fun _ _ => .int _)) (nomark _)) (dss_one (ds_set (ps_set (i := 9) S.nd rfl (by first | exact .inl rfl | exact .inr rfl) (de_fz (de_callTy cs_tup (call_tupU rfl) (da_cons (de_slice (de_var (pv 3)) do_none (do_some (de_op op_addU os_add (de_c pe_int (fun _ _ => .int _)) (de_call (ok_l_draw KX G c) (hr.mono (by decide)) (gz KX G c 5 rfl) (kp_l_draw c) (b_l_draw_2 c) .nil pass0 (fun _ _ => .nil) (fun _ _ _ => runF_len) (da_cons (de_var (pv 0)) (da_cons (de_var (pv 1)) da_nil)))))) da_nil) (fz KX G c 6 rfl)))))) (dss_one (ds_set (ps_set (i := 9) S.nd rfl (by first | exact .inl rfl | exact .inr rfl) (de_fz (de_callTy cs_tup (call_tupU rfl) (da_cons (de_lc rfl S.nd (it_range1 (de_op op_addU os_add (de_c pe_int (fun _ _ => .int _)) (de_call (ok_l_draw KX G c) (hr.mono (by decide)) (gz KX G c 5 rfl) (kp_l_draw c) (b_l_draw_2 c) .nil pass0 (fun _ _ => .nil) (fun _ _ _ => runF_len) (da_cons (de_var (pv 0)) (da_cons (de_var (pv 1)) da_nil)))) (fz KX G c 3 rfl)) (own := [("_law_k", 5)]) (blk_of (by kernel_rfl)) (tg_name (i := 5)) (by decide) (fun _ _ _ _ _ => (pg_name (i := 5) S.nd rfl (by first | exact .inl rfl | exact .inr rfl))) (fun _ _ _ _ _ => dts_nil) (fun _ _ _ _ _ => (de_mut tym_list ms_pop PySem.F.plainAttrs_list PySem.F.slot_list_pop PySem.F.type_list_pop mt_popU (de_var (pv 3)) (da_cons (de_call (ok_l_draw KX G c) (hr.mono (by decide)) (gz KX G c 5 rfl) (kp_l_draw c) (b_l_draw_2 c) .nil pass0 (fun _ _ => .nil) (fun _ _ _ => runF_len) (da_cons (de_var (pv 0)) (da_cons (de_callB cs_len (call_len) (da_cons (de_var (pv 3)) da_nil) (fz KX G c 0 rfl)) da_nil))) da_nil)))) da_nil) (fz KX G c 6 rfl)))))))
  (dss_cons (ds_set (ps_set (i := 4) S.nd rfl (by first | exact .inl rfl | exact .inr rfl) (de_fz (de_lst da_nil))))
  (dss_cons (ds_for PassesOwn.never rfl (tg_name (i := 5)) (it_range1 (de_callB cs_len (call_len) (da_cons (de_var (pv 9)) da_nil) (fz KX G c 0 rfl)) (fz KX G c 3 rfl)) (pg_name (i := 5) S.nd rfl (by first | exact .inl rfl | exact .inr rfl)) (dss_one (ds_set (ps_set (i := 4) S.nd rfl (by first | exact .inl rfl | exact .inr rfl) (de_fz (de_op op_addU os_add (de_var (pv 4)) (de_lc rfl S.nd (it_any (de_slice (de_var (pv 9)) (do_some (de_op op_addU os_add (de_var (pv 5)) (de_c pe_int (fun _ _ => .int _)))) do_none)) (own := [("_law_other", 11)]) (blk_of (by kernel_rfl)) (tg_name (i := 11)) (by decide) (fun _ _ _ _ _ => (pg_name (i := 11) S.nd rfl (by first | exact .inl rfl | exact .inr rfl))) (fun _ _ _ _ _ => dts_nil) (fun _ _ _ _ _ => (de_op op_addU os_add (de_ix ix_seq os_ix (de_var (pv 9)) (de_var (pv 5)) (fun _ _ => rfl)) (de_var (pv 11)))))))))) (fun hi hg hb => ps_for PassesOwn.never rfl hi hg hb))
  (dss_cons (ds_set (ps_set (i := 6) S.nd rfl (by first | exact .inl rfl | exact .inr rfl) (de_fz (de_call (ok_l_one KX G c) (hr.mono (by decide)) (gz KX G c 7 rfl) (kp_l_one c) (b_l_one_2 c) .nil pass0 (fun _ _ => .nil) (fun _ _ _ => runF_len) (da_cons (de_var (pv 0)) (da_cons (de_lst (da_cons (de_c pe_int (fun _ _ => .int _)) (da_cons (de_c pe_int (fun _ _ => .int _)) (da_cons (de_c pe_int (fun _ _ => .int _)) da_nil)))) da_nil))))))
  (dss_cons (ds_set (dsp_lc (i := 7) rfl rfl (by rfl) rfl S.nd (it_any (de_var (pv 4))) (own := [("_law_tie", 10)]) (blk_of (by kernel_rfl)) (tg_name (i := 10)) (by decide) (fun _ _ _ _ _ => (pg_name (i := 10) S.nd rfl (by first | exact .inl rfl | exact .inr rfl))) (fun _ _ _ _ _ => (pts_one (dt_cmp op_gtU os_gt (de_call (ok_l_draw KX G c) (hr.mono (by decide)) (gz KX G c 5 rfl) (kp_l_draw c) (b_l_draw_2 c) .nil pass0 (fun _ _ => .nil) (fun _ _ _ => runF_len) (da_cons (de_var (pv 0)) (da_cons (de_var (pv 6)) da_nil))) (de_c pe_int (fun _ _ => .int _)) (nomark _)))) (fun _ _ _ _ _ => (de_var (pv 10)))))
  (dss_cons (ds_for PassesOwn.never rfl (tg_name (i := 8)) (it_range1 (de_callB cs_max2 (call_max2 rfl) (da_cons (de_c pe_int (fun _ _ => .int _)) (da_cons (de_op op_sub os_sub (de_callB cs_len (call_len) (da_cons (de_var (pv 7)) da_nil) (fz KX G c 0 rfl)) (de_var (pv 2))) da_nil)) (fz KX G c 2 rfl)) (fz KX G c 3 rfl)) (pg_name (i := 8) S.nd rfl (by first | exact .inl rfl | exact .inr rfl)) (dss_one (ds_expr (de_mut tym_list ms_pop PySem.F.plainAttrs_list PySem.F.slot_list_pop PySem.F.type_list_pop mt_popU (de_var (pv 7)) (da_cons (de_call (ok_l_draw KX G c) (hr.mono (by decide)) (gz KX G c 5 rfl) (kp_l_draw c) (b_l_draw_2 c) .nil pass0 (fun _ _ => .nil) (fun _ _ _ => runF_len) (da_cons (de_var (pv 0)) (da_cons (de_callB cs_len (call_len) (da_cons (de_var (pv 7)) da_nil) (fz KX G c 0 rfl)) da_nil))) da_nil)))) (fun hi hg hb => ps_for PassesOwn.never rfl hi hg hb))
  (dss_one (ds_ret (de_lst (da_cons (de_var (pv 9)) (da_cons (de_callTy cs_tup (call_tupU rfl) (da_cons (de_var (pv 7)) da_nil) (fz KX G c 6 rfl)) da_nil))))))))))))
theorem F_is_letter (c : Fx w h K) : FunD K "is_letter" "is_letter" (defArgs s_is_letter) (defBody s_is_letter) (defScope s_is_letter) [] [] (He.ga K "is_letter") (fdOf K d_is_letter) := dz c 3 rfl
theorem kp_is_letter (c : Fx w h K) : PySem.W.keepIn K (.ref (He.ga K "is_letter")) = true := (F_is_letter c).kp
theorem b_is_letter_1 (c : Fx w h K) : Binds K (fdOf K d_is_letter) ["value"] [] := (F_is_letter c).bindsN fun _ _ _ _ _ _ us hl => match us, hl with | [_], _ => rfl
theorem ok_is_letter (KX : K.In h) (G : h.Ns mainGlobals mg) (c : Fx w h K) : FnOk P w K mg base CX0 1 (He.ga K "is_letter") (fdOf K d_is_letter) ["value"] (FnS K (ctOf K) 1 f_is_letter) := by
  obtain ⟨t_LETTERS, e_LETTERS⟩ := sz_ (mg := mg) KX G c 11 rfl
  refine fd_ok (F_is_letter c) sc_is_letter fun cdv A outer s H E hr => ?_
  have S := sc_is_letter
  have hu80 : (A.deeper (envOfC "is_letter" (defScope s_is_letter) s.heap.objs.size (He.ga K "is_letter") cdv)).units + 80 < cLine := by have := hr.un; omega
  have hu65 : (A.deeper (envOfC "is_letter" (defScope s_is_letter) s.heap.objs.size (He.ga K "is_letter") cdv)).units + 65 < cLine := by omega
  have hu64 : (A.deeper (envOfC "is_letter" (defScope s_is_letter) s.heap.objs.size (He.ga K "is_letter") cdv)).units + 64 < cLine := by omega
  have hu1 : (A.deeper (envOfC "is_letter" (defScope s_is_letter) s.heap.objs.size (He.ga K "is_letter") cdv)).units + 1 < cLine := by omega
  have hu0 : (A.deeper (envOfC "is_letter" (defScope s_is_letter) s.heap.objs.size (He.ga K "is_letter") cdv)).units < cLine := by omega
  exact (dss_one (ds_ret (de_and (de_isT tab_str (by decide +kernel) (fz KX G c 9 rfl) (fz KX G c 12 rfl) (de_var (pv 0))) (de_and (de_cmp (op_eqD hu64) os_eq (de_callB cs_len (call_len) (da_cons (de_var (pv 0)) da_nil) (fz KX G c 0 rfl)) (de_c pe_int (fun _ _ => .int _)) (nomark _)) (de_one (de_cmp (op_inU hu65) os_in (de_var (pv 0)) (de_c (pe_glob (v := .str ("abcdefghijklmnopqrstuvwxyz" : Str)) rfl e_LETTERS ⟨t_LETTERS, rfl⟩) (fun _ _ => .str _ (by decide +kernel))) (by with_unfolding_all rfl)))))))
theorem F_wrong_place (c : Fx w h K) : FunD K "wrong_place" "wrong_place" (defArgs s_wrong_place) (defBody s_wrong_place) (defScope s_wrong_place) [] [] (He.ga K "wrong_place") (fdOf K d_wrong_place) := dz c 4 rfl
theorem kp_wrong_place (c : Fx w h K) : PySem.W.keepIn K (.ref (He.ga K "wrong_place")) = true := (F_wrong_place c).kp
theorem b_wrong_place_1 (c : Fx w h K) : Binds K (fdOf K d_wrong_place) ["value"] [] := (F_wrong_place c).bindsN fun _ _ _ _ _ _ us hl => match us, hl with | [_], _ => rfl
theorem ok_wrong_place (KX : K.In h) (G : h.Ns mainGlobals mg) (c : Fx w h K) : FnOk P w K mg base CX0 2 (He.ga K "wrong_place") (fdOf K d_wrong_place) ["value"] (FnS K (ctOf K) 1 f_wrong_place) := by
  obtain ⟨t_MOST_PLACES, e_MOST_PLACES⟩ := iz (mg := mg) KX G c 14 rfl
  refine fd_ok (F_wrong_place c) sc_wrong_place fun cdv A outer s H E hr => ?_
  have S := sc_wrong_place
  have hu80 : (A.deeper (envOfC "wrong_place" (defScope s_wrong_place) s.heap.objs.size (He.ga K "wrong_place") cdv)).units + 80 < cLine := by have := hr.un; omega
  have hu65 : (A.deeper (envOfC "wrong_place" (defScope s_wrong_place) s.heap.objs.size (He.ga K "wrong_place") cdv)).units + 65 < cLine := by omega
  have hu64 : (A.deeper (envOfC "wrong_place" (defScope s_wrong_place) s.heap.objs.size (He.ga K "wrong_place") cdv)).units + 64 < cLine := by omega
  have hu1 : (A.deeper (envOfC "wrong_place" (defScope s_wrong_place) s.heap.objs.size (He.ga K "wrong_place") cdv)).units + 1 < cLine := by omega
  have hu0 : (A.deeper (envOfC "wrong_place" (defScope s_wrong_place) s.heap.objs.size (He.ga K "wrong_place") cdv)).units < cLine := by omega
  exact (dss_cons (ds_for PassesOwn.never rfl (tg_tup (tgs_cons (tg_name (i := 1)) (tgs_cons (tg_name (i := 2)) tgs_nil))) (it_enum (de_var (pv 0)) (fz KX G c 10 rfl)) (pg_tup rfl (pgs_cons (pg_name (i := 1) S.nd rfl (by first | exact .inl rfl | exact .inr rfl)) (pgs_cons (pg_name (i := 2) S.nd rfl (by first | exact .inl rfl | exact .inr rfl)) pgs_nil))) (dss_one (ds_if (PW.pt (dw_or (dt_cmp (op_eqD hu64) os_eq (de_var (pv 1)) (de_c (pe_glob (v := .int 6) rfl e_MOST_PLACES ⟨t_MOST_PLACES, rfl⟩) (fun _ _ => .int _)) (nomark _)) (dw_or (dt_not (dt_tru (de_call (ok_is_letter KX G c) (hr.mono (by decide)) (gz KX G c 13 rfl) (kp_is_letter c) (b_is_letter_1 c) .nil pass0 (fun _ _ => .nil) (fun _ _ _ => runF_len) (da_cons (de_var (pv 2)) da_nil)))) (dw_or1 (dt_cmp (op_inU hu65) os_in (de_var (pv 2)) (de_slice (de_var (pv 0)) do_none (do_some (de_var (pv 1)))) (by with_unfolding_all rfl)))))) (dss_one (ds_ret (de_var (pv 1)))) dss_nil)) (fun hi hg hb => ps_for PassesOwn.never rfl hi hg hb))
  (dss_one (ds_ret (de_c pe_non (fun _ _ => .non)))))
theorem F_check_places (c : Fx w h K) : FunD K "check_places" "check_places" (defArgs s_check_places) (defBody s_check_places) (defScope s_check_places) [] [] (He.ga K "check_places") (fdOf K d_check_places) := dz c 5 rfl
theorem kp_check_places (c : Fx w h K) : PySem.W.keepIn K (.ref (He.ga K "check_places")) = true := (F_check_places c).kp
theorem b_check_places_1 (c : Fx w h K) : Binds K (fdOf K d_check_places) ["places"] [] := (F_check_places c).bindsN fun _ _ _ _ _ _ us hl => match us, hl with | [_], _ => rfl
theorem ok_check_places (KX : K.In h) (G : h.Ns mainGlobals mg) (c : Fx w h K) : FnOk P w K mg base CX0 3 (He.ga K "check_places") (fdOf K d_check_places) ["places"] (FnS K (ctOf K) 1 f_check_places) := by
  refine fd_ok (F_check_places c) sc_check_places fun cdv A outer s H E hr => ?_
  have S := sc_check_places
  have hu80 : (A.deeper (envOfC "check_places" (defScope s_check_places) s.heap.objs.size (He.ga K "check_places") cdv)).units + 80 < cLine := by have := hr.un; omega
  have hu65 : (A.deeper (envOfC "check_places" (defScope s_check_places) s.heap.objs.size (He.ga K "check_places") cdv)).units + 65 < cLine := by omega
  have hu64 : (A.deeper (envOfC "check_places" (defScope s_check_places) s.heap.objs.size (He.ga K "check_places") cdv)).units + 64 < cLine := by omega
  have hu1 : (A.deeper (envOfC "check_places" (defScope s_check_places) s.heap.objs.size (He.ga K "check_places") cdv)).units + 1 < cLine := by omega
  have hu0 : (A.deeper (envOfC "check_places" (defScope s_check_places) s.heap.objs.size (He.ga K "check_places") cdv)).units < cLine := by omega
  exact (dss_cons (ds_if (PW.pt (dw_or (dt_not (dt_tru (de_isT tab_tuple (by decide +kernel) (fz KX G c 9 rfl) (fz KX G c 6 rfl) (de_var (pv 0))))) (dw_or1 (dt_cmp (op_eqD hu64) os_eq (de_var (pv 0)) (de_tup da_nil) (nomark _))))) (dss_one ds_err) dss_nil)
  (dss_cons (ds_set (ps_set (i := 1) S.nd rfl (by first | exact .inl rfl | exact .inr rfl) (de_call (ok_wrong_place KX G c) (hr.mono (by decide)) (gz KX G c 15 rfl) (kp_wrong_place c) (b_wrong_place_1 c) .nil pass0 (fun _ _ => .nil) (fun _ _ _ => runF_len) (da_cons (de_var (pv 0)) da_nil))))
  (dss_one (ds_if (dt_cmp op_notN os_not (de_var (pv 1)) (de_c pe_non (fun _ _ => .non)) (nomark _)) (dss_one ds_err) dss_nil))))
theorem F_rank (c : Fx w h K) : FunD K "rank" "rank" (defArgs s_rank) (defBody s_rank) (defScope s_rank) [] [] (He.ga K "rank") (fdOf K d_rank) := dz c 6 rfl
theorem kp_rank (c : Fx w h K) : PySem.W.keepIn K (.ref (He.ga K "rank")) = true := (F_rank c).kp
theorem b_rank_2 (c : Fx w h K) : Binds K (fdOf K d_rank) ["tie", "places"] [] := (F_rank c).bindsN fun _ _ _ _ _ _ us hl => match us, hl with | [_, _], _ => rfl
theorem ok_rank (KX : K.In h) (G : h.Ns mainGlobals mg) (c : Fx w h K) : FnOk P w K mg base CX0 1 (He.ga K "rank") (fdOf K d_rank) ["tie", "places"] (FnS K (ctOf K) 2 f_rank) := by
  refine fd_ok (F_rank c) sc_rank fun cdv A outer s H E hr => ?_
  have S := sc_rank
  have hu80 : (A.deeper (envOfC "rank" (defScope s_rank) s.heap.objs.size (He.ga K "rank") cdv)).units + 80 < cLine := by have := hr.un; omega
  have hu65 : (A.deeper (envOfC "rank" (defScope s_rank) s.heap.objs.size (He.ga K "rank") cdv)).units + 65 < cLine := by omega
  have hu64 : (A.deeper (envOfC "rank" (defScope s_rank) s.heap.objs.size (He.ga K "rank") cdv)).units + 64 < cLine := by omega
  have hu1 : (A.deeper (envOfC "rank" (defScope s_rank) s.heap.objs.size (He.ga K "rank") cdv)).units + 1 < cLine := by omega
  have hu0 : (A.deeper (envOfC "rank" (defScope s_rank) s.heap.objs.size (He.ga K "rank") cdv)).units < cLine := by omega
  exact (dss_one (ds_ret (de_tup (da_cons (de_tm ms_tix PySem.F.plainAttrs_tuple PySem.F.slot_tuple_index PySem.F.type_tuple_index mt_tup_index (de_var (pv 1)) (da_cons (de_ix ix_seq os_ix (de_var (pv 0)) (de_c pe_int (fun _ _ => .int _)) (fun _ _ => rfl)) da_nil)) (da_cons (de_tm ms_tix PySem.F.plainAttrs_tuple PySem.F.slot_tuple_index PySem.F.type_tuple_index mt_tup_index (de_var (pv 1)) (da_cons (de_ix ix_seq os_ix (de_var (pv 0)) (de_c pe_int (fun _ _ => .int _)) (fun _ _ => rfl)) da_nil)) da_nil)))))
theorem F_is_tie (c : Fx w h K) : FunD K "is_tie" "is_tie" (defArgs s_is_tie) (defBody s_is_tie) (defScope s_is_tie) [] [] (He.ga K "is_tie") (fdOf K d_is_tie) := dz c 7 rfl
theorem kp_is_tie (c : Fx w h K) : PySem.W.keepIn K (.ref (He.ga K "is_tie")) = true := (F_is_tie c).kp
theorem b_is_tie_2 (c : Fx w h K) : Binds K (fdOf K d_is_tie) ["value", "places"] [] := (F_is_tie c).bindsN fun _ _ _ _ _ _ us hl => match us, hl with | [_, _], _ => rfl
theorem ok_is_tie (KX : K.In h) (G : h.Ns mainGlobals mg) (c : Fx w h K) : FnOk P w K mg base CX0 2 (He.ga K "is_tie") (fdOf K d_is_tie) ["value", "places"] (FnS K (ctOf K) 2 f_is_tie) := by
  refine fd_ok (F_is_tie c) sc_is_tie fun cdv A outer s H E hr => ?_
  have S := sc_is_tie
  have hu80 : (A.deeper (envOfC "is_tie" (defScope s_is_tie) s.heap.objs.size (He.ga K "is_tie") cdv)).units + 80 < cLine := by have := hr.un; omega
  have hu65 : (A.deeper (envOfC "is_tie" (defScope s_is_tie) s.heap.objs.size (He.ga K "is_tie") cdv)).units + 65 < cLine := by omega
  have hu64 : (A.deeper (envOfC "is_tie" (defScope s_is_tie) s.heap.objs.size (He.ga K "is_tie") cdv)).units + 64 < cLine := by omega
  have hu1 : (A.deeper (envOfC "is_tie" (defScope s_is_tie) s.heap.objs.size (He.ga K "is_tie") cdv)).units + 1 < cLine := by omega
  have hu0 : (A.deeper (envOfC "is_tie" (defScope s_is_tie) s.heap.objs.size (He.ga K "is_tie") cdv)).units < cLine := by omega
  exact (dss_cons (ds_if (PW.pt (dw_or (dt_not (dt_tru (de_isT tab_str (by decide +kernel) (fz KX G c 9 rfl) (fz KX G c 12 rfl) (de_var (pv 0))))) (dw_or (dt_cmp (op_neD hu64) os_ne (de_callB cs_len (call_len) (da_cons (de_var (pv 0)) da_nil) (fz KX G c 0 rfl)) (de_c pe_int (fun _ _ => .int _)) (nomark _)) (dw_or1 (dt_not (dt_tru (de_callB cs_all (cr_all rfl) (da_cons (de_lc rfl S.nd (it_any (de_var (pv 0))) (own := [("sign", 4)]) (blk_of (by kernel_rfl)) (tg_name (i := 4)) (by decide) (fun _ _ _ _ _ => (pg_name (i := 4) S.nd rfl (by first | exact .inl rfl | exact .inr rfl))) (fun _ _ _ _ _ => dts_nil) (fun _ _ _ _ _ => (de_cmp (op_inU hu65) os_in (de_var (pv 4)) (de_var (pv 1)) (by with_unfolding_all rfl)))) da_nil) (fz KX G c 17 rfl)))))))) (dss_one (ds_ret (de_c pe_bl (fun _ _ => .bl _)))) dss_nil)
  (dss_cons (ds_asg (tg_tup (tgs_cons (tg_name (i := 2)) (tgs_cons (tg_name (i := 3)) tgs_nil))) (ps_asg (de_fz (de_call (ok_rank KX G c) (hr.mono (by decide)) (gz KX G c 18 rfl) (kp_rank c) (b_rank_2 c) .nil pass0 (fun _ _ => .nil) (fun _ _ _ => runF_len) (da_cons (de_var (pv 0)) (da_cons (de_var (pv 1)) da_nil)))) (pg_tup rfl (pgs_cons (pg_name (i := 2) S.nd rfl (by first | exact .inl rfl | exact .inr rfl)) (pgs_cons (pg_name (i := 3) S.nd rfl (by first | exact .inl rfl | exact .inr rfl)) pgs_nil)))))
  (dss_one (ds_ret (de_cmp op_ltU os_lt (de_var (pv 2)) (de_var (pv 3)) (nomark _))))))
theorem F_wrong_tie (c : Fx w h K) : FunD K "wrong_tie" "wrong_tie" (defArgs s_wrong_tie) (defBody s_wrong_tie) (defScope s_wrong_tie) [] [] (He.ga K "wrong_tie") (fdOf K d_wrong_tie) := dz c 8 rfl
theorem kp_wrong_tie (c : Fx w h K) : PySem.W.keepIn K (.ref (He.ga K "wrong_tie")) = true := (F_wrong_tie c).kp
theorem b_wrong_tie_2 (c : Fx w h K) : Binds K (fdOf K d_wrong_tie) ["value", "places"] [] := (F_wrong_tie c).bindsN fun _ _ _ _ _ _ us hl => match us, hl with | [_, _], _ => rfl
theorem ok_wrong_tie (KX : K.In h) (G : h.Ns mainGlobals mg) (c : Fx w h K) : FnOk P w K mg base CX0 3 (He.ga K "wrong_tie") (fdOf K d_wrong_tie) ["value", "places"] (FnS K (ctOf K) 2 f_wrong_tie) := by
  refine fd_ok (F_wrong_tie c) sc_wrong_tie fun cdv A outer s H E hr => ?_
  have S := sc_wrong_tie
  have hu80 : (A.deeper (envOfC "wrong_tie" (defScope s_wrong_tie) s.heap.objs.size (He.ga K "wrong_tie") cdv)).units + 80 < cLine := by have := hr.un; omega
  have hu65 : (A.deeper (envOfC "wrong_tie" (defScope s_wrong_tie) s.heap.objs.size (He.ga K "wrong_tie") cdv)).units + 65 < cLine := by omega
  have hu64 : (A.deeper (envOfC "wrong_tie" (defScope s_wrong_tie) s.heap.objs.size (He.ga K "wrong_tie") cdv)).units + 64 < cLine := by omega
  have hu1 : (A.deeper (envOfC "wrong_tie" (defScope s_wrong_tie) s.heap.objs.size (He.ga K "wrong_tie") cdv)).units + 1 < cLine := by omega
  have hu0 : (A.deeper (envOfC "wrong_tie" (defScope s_wrong_tie) s.heap.objs.size (He.ga K "wrong_tie") cdv)).units < cLine := by omega
  exact (dss_cons (ds_for PassesOwn.never rfl (tg_tup (tgs_cons (tg_name (i := 2)) (tgs_cons (tg_name (i := 3)) tgs_nil))) (it_enum (de_var (pv 0)) (fz KX G c 10 rfl)) (pg_tup rfl (pgs_cons (pg_name (i := 2) S.nd rfl (by first | exact .inl rfl | exact .inr rfl)) (pgs_cons (pg_name (i := 3) S.nd rfl (by first | exact .inl rfl | exact .inr rfl)) pgs_nil))) (dss_cons (ds_if (dt_not (dt_tru (de_call (ok_is_tie KX G c) (hr.mono (by decide)) (gz KX G c 19 rfl) (kp_is_tie c) (b_is_tie_2 c) .nil pass0 (fun _ _ => .nil) (fun _ _ _ => runF_len) (da_cons (de_var (pv 3)) (da_cons (de_var (pv 1)) da_nil))))) (dss_one (ds_ret (de_var (pv 2)))) dss_nil)
  (dss_one (ds_if (PW.pt (dw_and (dt_cmp op_gtU os_gt (de_var (pv 2)) (de_c pe_int (fun _ _ => .int _)) (nomark _)) (dw_and1 (dt_cmp (op_leT hu0) os_leT (de_call (ok_rank KX G c) (hr.mono (by decide)) (gz KX G c 18 rfl) (kp_rank c) (b_rank_2 c) .nil pass0 (fun _ _ => .nil) (fun _ _ _ => runF_len) (da_cons (de_var (pv 3)) (da_cons (de_var (pv 1)) da_nil))) (de_call (ok_rank KX G c) (hr.mono (by decide)) (gz KX G c 18 rfl) (kp_rank c) (b_rank_2 c) .nil pass0 (fun _ _ => .nil) (fun _ _ _ => runF_len) (da_cons (de_ix ix_seq os_ix (de_var (pv 0)) (de_op op_sub os_sub (de_var (pv 2)) (de_c pe_int (fun _ _ => .int _))) (fun _ _ => rfl)) (da_cons (de_var (pv 1)) da_nil))) (nomark _))))) (dss_one (ds_ret (de_var (pv 2)))) dss_nil))) (fun hi hg hb => ps_for PassesOwn.never rfl hi hg hb))
  (dss_one (ds_ret (de_c pe_non (fun _ _ => .non)))))
theorem F_check_ties (c : Fx w h K) : FunD K "check_ties" "check_ties" (defArgs s_check_ties) (defBody s_check_ties) (defScope s_check_ties) [] [] (He.ga K "check_ties") (fdOf K d_check_ties) := dz c 9 rfl
theorem kp_check_ties (c : Fx w h K) : PySem.W.keepIn K (.ref (He.ga K "check_ties")) = true := (F_check_ties c).kp
theorem b_check_ties_2 (c : Fx w h K) : Binds K (fdOf K d_check_ties) ["ties", "places"] [] := (F_check_ties c).bindsN fun _ _ _ _ _ _ us hl => match us, hl with | [_, _], _ => rfl
theorem ok_check_ties (KX : K.In h) (G : h.Ns mainGlobals mg) (c : Fx w h K) : FnOk P w K mg base CX0 4 (He.ga K "check_ties") (fdOf K d_check_ties) ["ties", "places"] (FnS K (ctOf K) 2 f_check_ties) := by
  refine fd_ok (F_check_ties c) sc_check_ties fun cdv A outer s H E hr => ?_
  have S := sc_check_ties
  have hu80 : (A.deeper (envOfC "check_ties" (defScope s_check_ties) s.heap.objs.size (He.ga K "check_ties") cdv)).units + 80 < cLine := by have := hr.un; omega
  have hu65 : (A.deeper (envOfC "check_ties" (defScope s_check_ties) s.heap.objs.size (He.ga K "check_ties") cdv)).units + 65 < cLine := by omega
  have hu64 : (A.deeper (envOfC "check_ties" (defScope s_check_ties) s.heap.objs.size (He.ga K "check_ties") cdv)).units + 64 < cLine := by omega
  have hu1 : (A.deeper (envOfC "check_ties" (defScope s_check_ties) s.heap.objs.size (He.ga K "check_ties") cdv)).units + 1 < cLine := by omega
  have hu0 : (A.deeper (envOfC "check_ties" (defScope s_check_ties) s.heap.objs.size (He.ga K "check_ties") cdv)).units < cLine := by omega
  exact (dss_cons (ds_if (dt_not (dt_tru (de_isT tab_tuple (by decide +kernel) (fz KX G c 9 rfl) (fz KX G c 6 rfl) (de_var (pv 0))))) (dss_one ds_err) dss_nil)
  (dss_cons (ds_set (ps_set (i := 2) S.nd rfl (by first | exact .inl rfl | exact .inr rfl) (de_call (ok_wrong_tie KX G c) (hr.mono (by decide)) (gz KX G c 20 rfl) (kp_wrong_tie c) (b_wrong_tie_2 c) .nil pass0 (fun _ _ => .nil) (fun _ _ _ => runF_len) (da_cons (de_var (pv 0)) (da_cons (de_var (pv 1)) da_nil)))))
  (dss_one (ds_if (dt_cmp op_notN os_not (de_var (pv 2)) (de_c pe_non (fun _ _ => .non)) (nomark _)) (dss_one ds_err) dss_nil))))
theorem F_Web_init (c : Fx w h K) : FunD K "__init__" "Web.__init__" (defArgs s_Web_init) (defBody s_Web_init) (defScope s_Web_init) [V.ref (He.dflAt ("Web", some "__init__") 0 K)] [] (He.ma K (He.ga K "Web") "__init__") (fdOf K d_Web_init) := dz c 10 rfl
theorem kp_Web_init (c : Fx w h K) : PySem.W.keepIn K (.ref (He.ma K (He.ga K "Web") "__init__")) = true := (F_Web_init c).kp
theorem b_Web_init_3 (c : Fx w h K) : ∃ ds, Vals ([V.ref (He.dflAt ("Web", some "__init__") 0 K)].drop 1) ds ∧ Binds K (fdOf K d_Web_init) ["self", "places", "ties"] ds := (F_Web_init c).binds1 3 1 (by simp) rfl fun _ _ _ _ _ _ _ us its hu hi => match us, its, hu, hi with | [_, _, _], [_], _, _ => ⟨_, rfl, rfl⟩
theorem ok_Web_init (KX : K.In h) (G : h.Ns mainGlobals mg) (c : Fx w h K) : FnOk P w K mg base CX0 5 (He.ma K (He.ga K "Web") "__init__") (fdOf K d_Web_init) ["self", "places", "ties"] (FnS K (ctOf K) 3 f_Web_init) := by
  refine fd_ok (F_Web_init c) sc_Web_init fun cdv A outer s H E hr => ?_
  have S := sc_Web_init
  have hu80 : (A.deeper (envOfC "Web.__init__" (defScope s_Web_init) s.heap.objs.size (He.ma K (He.ga K "Web") "__init__") cdv)).units + 80 < cLine := by have := hr.un; omega
  have hu65 : (A.deeper (envOfC "Web.__init__" (defScope s_Web_init) s.heap.objs.size (He.ma K (He.ga K "Web") "__init__") cdv)).units + 65 < cLine := by omega
  have hu64 : (A.deeper (envOfC "Web.__init__" (defScope s_Web_init) s.heap.objs.size (He.ma K (He.ga K "Web") "__init__") cdv)).units + 64 < cLine := by omega
  have hu1 : (A.deeper (envOfC "Web.__init__" (defScope s_Web_init) s.heap.objs.size (He.ma K (He.ga K "Web") "__init__") cdv)).units + 1 < cLine := by omega
  have hu0 : (A.deeper (envOfC "Web.__init__" (defScope s_Web_init) s.heap.objs.size (He.ma K (He.ga K "Web") "__init__") cdv)).units < cLine := by omega
  exact (dss_cons (ds_expr (de_call (ok_check_places KX G c) (hr.mono (by decide)) (gz KX G c 16 rfl) (kp_check_places c) (b_check_places_1 c) .nil pass0 (fun _ _ => .nil) (fun _ _ _ => runF_len) (da_cons (de_var (pv 1)) da_nil)))
  (dss_cons (ds_expr (de_call (ok_check_ties KX G c) (hr.mono (by decide)) (gz KX G c 21 rfl) (kp_check_ties c) (b_check_ties_2 c) .nil pass0 (fun _ _ => .nil) (fun _ _ _ => runF_len) (da_cons (de_var (pv 2)) (da_cons (de_var (pv 1)) da_nil))))
  (dss_cons (ds_fld (ct := ctOf K) (c := 0) (cz (x := "Web") c 22 rfl) (nz (x := "Web") c 24 rfl) (ps_fld (de_fz (de_var (pv 0))) (de_fz (de_var (pv 1))) rfl))
  (dss_one (ds_fld (ct := ctOf K) (c := 0) (cz (x := "Web") c 22 rfl) (nz (x := "Web") c 25 rfl) (ps_fld (de_fz (de_var (pv 0))) (de_fz (de_var (pv 2))) rfl))))))
theorem F_l_made (c : Fx w h K) : FunD K "_law_made" "_law_made" (defArgs s_l_made) (defBody s_l_made) (defScope s_l_made) [] [] (He.ga K "_law_made") (fdOf K d_l_made) := dz c 11 rfl
theorem kp_l_made (c : Fx w h K) : PySem.W.keepIn K (.ref (He.ga K "_law_made")) = true := (F_l_made c).kp
theorem b_l_made_1 (c : Fx w h K) : Binds K (fdOf K d_l_made) ["_law_net"] [] := (F_l_made c).bindsN fun _ _ _ _ _ _ us hl => match us, hl with | [_], _ => rfl
theorem ok_l_made (KX : K.In h) (G : h.Ns mainGlobals mg) (c : Fx w h K) : FnOk P w K mg base CX0 7 (He.ga K "_law_made") (fdOf K d_l_made) ["_law_net"] (FnS K (ctOf K) 1 f_l_made) := by
  obtain ⟨db_Web_init_3, vb_Web_init_3, hb_Web_init_3⟩ := b_Web_init_3 c
  refine fd_ok (F_l_made c) sc_l_made fun cdv A outer s H E hr => ?_
  have S := sc_l_made
  have hu80 : (A.deeper (envOfC "_law_made" (defScope s_l_made) s.heap.objs.size (He.ga K "_law_made") cdv)).units + 80 < cLine := by have := hr.un; omega
  have hu65 : (A.deeper (envOfC "_law_made" (defScope s_l_made) s.heap.objs.size (He.ga K "_law_made") cdv)).units + 65 < cLine := by omega
  have hu64 : (A.deeper (envOfC "_law_made" (defScope s_l_made) s.heap.objs.size (He.ga K "_law_made") cdv)).units + 64 < cLine := by omega
  have hu1 : (A.deeper (envOfC "_law_made" (defScope s_l_made) s.heap.objs.size (He.ga K "_law_made") cdv)).units + 1 < cLine := by omega
  have hu0 : (A.deeper (envOfC "_law_made" (defScope s_l_made) s.heap.objs.size (He.ga K "_law_made") cdv)).units < cLine := by omega
  exact (dss_one (ds_ret (de_fz (de_make (ct := ctOf K) (c := 0) (yz (x := "Web") c 26 rfl) (ok_Web_init KX G c) (hr.mono (by decide)) (gz KX G c 23 rfl) hb_Web_init_3 vb_Web_init_3 pass0 (fun _ _ => .nil) (fun _ _ _ => runF_len) (da_cons (de_ix ix_seq os_ix (de_var (pv 0)) (de_c pe_int (fun _ _ => .int _)) (fun _ _ => rfl)) (da_cons (de_ix ix_seq os_ix (de_var (pv 0)) (de_c pe_int (fun _ _ => .int _)) (fun _ _ => rfl)) da_nil))))))
theorem F_l_text (c : Fx w h K) : FunD K "_law_text" "_law_text" (defArgs s_l_text) (defBody s_l_text) (defScope s_l_text) [] [] (He.ga K "_law_text") (fdOf K d_l_text) := dz c 12 rfl
theorem kp_l_text (c : Fx w h K) : PySem.W.keepIn K (.ref (He.ga K "_law_text")) = true := (F_l_text c).kp
theorem b_l_text_1 (c : Fx w h K) : Binds K (fdOf K d_l_text) ["_law_parts"] [] := (F_l_text c).bindsN fun _ _ _ _ _ _ us hl => match us, hl with | [_], _ => rfl
theorem ok_l_text (KX : K.In h) (G : h.Ns mainGlobals mg) (c : Fx w h K) : FnOk P w K mg base CX0 1 (He.ga K "_law_text") (fdOf K d_l_text) ["_law_parts"] (FnS K (ctOf K) 1 f_l_text) := by
  refine fd_ok (F_l_text c) sc_l_text fun cdv A outer s H E hr => ?_
  have S := sc_l_text
  have hu80 : (A.deeper (envOfC "_law_text" (defScope s_l_text) s.heap.objs.size (He.ga K "_law_text") cdv)).units + 80 < cLine := by have := hr.un; omega
  have hu65 : (A.deeper (envOfC "_law_text" (defScope s_l_text) s.heap.objs.size (He.ga K "_law_text") cdv)).units + 65 < cLine := by omega
  have hu64 : (A.deeper (envOfC "_law_text" (defScope s_l_text) s.heap.objs.size (He.ga K "_law_text") cdv)).units + 64 < cLine := by omega
  have hu1 : (A.deeper (envOfC "_law_text" (defScope s_l_text) s.heap.objs.size (He.ga K "_law_text") cdv)).units + 1 < cLine := by omega
  have hu0 : (A.deeper (envOfC "_law_text" (defScope s_l_text) s.heap.objs.size (He.ga K "_law_text") cdv)).units < cLine := by omega
  exact (dss_cons (ds_set (ps_set (i := 1) S.nd rfl (by first | exact .inl rfl | exact .inr rfl) (de_fz (de_bm ty_str ms_join PySem.F.plainAttrs_str PySem.F.slot_str_join PySem.F.type_str_join mt_join (de_c pe_str (fun _ _ => .str _ (by decide +kernel))) (da_cons (de_ix ix_seq os_ix (de_var (pv 0)) (de_c pe_int (fun _ _ => .int _)) (fun _ _ => rfl)) da_nil)))))
  (dss_one (ds_ret (de_op op_addU os_add (de_op op_addU os_add (de_op op_addU os_add (de_c pe_str (fun _ _ => .str _ (by decide +kernel))) (de_bm ty_str ms_join PySem.F.plainAttrs_str PySem.F.slot_str_join PySem.F.type_str_join mt_join (de_c pe_str (fun _ _ => .str _ (by decide +kernel))) (da_cons (de_ix ix_seq os_ix (de_var (pv 0)) (de_c pe_int (fun _ _ => .int _)) (fun _ _ => rfl)) da_nil))) (de_c pe_str (fun _ _ => .str _ (by decide +kernel)))) (de_if (dt_cmp (op_neD hu64) os_ne (de_var (pv 1)) (de_c pe_str (fun _ _ => .str _ (by decide +kernel))) (nomark _)) (de_var (pv 1)) (de_c pe_str (fun _ _ => .str _ (by decide +kernel))))))))
theorem F_web_text (c : Fx w h K) : FunD K "web_text" "web_text" (defArgs s_web_text) (defBody s_web_text) (defScope s_web_text) [] [] (He.ga K "web_text") (fdOf K d_web_text) := dz c 13 rfl
theorem kp_web_text (c : Fx w h K) : PySem.W.keepIn K (.ref (He.ga K "web_text")) = true := (F_web_text c).kp
theorem b_web_text_2 (c : Fx w h K) : Binds K (fdOf K d_web_text) ["places", "ties"] [] := (F_web_text c).bindsN fun _ _ _ _ _ _ us hl => match us, hl with | [_, _], _ => rfl
theorem ok_web_text (KX : K.In h) (G : h.Ns mainGlobals mg) (c : Fx w h K) : FnOk P w K mg base CX0 1 (He.ga K "web_text") (fdOf K d_web_text) ["places", "ties"] (FnS K (ctOf K) 2 f_web_text) := by
  refine fd_ok (F_web_text c) sc_web_text fun cdv A outer s H E hr => ?_
  have S := sc_web_text
  have hu80 : (A.deeper (envOfC "web_text" (defScope s_web_text) s.heap.objs.size (He.ga K "web_text") cdv)).units + 80 < cLine := by have := hr.un; omega
  have hu65 : (A.deeper (envOfC "web_text" (defScope s_web_text) s.heap.objs.size (He.ga K "web_text") cdv)).units + 65 < cLine := by omega
  have hu64 : (A.deeper (envOfC "web_text" (defScope s_web_text) s.heap.objs.size (He.ga K "web_text") cdv)).units + 64 < cLine := by omega
  have hu1 : (A.deeper (envOfC "web_text" (defScope s_web_text) s.heap.objs.size (He.ga K "web_text") cdv)).units + 1 < cLine := by omega
  have hu0 : (A.deeper (envOfC "web_text" (defScope s_web_text) s.heap.objs.size (He.ga K "web_text") cdv)).units < cLine := by omega
  exact (dss_one (ds_ret (de_bm ty_str ms_join PySem.F.plainAttrs_str PySem.F.slot_str_join PySem.F.type_str_join mt_join (de_c pe_str (fun _ _ => .str _ (by decide +kernel))) (da_cons (de_lst (da_cons (de_op op_addU os_add (de_c pe_str (fun _ _ => .str _ (by decide +kernel))) (de_bm ty_str ms_join PySem.F.plainAttrs_str PySem.F.slot_str_join PySem.F.type_str_join mt_join (de_c pe_str (fun _ _ => .str _ (by decide +kernel))) (da_cons (de_var (pv 0)) da_nil))) (da_cons (de_op op_addU os_add (de_c pe_str (fun _ _ => .str _ (by decide +kernel))) (de_if (dt_cmp (op_neD hu64) os_ne (de_var (pv 1)) (de_tup da_nil) (nomark _)) (de_bm ty_str ms_join PySem.F.plainAttrs_str PySem.F.slot_str_join PySem.F.type_str_join mt_join (de_c pe_str (fun _ _ => .str _ (by decide +kernel))) (da_cons (de_var (pv 1)) da_nil)) (de_c pe_str (fun _ _ => .str _ (by decide +kernel))))) da_nil))) da_nil))))
theorem F_Web_text (c : Fx w h K) : FunD K "text" "Web.text" (defArgs s_Web_text) (defBody s_Web_text) (defScope s_Web_text) [] [] (He.ma K (He.ga K "Web") "text") (fdOf K d_Web_text) := dz c 14 rfl
theorem kp_Web_text (c : Fx w h K) : PySem.W.keepIn K (.ref (He.ma K (He.ga K "Web") "text")) = true := (F_Web_text c).kp
theorem b_Web_text_1 (c : Fx w h K) : Binds K (fdOf K d_Web_text) ["self"] [] := (F_Web_text c).bindsN fun _ _ _ _ _ _ us hl => match us, hl with | [_], _ => rfl
theorem ok_Web_text (KX : K.In h) (G : h.Ns mainGlobals mg) (c : Fx w h K) : FnOk P w K mg base CX0 2 (He.ma K (He.ga K "Web") "text") (fdOf K d_Web_text) ["self"] (FnS K (ctOf K) 1 f_Web_text) := by
  refine fd_ok (F_Web_text c) sc_Web_text fun cdv A outer s H E hr => ?_
  have S := sc_Web_text
  have hu80 : (A.deeper (envOfC "Web.text" (defScope s_Web_text) s.heap.objs.size (He.ma K (He.ga K "Web") "text") cdv)).units + 80 < cLine := by have := hr.un; omega
  have hu65 : (A.deeper (envOfC "Web.text" (defScope s_Web_text) s.heap.objs.size (He.ma K (He.ga K "Web") "text") cdv)).units + 65 < cLine := by omega
  have hu64 : (A.deeper (envOfC "Web.text" (defScope s_Web_text) s.heap.objs.size (He.ma K (He.ga K "Web") "text") cdv)).units + 64 < cLine := by omega
  have hu1 : (A.deeper (envOfC "Web.text" (defScope s_Web_text) s.heap.objs.size (He.ma K (He.ga K "Web") "text") cdv)).units + 1 < cLine := by omega
  have hu0 : (A.deeper (envOfC "Web.text" (defScope s_Web_text) s.heap.objs.size (He.ma K (He.ga K "Web") "text") cdv)).units < cLine := by omega
  exact (dss_one (ds_ret (de_call (ok_web_text KX G c) (hr.mono (by decide)) (gz KX G c 29 rfl) (kp_web_text c) (b_web_text_2 c) .nil pass0 (fun _ _ => .nil) (fun _ _ _ => runF_len) (da_cons (de_fld (ct := ctOf K) (c := 0) (cz (x := "Web") c 22 rfl) (nz (x := "Web") c 24 rfl) (de_var (pv 0)) rfl) (da_cons (de_fld (ct := ctOf K) (c := 0) (cz (x := "Web") c 22 rfl) (nz (x := "Web") c 25 rfl) (de_var (pv 0)) rfl) da_nil)))))
theorem F_Web_str (c : Fx w h K) : FunD K "__str__" "Web.__str__" (defArgs s_Web_str) (defBody s_Web_str) (defScope s_Web_str) [] [] (He.ma K (He.ga K "Web") "__str__") (fdOf K d_Web_str) := dz c 15 rfl
theorem kp_Web_str (c : Fx w h K) : PySem.W.keepIn K (.ref (He.ma K (He.ga K "Web") "__str__")) = true := (F_Web_str c).kp
theorem b_Web_str_1 (c : Fx w h K) : Binds K (fdOf K d_Web_str) ["self"] [] := (F_Web_str c).bindsN fun _ _ _ _ _ _ us hl => match us, hl with | [_], _ => rfl
theorem ok_Web_str (KX : K.In h) (G : h.Ns mainGlobals mg) (c : Fx w h K) : FnOk P w K mg base CX0 3 (He.ma K (He.ga K "Web") "__str__") (fdOf K d_Web_str) ["self"] (FnS K (ctOf K) 1 f_Web_str) := by
  refine fd_ok (F_Web_str c) sc_Web_str fun cdv A outer s H E hr => ?_
  have S := sc_Web_str
  have hu80 : (A.deeper (envOfC "Web.__str__" (defScope s_Web_str) s.heap.objs.size (He.ma K (He.ga K "Web") "__str__") cdv)).units + 80 < cLine := by have := hr.un; omega
  have hu65 : (A.deeper (envOfC "Web.__str__" (defScope s_Web_str) s.heap.objs.size (He.ma K (He.ga K "Web") "__str__") cdv)).units + 65 < cLine := by omega
  have hu64 : (A.deeper (envOfC "Web.__str__" (defScope s_Web_str) s.heap.objs.size (He.ma K (He.ga K "Web") "__str__") cdv)).units + 64 < cLine := by omega
  have hu1 : (A.deeper (envOfC "Web.__str__" (defScope s_Web_str) s.heap.objs.size (He.ma K (He.ga K "Web") "__str__") cdv)).units + 1 < cLine := by omega
  have hu0 : (A.deeper (envOfC "Web.__str__" (defScope s_Web_str) s.heap.objs.size (He.ma K (He.ga K "Web") "__str__") cdv)).units < cLine := by omega
  exact (dss_one (ds_ret (de_fs1 (de_fmt (de_meth0 (ct := ctOf K) (c := 0) (fm := f_Web_text) (E := E0) (fun _ _ => .nil) (fun _ _ _ => runF_len) (de_var (pv 0)) (fun h => pe_meth0 h (cz (x := "Web") c 22 rfl) (mz (x := "Web") c 30 rfl) (ok_Web_text KX G c) (hr.mono (by decide)) (b_Web_text_1 c) .nil pass0))))))
theorem F_web_in (c : Fx w h K) : FunD K "web_in" "web_in" (defArgs s_web_in) (defBody s_web_in) (defScope s_web_in) [] [] (He.ga K "web_in") (fdOf K d_web_in) := dz c 16 rfl
theorem kp_web_in (c : Fx w h K) : PySem.W.keepIn K (.ref (He.ga K "web_in")) = true := (F_web_in c).kp
theorem b_web_in_1 (c : Fx w h K) : Binds K (fdOf K d_web_in) ["value"] [] := (F_web_in c).bindsN fun _ _ _ _ _ _ us hl => match us, hl with | [_], _ => rfl
theorem ok_web_in (KX : K.In h) (G : h.Ns mainGlobals mg) (c : Fx w h K) : FnOk P w K mg base CX0 4 (He.ga K "web_in") (fdOf K d_web_in) ["value"] (FnS K (ctOf K) 1 f_web_in) := by
  refine fd_ok (F_web_in c) sc_web_in fun cdv A outer s H E hr => ?_
  have S := sc_web_in
  have hu80 : (A.deeper (envOfC "web_in" (defScope s_web_in) s.heap.objs.size (He.ga K "web_in") cdv)).units + 80 < cLine := by have := hr.un; omega
  have hu65 : (A.deeper (envOfC "web_in" (defScope s_web_in) s.heap.objs.size (He.ga K "web_in") cdv)).units + 65 < cLine := by omega
  have hu64 : (A.deeper (envOfC "web_in" (defScope s_web_in) s.heap.objs.size (He.ga K "web_in") cdv)).units + 64 < cLine := by omega
  have hu1 : (A.deeper (envOfC "web_in" (defScope s_web_in) s.heap.objs.size (He.ga K "web_in") cdv)).units + 1 < cLine := by omega
  have hu0 : (A.deeper (envOfC "web_in" (defScope s_web_in) s.heap.objs.size (He.ga K "web_in") cdv)).units < cLine := by omega
  exact (dss_cons (ds_set (ps_set (i := 1) S.nd rfl (by first | exact .inl rfl | exact .inr rfl) (de_fz (de_if (dt_tru (de_isT tab_str (by decide +kernel) (fz KX G c 9 rfl) (fz KX G c 12 rfl) (de_var (pv 0)))) (de_bm ty_str ms_split PySem.F.plainAttrs_str PySem.F.slot_str_split PySem.F.type_str_split mt_split (de_var (pv 0)) (da_cons (de_c pe_str (fun _ _ => .str _ (by decide +kernel))) da_nil)) (de_lst (da_cons (de_c pe_str (fun _ _ => .str _ (by decide +kernel))) da_nil))))))
  (dss_cons (ds_if (dt_cmp (op_neD hu64) os_ne (de_callB cs_len (call_len) (da_cons (de_var (pv 1)) da_nil) (fz KX G c 0 rfl)) (de_c pe_int (fun _ _ => .int _)) (nomark _)) (dss_one (ds_ret (de_c pe_non (fun _ _ => .non)))) dss_nil)
  (dss_cons (ds_set (ps_set (i := 2) S.nd rfl (by first | exact .inl rfl | exact .inr rfl) (de_fz (de_callTy cs_tup (call_tupU rfl) (da_cons (de_bm ty_str ms_split PySem.F.plainAttrs_str PySem.F.slot_str_split PySem.F.type_str_split mt_split (de_slice (de_ix ix_seq os_ix (de_var (pv 1)) (de_c pe_int (fun _ _ => .int _)) (fun _ _ => rfl)) (do_some (de_c pe_int (fun _ _ => .int _))) do_none) (da_cons (de_c pe_str (fun _ _ => .str _ (by decide +kernel))) da_nil)) da_nil) (fz KX G c 6 rfl)))))
  (dss_cons (ds_set (ps_set (i := 3) S.nd rfl (by first | exact .inl rfl | exact .inr rfl) (de_fz (de_if (dt_cmp (op_eqD hu64) os_eq (de_ix ix_seq os_ix (de_var (pv 1)) (de_c pe_int (fun _ _ => .int _)) (fun _ _ => rfl)) (de_c pe_str (fun _ _ => .str _ (by decide +kernel))) (nomark _)) (de_tup da_nil) (de_callTy cs_tup (call_tupU rfl) (da_cons (de_bm ty_str ms_split PySem.F.plainAttrs_str PySem.F.slot_str_split PySem.F.type_str_split mt_split (de_slice (de_ix ix_seq os_ix (de_var (pv 1)) (de_c pe_int (fun _ _ => .int _)) (fun _ _ => rfl)) (do_some (de_c pe_int (fun _ _ => .int _))) do_none) (da_cons (de_c pe_str (fun _ _ => .str _ (by decide +kernel))) da_nil)) da_nil) (fz KX G c 6 rfl))))))
  (dss_cons (ds_if (PW.pt (dw_or (dt_cmp op_notN os_not (de_call (ok_wrong_place KX G c) (hr.mono (by decide)) (gz KX G c 15 rfl) (kp_wrong_place c) (b_wrong_place_1 c) .nil pass0 (fun _ _ => .nil) (fun _ _ _ => runF_len) (da_cons (de_var (pv 2)) da_nil)) (de_c pe_non (fun _ _ => .non)) (nomark _)) (dw_or1 (dt_cmp op_notN os_not (de_call (ok_wrong_tie KX G c) (hr.mono (by decide)) (gz KX G c 20 rfl) (kp_wrong_tie c) (b_wrong_tie_2 c) .nil pass0 (fun _ _ => .nil) (fun _ _ _ => runF_len) (da_cons (de_var (pv 3)) (da_cons (de_var (pv 2)) da_nil))) (de_c pe_non (fun _ _ => .non)) (nomark _))))) (dss_one (ds_ret (de_c pe_non (fun _ _ => .non)))) dss_nil)
  (dss_one (ds_ret (de_if (dt_cmp (op_eqD hu64) os_eq (de_call (ok_web_text KX G c) (hr.mono (by decide)) (gz KX G c 29 rfl) (kp_web_text c) (b_web_text_2 c) .nil pass0 (fun _ _ => .nil) (fun _ _ _ => runF_len) (da_cons (de_var (pv 2)) (da_cons (de_var (pv 3)) da_nil))) (de_var (pv 0)) (nomark _)) (de_tup (da_cons (de_var (pv 2)) (da_cons (de_var (pv 3)) da_nil))) (de_c pe_non (fun _ _ => .non))))))))))
theorem F_Web_read (c : Fx w h K) : FunD K "read" "Web.read" (defArgs s_Web_read) (defBody s_Web_read) (defScope s_Web_read) [] [] (cmAd "Web" "read" K) (fdA K a_Web_read) := fdA_ok (c.da a_Web_read (List.mem_of_getElem? (i := 0) rfl))
theorem kp_Web_read (c : Fx w h K) : PySem.W.keepIn K (.ref (cmAd "Web" "read" K)) = true := (F_Web_read c).kp
theorem kb_Web_read_1_text (c : Fx w h K) : KB K (fdA K a_Web_read) ["cls", "text"] 1 ["text"] [0, 1] [] [] := fd_kb (F_Web_read c) fun _ _ _ _ _ _ us ws hu hw => match us, ws, hu, hw with | [_], [_], _, _ => rfl
theorem b_Web_read_2 (c : Fx w h K) : Binds K (fdA K a_Web_read) ["cls", "text"] [] := (F_Web_read c).bindsN fun _ _ _ _ _ _ us hl => match us, hl with | [_, _], _ => rfl
theorem ok_Web_read (KX : K.In h) (G : h.Ns mainGlobals mg) (c : Fx w h K) : FnOk P w K mg base CX0 7 (cmAd "Web" "read" K) (fdA K a_Web_read) ["cls", "text"] (FnS K (ctOf K) 2 f_Web_read) := by
  obtain ⟨db_Web_init_3, vb_Web_init_3, hb_Web_init_3⟩ := b_Web_init_3 c
  refine fd_ok (F_Web_read c) sc_Web_read fun cdv A outer s H E hr => ?_
  have S := sc_Web_read
  have hu80 : (A.deeper (envOfC "Web.read" (defScope s_Web_read) s.heap.objs.size (cmAd "Web" "read" K) cdv)).units + 80 < cLine := by have := hr.un; omega
  have hu65 : (A.deeper (envOfC "Web.read" (defScope s_Web_read) s.heap.objs.size (cmAd "Web" "read" K) cdv)).units + 65 < cLine := by omega
  have hu64 : (A.deeper (envOfC "Web.read" (defScope s_Web_read) s.heap.objs.size (cmAd "Web" "read" K) cdv)).units + 64 < cLine := by omega
  have hu1 : (A.deeper (envOfC "Web.read" (defScope s_Web_read) s.heap.objs.size (cmAd "Web" "read" K) cdv)).units + 1 < cLine := by omega
  have hu0 : (A.deeper (envOfC "Web.read" (defScope s_Web_read) s.heap.objs.size (cmAd "Web" "read" K) cdv)).units < cLine := by omega
  exact (dss_cons (ds_set (ps_set (i := 2) S.nd rfl (by first | exact .inl rfl | exact .inr rfl) (de_fz (de_call (ok_web_in KX G c) (hr.mono (by decide)) (gz KX G c 33 rfl) (kp_web_in c) (b_web_in_1 c) .nil pass0 (fun _ _ => .nil) (fun _ _ _ => runF_len) (da_cons (de_var (pv 1)) da_nil)))))
  (dss_cons (ds_if (dt_cmp op_isN os_is (de_var (pv 2)) (de_c pe_non (fun _ _ => .non)) (nomark _)) (dss_one ds_err) dss_nil)
  (dss_one (ds_ret (de_fz (de_makeL (ct := ctOf K) (i := 0) (c := 0) (E := E0) (yz (x := "Web") c 26 rfl) (ok_Web_init KX G c) (hr.mono (by decide)) rfl (by first | exact .inl rfl | exact .inr rfl) hb_Web_init_3 vb_Web_init_3 pass0 (fun _ _ => .nil) (fun _ _ _ => runF_len) (da_cons (de_ix ix_seq os_ix (de_var (pv 2)) (de_c pe_int (fun _ _ => .int _)) (fun _ _ => rfl)) (da_cons (de_ix ix_seq os_ix (de_var (pv 2)) (de_c pe_int (fun _ _ => .int _)) (fun _ _ => rfl)) da_nil))))))))
theorem F_Web_eq (c : Fx w h K) : FunD K "__eq__" "Web.__eq__" (defArgs s_Web_eq) (defBody s_Web_eq) (defScope s_Web_eq) [] [] (He.ma K (He.ga K "Web") "__eq__") (fdOf K d_Web_eq) := dz c 17 rfl
theorem kp_Web_eq (c : Fx w h K) : PySem.W.keepIn K (.ref (He.ma K (He.ga K "Web") "__eq__")) = true := (F_Web_eq c).kp
theorem b_Web_eq_2 (c : Fx w h K) : Binds K (fdOf K d_Web_eq) ["self", "other"] [] := (F_Web_eq c).bindsN fun _ _ _ _ _ _ us hl => match us, hl with | [_, _], _ => rfl
theorem ok_Web_eq (KX : K.In h) (G : h.Ns mainGlobals mg) (c : Fx w h K) : FnOk P w K mg base CX0 1 (He.ma K (He.ga K "Web") "__eq__") (fdOf K d_Web_eq) ["self", "other"] (FnS K (ctOf K) 2 f_Web_eq) := by
  refine fd_ok (F_Web_eq c) sc_Web_eq fun cdv A outer s H E hr => ?_
  have S := sc_Web_eq
  have hu80 : (A.deeper (envOfC "Web.__eq__" (defScope s_Web_eq) s.heap.objs.size (He.ma K (He.ga K "Web") "__eq__") cdv)).units + 80 < cLine := by have := hr.un; omega
  have hu65 : (A.deeper (envOfC "Web.__eq__" (defScope s_Web_eq) s.heap.objs.size (He.ma K (He.ga K "Web") "__eq__") cdv)).units + 65 < cLine := by omega
  have hu64 : (A.deeper (envOfC "Web.__eq__" (defScope s_Web_eq) s.heap.objs.size (He.ma K (He.ga K "Web") "__eq__") cdv)).units + 64 < cLine := by omega
  have hu1 : (A.deeper (envOfC "Web.__eq__" (defScope s_Web_eq) s.heap.objs.size (He.ma K (He.ga K "Web") "__eq__") cdv)).units + 1 < cLine := by omega
  have hu0 : (A.deeper (envOfC "Web.__eq__" (defScope s_Web_eq) s.heap.objs.size (He.ma K (He.ga K "Web") "__eq__") cdv)).units < cLine := by omega
  exact (dss_one (ds_ret (de_and (de_isC (l := isL_Web) (isI_Web c) (isK_Web c) (isT_Web c) (fz KX G c 9 rfl) (gz KX G c 23 rfl) (de_var (pv 1))) (de_and (de_cmp (op_eqD hu64) os_eq (de_fld (ct := ctOf K) (c := 0) (cz (x := "Web") c 22 rfl) (nz (x := "Web") c 24 rfl) (de_var (pv 0)) rfl) (de_fld (ct := ctOf K) (c := 0) (cz (x := "Web") c 22 rfl) (nz (x := "Web") c 24 rfl) (de_var (pv 1)) rfl) (nomark _)) (de_one (de_cmp (op_eqD hu64) os_eq (de_fld (ct := ctOf K) (c := 0) (cz (x := "Web") c 22 rfl) (nz (x := "Web") c 25 rfl) (de_var (pv 0)) rfl) (de_fld (ct := ctOf K) (c := 0) (cz (x := "Web") c 22 rfl) (nz (x := "Web") c 25 rfl) (de_var (pv 1)) rfl) (nomark _)))))))
theorem F_l_right_v2 (c : Fx w h K) : FunD K "_law_right" "_law_right" (defArgs s_l_right_v2) (defBody s_l_right_v2) (defScope s_l_right_v2) [] [] (He.ga K "_law_right") (fdOf K d_l_right_v2) := dz c 18 rfl
theorem kp_l_right_v2 (c : Fx w h K) : PySem.W.keepIn K (.ref (He.ga K "_law_right")) = true := (F_l_right_v2 c).kp
theorem b_l_right_v2_1 (c : Fx w h K) : Binds K (fdOf K d_l_right_v2) ["_law_bag_here"] [] := (F_l_right_v2 c).bindsN fun _ _ _ _ _ _ us hl => match us, hl with | [_], _ => rfl
theorem ok_l_right_v2 (KX : K.In h) (G : h.Ns mainGlobals mg) (c : Fx w h K) : FnG P w K mg base 8 (He.ga K "_law_right") (fdOf K d_l_right_v2) ["_law_bag_here"] (FnS K (ctOf K) 1 f_l_right_v2) := by
  refine fd_okG (F_l_right_v2 c) sc_l_right_v2 fun cdv A outer s H E hgd hr => ?_
  have S := sc_l_right_v2
  have hu80 : (A.deeper (envOfC "_law_right" (defScope s_l_right_v2) s.heap.objs.size (He.ga K "_law_right") cdv)).units + 80 < cLine := by have := hr.un; omega
  have hu65 : (A.deeper (envOfC "_law_right" (defScope s_l_right_v2) s.heap.objs.size (He.ga K "_law_right") cdv)).units + 65 < cLine := by omega
  have hu64 : (A.deeper (envOfC "_law_right" (defScope s_l_right_v2) s.heap.objs.size (He.ga K "_law_right") cdv)).units + 64 < cLine := by omega
  have hu1 : (A.deeper (envOfC "_law_right" (defScope s_l_right_v2) s.heap.objs.size (He.ga K "_law_right") cdv)).units + 1 < cLine := by omega
  have hu0 : (A.deeper (envOfC "_law_right" (defScope s_l_right_v2) s.heap.objs.size (He.ga K "_law_right") cdv)).units < cLine := by omega
  exact (dss_cons (ds_set (ps_set (i := 1) S.nd rfl (by first | exact .inl rfl | exact .inr rfl) (de_lst da_nil)))
  (dss_cons (ds_for PassesOwn.never rfl (tg_name (i := 2)) (it_range1 (de_c pe_int (fun _ _ => .int _)) (fz KX G c 3 rfl)) (pg_name (i := 2) S.nd rfl (by first | exact .inl rfl | exact .inr rfl)) (dss_cons (ds_set (ps_set (i := 3) S.nd rfl (by first | exact .inl rfl | exact .inr rfl) (de_fz (de_call (ok_l_web KX G c) (hr.mono (by decide)) (gz KX G c 8 rfl) (kp_l_web c) (b_l_web_3 c) .nil pass0 (fun _ _ => .nil) (fun _ _ _ => runF_len) (da_cons (de_var (pv 0)) (da_cons (de_c pe_int (fun _ _ => .int _)) (da_cons (de_c pe_int (fun _ _ => .int _)) da_nil)))))))
  (dss_cons (ds_par (ps_par (i := 5) (j := 6) rfl S.nd rfl rfl (by decide) rfl rfl (dan_cons (de_fz (de_call (ok_l_made KX G c) (hr.mono (by decide)) (gz KX G c 27 rfl) (kp_l_made c) (b_l_made_1 c) .nil pass0 (fun _ _ => .nil) (fun _ _ _ => runF_len) (da_cons (de_var (pv 3)) da_nil))) (dan_cons (de_fz (de_call (ok_l_text KX G c) (hr.mono (by decide)) (gz KX G c 28 rfl) (kp_l_text c) (b_l_text_1 c) .nil pass0 (fun _ _ => .nil) (fun _ _ _ => runF_len) (da_cons (de_var (pv 3)) da_nil))) dan_nil)) rfl))
  (dss_cons (ds_if (dt_cmp (op_neD hu64) os_ne (de_callB cs_repr2 (call_repr2U hgd hu80) (da_cons (de_lst (da_cons (de_meth0 (ct := ctOf K) (c := 0) (fm := f_Web_text) (E := E0) (fun _ _ => .nil) (fun _ _ _ => runF_len) (de_var (pv 5)) (fun h => pe_meth0 h (cz (x := "Web") c 22 rfl) (mz (x := "Web") c 30 rfl) (ok_Web_text KX G c) (hr.mono (by decide)) (b_Web_text_1 c) .nil pass0)) (da_cons (de_strOwn (ct := ctOf K) (c := 0) (E := E0) (ok_Web_str KX G c) (mz (x := "Web") c 31 rfl) (hr.mono (by decide)) (b_Web_str_1 c) pass0 (fun _ _ _ => runF_len) (da_cons (de_var (pv 5)) da_nil) (fz KX G c 12 rfl)) da_nil))) da_nil) (fz KX G c 32 rfl)) (de_callB cs_repr2 (call_repr2U hgd hu80) (da_cons (de_lst (da_cons (de_var (pv 6)) (da_cons (de_var (pv 6)) da_nil))) da_nil) (fz KX G c 32 rfl)) (nomark _)) (dss_one (ds_ret (de_c pe_bl (fun _ _ => .bl _)))) dss_nil)
  (dss_cons (ds_for PassesOwn.never rfl (tg_name (i := 4)) (it_any (de_lst (da_cons (de_cm (ct := ctOf K) (c := 0) (E := E0) (cmB_rd (xz (f := fun K => cmB K "Web" "read") c 0 rfl)) (cmB_cm (xz (f := fun K => cmB K "Web" "read") c 0 rfl)) (FnR.ofOk (ok_Web_read KX G c) (b_Web_read_2 c)) (hr.mono (by decide)) pass0 (gz KX G c 23 rfl) (fun _ _ _ => runF_len) (da_cons (de_var (pv 6)) da_nil)) (da_cons (de_cmK0 (ct := ctOf K) (c := 0) (is := [0]) (E := E0) (cmB_rd (xz (f := fun K => cmB K "Web" "read") c 0 rfl)) (cmB_cm (xz (f := fun K => cmB K "Web" "read") c 0 rfl)) (ok_Web_read KX G c) (hr.mono (by decide)) (kb_one (is := [0]) (kb_Web_read_1_text c)) pass0 (gz KX G c 23 rfl) (fun _ _ _ => runF_len) (dk_cons (de_var (pv 6)) dk_nil)) da_nil)))) (pg_name (i := 4) S.nd rfl (by first | exact .inl rfl | exact .inr rfl)) (dss_one (ds_if (PW.pt (dw_or (dt_neOwn (ct := ctOf K) (c := 0) (E := E0) (ok_Web_eq KX G c) (mz (x := "Web") c 34 rfl) (notFB_ok (xz (f := fun K => notFB K "Web") c 1 rfl)) (neOB_ne (xz (f := fun K => neOB K "Web") c 2 rfl)) (neOB_ob (xz (f := fun K => neOB K "Web") c 2 rfl)) (hr.mono (by decide)) (b_Web_eq_2 c) pass0 (fun _ _ _ => runF_len) (de_var (pv 4)) (de_var (pv 5)) (nomark _)) (dw_or1 (dt_cmp (op_neD hu64) os_ne (de_callB cs_repr2 (call_repr2U hgd hu80) (da_cons (de_lst (da_cons (de_fld (ct := ctOf K) (c := 0) (cz (x := "Web") c 22 rfl) (nz (x := "Web") c 24 rfl) (de_var (pv 4)) rfl) (da_cons (de_fld (ct := ctOf K) (c := 0) (cz (x := "Web") c 22 rfl) (nz (x := "Web") c 25 rfl) (de_var (pv 4)) rfl) da_nil))) da_nil) (fz KX G c 32 rfl)) (de_callB cs_repr2 (call_repr2U hgd hu80) (da_cons (de_var (pv 3)) da_nil) (fz KX G c 32 rfl)) (nomark _))))) (dss_one (ds_ret (de_c pe_bl (fun _ _ => .bl _)))) dss_nil)) (fun hi hg hb => ps_for PassesOwn.never rfl hi hg hb))
  (dss_one (ds_expr (de_mut tym_list ms_append PySem.F.plainAttrs_list PySem.F.slot_list_append PySem.F.type_list_append mt_append (de_var (pv 1)) (da_cons (de_var (pv 5)) da_nil)))))))) (fun hi hg hb => ps_for PassesOwn.never rfl hi hg hb))
  (dss_one (ds_ret (de_cmp (op_eqD hu64) os_eq (de_bor (i := 1) (de_lc rfl S.nd (it_any (de_var (pv 1))) (own := [("_law_each", 7)]) (blk_of (by kernel_rfl)) (tg_name (i := 7)) (by decide) (fun _ _ _ _ _ => (pg_name (i := 7) S.nd rfl (by first | exact .inl rfl | exact .inr rfl))) (fun _ _ _ _ _ => (pts_one (dt_cmp (op_neD hu64) os_ne (de_cmp (op_eqD hu64) os_eq (de_meth0 (ct := ctOf K) (c := 0) (fm := f_Web_text) (E := E0) (fun _ _ => .nil) (fun _ _ _ => runF_len) (de_var (pv 7)) (fun h => pe_meth0 h (cz (x := "Web") c 22 rfl) (mz (x := "Web") c 30 rfl) (ok_Web_text KX G c) (hr.mono (by decide)) (b_Web_text_1 c) .nil pass0)) (de_meth0 (ct := ctOf K) (c := 0) (fm := f_Web_text) (E := E0) (fun _ _ => .nil) (fun _ _ _ => runF_len) (de_ix ix_seq os_ix (de_var (pv 1)) (de_c pe_int (fun _ _ => .int _)) (fun _ _ => rfl)) (fun h => pe_meth0 h (cz (x := "Web") c 22 rfl) (mz (x := "Web") c 30 rfl) (ok_Web_text KX G c) (hr.mono (by decide)) (b_Web_text_1 c) .nil pass0)) (nomark _)) (de_eqOwn (ct := ctOf K) (c := 0) (E := E0) (ok_Web_eq KX G c) (mz (x := "Web") c 34 rfl) (notFB_ok (xz (f := fun K => notFB K "Web") c 1 rfl)) (hr.mono (by decide)) (b_Web_eq_2 c) pass0 (fun _ _ _ => runF_len) (de_var (pv 7)) (de_ix ix_seq os_ix (de_var (pv 1)) (de_c pe_int (fun _ _ => .int _)) (fun _ _ => rfl)) (nomark _)) (nomark _)))) (fun _ _ _ _ _ => (de_var (pv 7))))) (de_lst da_nil) (nomark _))))))
theorem F_l_bag (c : Fx w h K) : FunD K "_law_bag" "_law_bag" (defArgs s_l_bag) (defBody s_l_bag) (defScope s_l_bag) [] [] (He.ga K "_law_bag") (fdOf K d_l_bag) := dz c 19 rfl
theorem kp_l_bag (c : Fx w h K) : PySem.W.keepIn K (.ref (He.ga K "_law_bag")) = true := (F_l_bag c).kp
theorem b_l_bag_2 (c : Fx w h K) : Binds K (fdOf K d_l_bag) ["_law_script", "_law_k"] [] := (F_l_bag c).bindsN fun _ _ _ _ _ _ us hl => match us, hl with | [_, _], _ => rfl
theorem ok_l_bag (KX : K.In h) (G : h.Ns mainGlobals mg) (c : Fx w h K) : FnOk P w K mg base CX0 1 (He.ga K "_law_bag") (fdOf K d_l_bag) ["_law_script", "_law_k"] (FnS K (ctOf K) 2 f_l_bag) := by
  refine fd_ok (F_l_bag c) sc_l_bag fun cdv A outer s H E hr => ?_
  have S := sc_l_bag
  have hu80 : (A.deeper (envOfC "_law_bag" (defScope s_l_bag) s.heap.objs.size (He.ga K "_law_bag") cdv)).units + 80 < cLine := by have := hr.un; omega
  have hu65 : (A.deeper (envOfC "_law_bag" (defScope s_l_bag) s.heap.objs.size (He.ga K "_law_bag") cdv)).units + 65 < cLine := by omega
  have hu64 : (A.deeper (envOfC "_law_bag" (defScope s_l_bag) s.heap.objs.size (He.ga K "_law_bag") cdv)).units + 64 < cLine := by omega
  have hu1 : (A.deeper (envOfC "_law_bag" (defScope s_l_bag) s.heap.objs.size (He.ga K "_law_bag") cdv)).units + 1 < cLine := by omega
  have hu0 : (A.deeper (envOfC "_law_bag" (defScope s_l_bag) s.heap.objs.size (He.ga K "_law_bag") cdv)).units < cLine := by omega
  exact (dss_cons (ds_par (ps_par (i := 4) (j := 5) rfl S.nd rfl rfl (by decide) rfl rfl (dan_cons (de_fz (de_if (dt_cmp op_ltU os_lt (de_var (pv 1)) (de_callB cs_len (call_len) (da_cons (de_var (pv 0)) da_nil) (fz KX G c 0 rfl)) (nomark _)) (de_callTy cs_intU (call_intU) (da_cons (de_ix ix_seq os_ix (de_var (pv 0)) (de_var (pv 1)) (fun _ _ => rfl)) da_nil) (fz KX G c 4 rfl)) (de_c pe_int (fun _ _ => .int _)))) (dan_cons (de_fz (de_op op_mulU os_mul (de_c pe_int (fun _ _ => .int _)) (de_op op_addU os_add (de_var (pv 1)) (de_c pe_int (fun _ _ => .int _))))) dan_nil)) rfl))
  (dss_cons (ds_for PassesOwn.never rfl (tg_name (i := 2)) (it_any (de_slice (de_var (pv 0)) do_none (do_some (de_c pe_int (fun _ _ => .int _))))) (pg_name (i := 2) S.nd rfl (by first | exact .inl rfl | exact .inr rfl)) (dss_one (ds_set (ps_set (i := 5) S.nd rfl (by first | exact .inl rfl | exact .inr rfl) (de_fz (de_op op_mod os_mod (de_callTy cs_intU (call_intU) (da_cons (de_op op_addU os_add (de_op op_addU os_add (de_op op_mulU os_mul (de_var (pv 5)) (de_c pe_int (fun _ _ => .int _))) (de_op op_mod os_mod (de_callTy cs_intU (call_intU) (da_cons (de_var (pv 2)) da_nil) (fz KX G c 4 rfl)) (de_c pe_int (fun _ _ => .int _)))) (de_op op_mulU os_mul (de_c pe_int (fun _ _ => .int _)) (de_var (pv 1)))) da_nil) (fz KX G c 4 rfl)) (de_c pe_int (fun _ _ => .int _))))))) (fun hi hg hb => ps_for PassesOwn.never rfl hi hg hb))
  (dss_cons (ds_set (ps_set (i := 3) S.nd rfl (by first | exact .inl rfl | exact .inr rfl) (de_fz (de_if (PW.pt (dw_or (dt_cmp op_ltU os_lt (de_var (pv 4)) (de_c pe_int (fun _ _ => .int _)) (nomark _)) (dw_or1 (dt_cmp op_geU os_ge (de_var (pv 4)) (de_op op_pow os_pow (de_c pe_int (fun _ _ => .int _)) (de_c pe_int (fun _ _ => .int _))) (nomark _))))) (de_callB cs_abs (call_abs) (da_cons (de_var (pv 4)) da_nil) (fz KX G c 36 rfl)) (de_c pe_int (fun _ _ => .int _))))))
  (dss_one (ds_ret (de_lst (da_cons (de_var (pv 3)) (da_cons (de_op op_mod os_mod (de_callTy cs_intU (call_intU) (da_cons (de_op op_addU os_add (de_var (pv 5)) (de_op op_mulU os_mul (de_c pe_int (fun _ _ => .int _)) (de_op op_mod os_mod (de_callTy cs_intU (call_intU) (da_cons (de_var (pv 4)) da_nil) (fz KX G c 4 rfl)) (de_c pe_int (fun _ _ => .int _))))) da_nil) (fz KX G c 4 rfl)) (de_c pe_int (fun _ _ => .int _))) (da_cons (de_c pe_int (fun _ _ => .int _)) da_nil)))))))))
theorem F_law_v2 (c : Fx w h K) : FunD K "law" "law" (defArgs s_law_v2) (defBody s_law_v2) (defScope s_law_v2) [] [] (He.ga K "law") (fdOf K d_law_v2) := dz c 20 rfl
theorem kp_law_v2 (c : Fx w h K) : PySem.W.keepIn K (.ref (He.ga K "law")) = true := (F_law_v2 c).kp
theorem ok_law_v2 (KX : K.In h) (G : h.Ns mainGlobals mg) (c : Fx w h K) : FnG P w K mg base 9 (He.ga K "law") (fdOf K d_law_v2) ["_law_script"] (FnS K (ctOf K) 1 f_law_v2) := by
  refine fd_okG (F_law_v2 c) sc_law_v2 fun cdv A outer s H E hgd hr => ?_
  have S := sc_law_v2
  have hu80 : (A.deeper (envOfC "law" (defScope s_law_v2) s.heap.objs.size (He.ga K "law") cdv)).units + 80 < cLine := by have := hr.un; omega
  have hu65 : (A.deeper (envOfC "law" (defScope s_law_v2) s.heap.objs.size (He.ga K "law") cdv)).units + 65 < cLine := by omega
  have hu64 : (A.deeper (envOfC "law" (defScope s_law_v2) s.heap.objs.size (He.ga K "law") cdv)).units + 64 < cLine := by omega
  have hu1 : (A.deeper (envOfC "law" (defScope s_law_v2) s.heap.objs.size (He.ga K "law") cdv)).units + 1 < cLine := by omega
  have hu0 : (A.deeper (envOfC "law" (defScope s_law_v2) s.heap.objs.size (He.ga K "law") cdv)).units < cLine := by omega
  exact (dss_cons (ds_if (dt_not (dt_tru (de_callB cs_all (cr_all rfl) (da_cons (de_lc rfl S.nd (it_range1 (de_callB cs_max2 (call_max2 rfl) (da_cons (de_c pe_int (fun _ _ => .int _)) (da_cons (de_callB cs_min2 (call_min2 rfl) (da_cons (de_callB cs_len (call_len) (da_cons (de_var (pv 0)) da_nil) (fz KX G c 0 rfl)) (da_cons (de_c pe_int (fun _ _ => .int _)) da_nil)) (fz KX G c 1 rfl)) da_nil)) (fz KX G c 2 rfl)) (fz KX G c 3 rfl)) (own := [("_law_k", 2)]) (blk_of (by kernel_rfl)) (tg_name (i := 2)) (by decide) (fun _ _ _ _ _ => (pg_name (i := 2) S.nd rfl (by first | exact .inl rfl | exact .inr rfl))) (fun _ _ _ _ _ => dts_nil) (fun _ _ _ _ _ => (de_bagG (ok_l_right_v2 KX G c) hgd (hr.mono (by decide)) (gz KX G c 35 rfl) (kp_l_right_v2 c) (b_l_right_v2_1 c) .nil (fun _ _ => .nil) (fun _ _ _ => runF_len) (de_call (ok_l_bag KX G c) (hr.mono (by decide)) (gz KX G c 37 rfl) (kp_l_bag c) (b_l_bag_2 c) .nil pass0 (fun _ _ => .nil) (fun _ _ _ => runF_len) (da_cons (de_var (pv 0)) (da_cons (de_var (pv 2)) da_nil))) da_nil))) da_nil) (fz KX G c 17 rfl)))) (dss_one (ds_ret (de_c pe_bl (fun _ _ => .bl _)))) dss_nil)
  (dss_cons (ds_set (ps_set (i := 1) S.nd rfl (by first | exact .inl rfl | exact .inr rfl) (de_fz (de_cm (ct := ctOf K) (c := 0) (E := E0) (cmB_rd (xz (f := fun K => cmB K "Web" "read") c 0 rfl)) (cmB_cm (xz (f := fun K => cmB K "Web" "read") c 0 rfl)) (FnR.ofOk (ok_Web_read KX G c) (b_Web_read_2 c)) (hr.mono (by decide)) pass0 (gz KX G c 23 rfl) (fun _ _ _ => runF_len) (da_cons (de_c pe_str (fun _ _ => .str _ (by decide +kernel))) da_nil)))))
  (dss_one (ds_ret (de_cmp (op_eqD hu64) os_eq (de_lst (da_cons (de_fld (ct := ctOf K) (c := 0) (cz (x := "Web") c 22 rfl) (nz (x := "Web") c 24 rfl) (de_var (pv 1)) rfl) (da_cons (de_fld (ct := ctOf K) (c := 0) (cz (x := "Web") c 22 rfl) (nz (x := "Web") c 25 rfl) (de_var (pv 1)) rfl) (da_cons (de_fld (ct := ctOf K) (c := 0) (cz (x := "Web") c 22 rfl) (nz (x := "Web") c 25 rfl) (de_cm (ct := ctOf K) (c := 0) (E := E0) (cmB_rd (xz (f := fun K => cmB K "Web" "read") c 0 rfl)) (cmB_cm (xz (f := fun K => cmB K "Web" "read") c 0 rfl)) (FnR.ofOk (ok_Web_read KX G c) (b_Web_read_2 c)) (hr.mono (by decide)) pass0 (gz KX G c 23 rfl) (fun _ _ _ => runF_len) (da_cons (de_c pe_str (fun _ _ => .str _ (by decide +kernel))) da_nil)) rfl) da_nil)))) (de_lst (da_cons (de_tup (da_cons (de_c pe_str (fun _ _ => .str _ (by decide +kernel))) (da_cons (de_c pe_str (fun _ _ => .str _ (by decide +kernel))) da_nil))) (da_cons (de_tup da_nil) (da_cons (de_tup (da_cons (de_c pe_str (fun _ _ => .str _ (by decide +kernel))) da_nil)) da_nil)))) (nomark _))))))
end
end L03

set_option maxHeartbeats 0
namespace L03
open PySem PySem.Spec PyProof.Rows L2 KD KM
theorem facts {P : Program} {w : World} {K : PySem.W.Frag} {h : Heap} {mg : Str → Option Value} {f : Addr} (X : K.In h) (G : h.Ns mainGlobals mg) (hfa : mg ("law" : Str) = some (.ref f)) (c : Fx w h K) :
    ∃ fd : FuncData, (∀ (s : Shared) (v : Value), BindsTo s fd ⟨[v], []⟩ [("_law_script", v)]) ∧ ∀ base : Heap, K.In base → base.Ns mainGlobals mg → FnG P w K mg base 9 f fd ["_law_script"] (FnS K (ctOf K) 1 f_law_v2) := by
  have e := hfa.symm.trans (gz X G c 38 rfl)
  cases e
  have b := FunD.bindsA (ps := ["_law_script"]) (F_law_v2 c) fun _ _ _ _ _ _ us hl => match us, hl with | [_], _ => rfl
  exact ⟨_, fun s v => b s [v] rfl, fun base _ _ => ok_law_v2 X G c⟩
end L03
open PySem PySem.W PySem.Calls PyProof.Rows
theorem PySem.Challenge.cw_kempemoves_k03_texts_of_webs_holds : PySem.Challenge.rw_kempemoves_k03_texts_of_webs.Holds := by
  w_on; o_law
  refine HandSHeadRun.head_any (r := OpenLaw.row PySem.Challenge.rw_kempemoves_k03_texts_of_webs) (q := view (OpenLaw.row PySem.Challenge.rw_kempemoves_k03_texts_of_webs).prog [28]) (H := L03.hk) (ob := L03.ob) (M := 20000) (loose := L03.names) (d := HandSHeadRun.topDef (OpenLaw.row PySem.Challenge.rw_kempemoves_k03_texts_of_webs).prog 28) (kwd := []) L03.ob_eq
    (by kernel_rfl) (fun s => by kernel_rfl) L03.run (by kernel_rfl) (by kernel_rfl) (by kernel_rfl) (by rfl) (by first | assumption | decide +kernel) (by decide +kernel) ⟨rfl, rfl, rfl, rfl, rfl, by decide +kernel⟩ ?hw ?hc
  case hw => w_witness2
  case hc =>
    refine KD.walk_endG (l := PySem.Challenge.rw_kempemoves_k03_texts_of_webs) (n := 63) (k := 9) (x := "_law_script") rfl (by decide) (by kernel_rfl) ⟨rfl, by decide, by decide⟩ ?F
    intro w mg fa h Y G hmg0
    obtain ⟨K, KX, c⟩ := Y
    have hmg : mg ("law" : PySem.Str) = some (.ref fa) := by
      have e : (HandSHeadRun.topDef (OpenLaw.row PySem.Challenge.rw_kempemoves_k03_texts_of_webs).prog 28).name = ("law" : PySem.Str) := by kernel_rfl
      rw [← e]
      exact hmg0
    obtain ⟨fd, hb, hF⟩ := L03.facts (P := (PySem.Challenge.rw_kempemoves_k03_texts_of_webs).prog) (w := w) KX G hmg c
    exact ⟨K, fd, _, KX, hb, fun H a ns hl _ hS => KD.law_sp hl hS (KM.law_v2_true ns hl), hF⟩

