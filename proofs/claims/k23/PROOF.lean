import PyProof.Rows.All
import Wide.All
import OpenK.AllK
import Wide.FinOn
import HandS.ForMost
import HandS.TupAny
import HandS.IsInst
import HandS.RaiseMore
import HandS.Exc
import HandS.Lambda
import KE.GoesEnum
import KE.GoesZip
import HandS.Strs
import HandS.TupLe
import HandS.Deep
import PyProof.ListStr
import PyProof.TupleOfStr
import PyProof.ReprRoads
import HandS.Defaults
import HandS.MakeKw
import HandS.HeadEnd
import HandS.HeadHook4
import KE.KIntText
import KE.KDictZip
import HandS.SetKeys
import HandS.WordsDict
import HandS.Conv
import HandS.More
import HandS.DictComp
import HandS.Steps
import HandS.Style
import PyProof.StrBlock2
import HandS.SortInts
import HandS.OwnEq
import HandS.Small
import HandS.Text
import HandS.CallLocal
import HandS.ClsMeth
import HandS.HeadNt
import HandS.MakeKwOnly
import HandS.FStr
import KE.KExcInit
import HandS.ExcInit
import HandS.ExcOwn
import HandS.ExcIs
import HandS.ExcField
import HandS.TryMany
import KE.KExcIs
import HandS.ExcValue
import HandS.HotCalls
import HandS.EndTab
import KE.KNestM
import KE.DataFind
import KE.KxWritten
import KE.KStrOpen
import HandS.TupMul
import HandS.TryOnly
import KE.SortData
import PyProof.NeKinds
import PyProof.ListRange
import HandS.Records
import HandS.Finally
import HandS.TupSets
import HandS.SetTxt0
import HandS.Replace
import HandS.HeadHook3
import KE.KStateDown
import Lean
import HandS.WordsExc
import HandS.Head0
import HandS.Head1
import HandS.Head2
import HandS.HeadHook1
import HandS.HeadHook2
import PyProof.ReprBulk
import PySem.Challenge.RW_kempemoves_k23_errors_made
set_option Elab.async false
set_option linter.all false
set_option maxRecDepth 100000
set_option maxHeartbeats 4000000
namespace KD
open PySem L2

inductive D where
  | non | bl (b : Bool) | int (i : Int) | str (s : Str)
  | tup (l : List D) | pair (l : List D) | lst (l : List D) | scr (l : List Int)
  | ins (c : Nat) (ns : List Str) (l : List D)
  | dct (ks : List L2.Key) (l : List D)
  | dcl (ks : List L2.Key) (l : List D)
  | ptr (n : Nat)
  | cls (c : Nat) | rng (lo hi : Int) | exc (c : Nat) (ns : List Str) (l : List D) | tab (t : Nat) (q : Str)
inductive MO where
  | lst (l : List D) | ins (c : Nat) (ns : List Str) (l : List D) | dct (ks : List L2.Key) (l : List D) | tab (t : Nat) (q : Str)
def MO.toD : MO → D
  | .lst l => .lst l
  | .ins c ns l => .ins c ns l
  | .dct ks l => .dct ks l
  | .tab t q => .tab t q
inductive Sl where | no | d (x : D) | own (m : MO)
structure SE where
  sl : List Sl
  M : List MO
inductive Ow | slot (i : Nat) | obj (n : Nat) | tmp | ext deriving DecidableEq
inductive Val | d (x : D) | new (m : MO) | old (i : Nat) | ex (x : D)
abbrev OwF := Addr → Option Ow
structure Gam where
  K : PySem.W.Frag
  ct : Nat → Addr
  mu : Nat → Option Addr
def cut (H : Hp) (ow : OwF) : Hp := fun a => match ow a with | none => H a | some _ => none
def setO (ow : OwF) (p : Addr) (w : Option Ow) : OwF := fun a => if a = p then w else ow a
def Sub (F F' : Hp) : Prop := ∀ a o, F a = some o → F' a = some o
theorem Sub.refl (F : Hp) : Sub F F := fun _ _ h => h
theorem Sub.trans {F G H : Hp} (a : Sub F G) (b : Sub G H) : Sub F H := fun x o h => b x o (a x o h)
theorem setO_same {ow : OwF} {p : Addr} {w : Option Ow} : setO ow p w p = w := if_pos rfl
theorem setO_ne {ow : OwF} {p a : Addr} {w : Option Ow} (h : a ≠ p) : setO ow p w a = ow a := if_neg h
theorem cut_of {H : Hp} {ow : OwF} {a : Addr} {o : HO} (h : cut H ow a = some o) : ow a = none ∧ H a = some o := by
  unfold cut at h
  cases e : ow a with
  | none => rw [e] at h; exact ⟨rfl, h⟩
  | some w => rw [e] at h; cases h
theorem cut_mk {H : Hp} {ow : OwF} {a : Addr} {o : HO} (h1 : ow a = none) (h2 : H a = some o) : cut H ow a = some o := by
  unfold cut; rw [h1]; exact h2
theorem cut_sub {H : Hp} {ow : OwF} : Sub (cut H ow) H := fun _ _ h => (cut_of h).2
theorem Sub.rd {F F' : Hp} (s : Sub F F') {a : Addr} {u : HO} (h : Rd F a u) : Rd F' a u := by
  rcases h with h | ⟨o, h⟩
  · exact .inl (s _ _ h)
  · exact .inr ⟨o, s _ _ h⟩
theorem Sub.sqt {F F' : Hp} (s : Sub F F') {K : PySem.W.Frag} {a : Addr} {xs : List V} (h : SqT K F a xs) : SqT K F' a xs := by
  rcases h with h | h
  · exact .inl (s.rd h)
  · exact .inr h
theorem Sub.sql {F F' : Hp} (s : Sub F F') {K : PySem.W.Frag} {a : Addr} {xs : List V} (h : SqL K F a xs) : SqL K F' a xs := by
  rcases h with h | h
  · exact .inl (s.rd h)
  · exact .inr h

def TupR (K : PySem.W.Frag) (F : Hp) (a : Addr) (vs : List V) : Prop := (∃ o, F a = some (.frz o (.tup vs)) ∧ o.dict = none) ∨
  ∃ (o : Obj) (its : Array Value) (n : Nat), K.lookup a = some o ∧ o.cls = .type "tuple" ∧ o.dict = none ∧ o.data = .seq its n ∧ its.size ≤ sizeLine ∧ Vals vs its.toList
theorem TupR.sqt {K : PySem.W.Frag} {F : Hp} {a : Addr} {vs : List V} (h : TupR K F a vs) : SqT K F a vs := by
  rcases h with ⟨o, h, _⟩ | ⟨o, its, n, h1, h2, _, h3, h4, h5⟩
  · exact .inl (.inr ⟨o, h⟩)
  · exact .inr ⟨o, its, n, h1, h2, h3, h4, h5⟩
theorem Sub.tupR {F F' : Hp} (s : Sub F F') {K : PySem.W.Frag} {a : Addr} {vs : List V} (h : TupR K F a vs) : TupR K F' a vs := by
  rcases h with ⟨o, h, d⟩ | h
  · exact .inl ⟨o, s _ _ h, d⟩
  · exact .inr h
def sOk (s : Str) : Bool := s.cps.all (fun c => decide (c < 1114112)) && decide (s.cps.size ≤ 16777216)
def xob (a C : Addr) (d : Option Addr) : HO := .ext fun h => ∃ oe, h.get? a = some oe ∧ Zc (.ref C) d oe ∧ ∃ vs, oe.data = .fields vs
def XFs (F : Hp) (ns : List Str) (vs : List V) : Option Addr → Prop
  | some dx => F dx = some (.xd (ns.zip vs))
  | none => ns = []
theorem XFs.mono {F F' : Hp} (s : Sub F F') {ns : List Str} {vs : List V} : ∀ {d : Option Addr}, XFs F ns vs d → XFs F' ns vs d
  | some _, h => s _ _ h
  | none, h => h
def TabOf (F : Hp) (ps : Array Value) (q : Str) : Prop := TriplesOk ps.toList ∧ ∀ (pos : Pos) (cv : Value), codeAmong pos ps.toList = some cv → ∃ c, cv = .ref c ∧ F c = some (LamX.CodeO c q)
theorem TabOf.mono {F F' : Hp} (s : Sub F F') {ps : Array Value} {q : Str} (h : TabOf F ps q) : TabOf F' ps q := ⟨h.1, fun pos cv hc => let ⟨c, e1, e2⟩ := h.2 pos cv hc; ⟨c, e1, s _ _ e2⟩⟩
mutual
inductive Rp (Γ : Gam) (F : Hp) : V → D → Prop
  | non : Rp Γ F .non .non
  | bl (b : Bool) : Rp Γ F (.bl b) (.bl b)
  | int (i : Int) : Rp Γ F (.int i) (.int i)
  | str (s : Str) (h : sOk s = true) : Rp Γ F (.str s) (.str s)
  | tup {a : Addr} {vs : List V} {ds : List D} : TupR Γ.K F a vs → RpAll Γ F vs ds → ds.length ≤ 16777216 → Rp Γ F (.ref a) (.tup ds)
  | pair {a : Addr} {vs : List V} {ds : List D} : SqT Γ.K F a vs → RpAll Γ F vs ds → Rp Γ F (.ref a) (.pair ds)
  | lst {a : Addr} {vs : List V} {ds : List D} : F a = some (.lst vs) → RpAll Γ F vs ds → ds.length ≤ 16777216 → Rp Γ F (.ref a) (.lst ds)
  | scr {a : Addr} {ns : List Int} : SqL Γ.K F a (ns.map V.int) → ns.length ≤ 16777216 → Rp Γ F (.ref a) (.scr ns)
  | ins {a dx : Addr} {c : Nat} {ns : List Str} {vs : List V} {ds : List D} : F a = some (.ins (Γ.ct c) dx (ns.zip vs)) → vs.length = ns.length → RpAll Γ F vs ds → Rp Γ F (.ref a) (.ins c ns ds)
  | dct {a : Addr} {ks : List L2.Key} {vs : List V} {ds : List D} : F a = some (.dK (ks.zip vs)) → vs.length = ks.length → RpAll Γ F vs ds → Rp Γ F (.ref a) (.dct ks ds)
  | dcl {a : Addr} {o : Obj} {ks : List L2.Key} {vs : List V} {ds : List D} : F a = some (.frz o (.dK (ks.zip vs))) → vs.length = ks.length → RpAll Γ F vs ds → Rp Γ F (.ref a) (.dcl ks ds)
  | ptr {a : Addr} {n : Nat} : Γ.mu n = some a → Rp Γ F (.ref a) (.ptr n)
  | cls (c : Nat) : Rp Γ F (.ref (Γ.ct c)) (.cls c)
  | rng {a : Addr} {lo hi : Int} : F a = some (.rng lo hi) → Rp Γ F (.ref a) (.rng lo hi)
  | exc {a : Addr} {d : Option Addr} {c : Nat} {ns : List Str} {vs : List V} {ds : List D} : F a = some (xob a (Γ.ct c) d) → XFs F ns vs d → vs.length = ns.length → RpAll Γ F vs ds → Rp Γ F (.ref a) (.exc c ns ds)
  | tab {ps : Array Value} {t : Nat} {q : Str} : F (Γ.ct t) = some (.tbl ps) → TabOf F ps q → Rp Γ F (.ref (Γ.ct t)) (.tab t q)
inductive RpAll (Γ : Gam) (F : Hp) : List V → List D → Prop
  | nil : RpAll Γ F [] []
  | cons {v : V} {vs : List V} {d : D} {ds : List D} : Rp Γ F v d → RpAll Γ F vs ds → RpAll Γ F (v :: vs) (d :: ds)
end
section
variable {Γ : Gam} {F F' : Hp}
mutual
theorem Rp.mono (s : Sub F F') : ∀ {v : V} {d : D}, Rp Γ F v d → Rp Γ F' v d
  | _, _, .non => .non
  | _, _, .bl b => .bl b
  | _, _, .int b => .int b
  | _, _, .str b h => .str b h
  | _, _, .tup h r l => .tup (s.tupR h) (RpAll.mono s r) l
  | _, _, .pair h r => .pair (s.sqt h) (RpAll.mono s r)
  | _, _, .lst h r l => .lst (s _ _ h) (RpAll.mono s r) l
  | _, _, .scr h l => .scr (s.sql h) l
  | _, _, .ins h l r => .ins (s _ _ h) l (RpAll.mono s r)
  | _, _, .dct h l r => .dct (s _ _ h) l (RpAll.mono s r)
  | _, _, .dcl h l r => .dcl (s _ _ h) l (RpAll.mono s r)
  | _, _, .ptr h => .ptr h
  | _, _, .cls c => .cls c
  | _, _, .rng h => .rng (s _ _ h)
  | _, _, .exc h x l r => .exc (s _ _ h) (x.mono s) l (RpAll.mono s r)
  | _, _, .tab h t => .tab (s _ _ h) (t.mono s)
theorem RpAll.mono (s : Sub F F') : ∀ {vs : List V} {ds : List D}, RpAll Γ F vs ds → RpAll Γ F' vs ds
  | _, _, .nil => .nil
  | _, _, .cons h r => .cons (Rp.mono s h) (RpAll.mono s r)
end
theorem RpAll.length : ∀ {vs : List V} {ds : List D}, RpAll Γ F vs ds → vs.length = ds.length
  | _, _, .nil => rfl
  | _, _, .cons _ r => by simp [RpAll.length r]
theorem RpAll.append : ∀ {vs : List V} {ds : List D} {us : List V} {es : List D}, RpAll Γ F vs ds → RpAll Γ F us es → RpAll Γ F (vs ++ us) (ds ++ es)
  | _, _, _, _, .nil, r => r
  | _, _, _, _, .cons h r, q => .cons h (RpAll.append r q)
theorem RpAll.one {v : V} {d : D} (h : Rp Γ F v d) : RpAll Γ F [v] [d] := .cons h .nil
theorem RpAll.take : ∀ {vs : List V} {ds : List D} (n : Nat), RpAll Γ F vs ds → RpAll Γ F (vs.take n) (ds.take n)
  | _, _, 0, _ => by simp only [List.take_zero]; exact .nil
  | _, _, _ + 1, .nil => .nil
  | _, _, n + 1, .cons h r => .cons h (RpAll.take n r)
theorem RpAll.drop : ∀ {vs : List V} {ds : List D} (n : Nat), RpAll Γ F vs ds → RpAll Γ F (vs.drop n) (ds.drop n)
  | _, _, 0, h => h
  | _, _, _ + 1, .nil => .nil
  | _, _, n + 1, .cons _ r => RpAll.drop n r
theorem RpAll.get : ∀ {vs : List V} {ds : List D} {i : Nat} {d : D}, RpAll Γ F vs ds → ds[i]? = some d → ∃ v, vs[i]? = some v ∧ Rp Γ F v d
  | _, _, _, _, .nil, h => by simp at h
  | _, _, 0, _, .cons h _, e => by simp at e; subst e; exact ⟨_, rfl, h⟩
  | _, _, i + 1, _, .cons _ r, e => by
    obtain ⟨v, h1, h2⟩ := RpAll.get (i := i) r (by simpa using e)
    exact ⟨v, by simpa using h1, h2⟩
theorem RpAll.set {v : V} {d : D} (q : Rp Γ F v d) : ∀ {vs : List V} {ds : List D} (i : Nat), RpAll Γ F vs ds → RpAll Γ F (vs.set i v) (ds.set i d)
  | _, _, _, .nil => .nil
  | _, _, 0, .cons _ r => .cons q r
  | _, _, i + 1, .cons h r => .cons h (RpAll.set q i r)
def ObjR (Γ : Gam) (F H : Hp) (p : Addr) : MO → Prop
  | .lst xs => ∃ vs, H p = some (.lst vs) ∧ RpAll Γ F vs xs ∧ xs.length ≤ 16777216
  | .ins c ns xs => ∃ dx vs, H p = some (.ins (Γ.ct c) dx (ns.zip vs)) ∧ vs.length = ns.length ∧ RpAll Γ F vs xs
  | .dct ks xs => ∃ vs, H p = some (.dK (ks.zip vs)) ∧ vs.length = ks.length ∧ RpAll Γ F vs xs
  | .tab t q => p = Γ.ct t ∧ ∃ ps, H p = some (.tbl ps) ∧ TabOf F ps q
theorem ObjR.has {H : Hp} {p : Addr} {m : MO} (h : ObjR Γ F H p m) : ∃ o, H p = some o := by
  cases m with
  | lst xs => obtain ⟨vs, h, _⟩ := h; exact ⟨_, h⟩
  | ins c ns xs => obtain ⟨dx, vs, h, _⟩ := h; exact ⟨_, h⟩
  | dct ks xs => obtain ⟨vs, h, _⟩ := h; exact ⟨_, h⟩
  | tab t q => obtain ⟨_, ps, h, _⟩ := h; exact ⟨_, h⟩
theorem ObjR.mono {H H' : Hp} {p : Addr} {m : MO} (h : ObjR Γ F H p m) (s : Sub F F') (e : ∀ o, H p = some o → H' p = some o) : ObjR Γ F' H' p m := by
  cases m with
  | lst xs => obtain ⟨vs, h, r, l⟩ := h; exact ⟨vs, e _ h, r.mono s, l⟩
  | ins c ns xs => obtain ⟨dx, vs, h, l, r⟩ := h; exact ⟨dx, vs, e _ h, l, r.mono s⟩
  | dct ks xs => obtain ⟨vs, h, l, r⟩ := h; exact ⟨vs, e _ h, l, r.mono s⟩
  | tab t q => obtain ⟨z, ps, h, t⟩ := h; exact ⟨z, ps, e _ h, t.mono s⟩
theorem ObjR.rp {H : Hp} {p : Addr} {m : MO} (h : ObjR Γ F H p m) (s : Sub F F') (e : ∀ o, H p = some o → F' p = some o) : Rp Γ F' (.ref p) m.toD := by
  cases m with
  | lst xs => obtain ⟨vs, h, r, l⟩ := h; exact .lst (e _ h) (r.mono s) l
  | ins c ns xs => obtain ⟨dx, vs, h, l, r⟩ := h; exact .ins (e _ h) l (r.mono s)
  | dct ks xs => obtain ⟨vs, h, l, r⟩ := h; exact .dct (e _ h) l (r.mono s)
  | tab t q => obtain ⟨rfl, ps, h, t⟩ := h; exact .tab (e _ h) (t.mono s)

def MSim (Γ : Gam) (ow : OwF) (M : List MO) (H : Hp) : Prop :=
  ∀ (n : Nat) (m : MO), M[n]? = some m → ∃ p, Γ.mu n = some p ∧ ow p = some (.obj n) ∧ ObjR Γ (cut H ow) H p m
structure Sim (Γ : Gam) (ow : OwF) (ε : SE) (σ : L2.St) (H : Hp) : Prop where
  len : σ.length = ε.sl.length
  sd : ∀ (i : Nat) (d : D), ε.sl[i]? = some (.d d) → ∃ v, σ[i]? = some (some v) ∧ Rp Γ (cut H ow) v d
  so : ∀ (i : Nat) (m : MO), ε.sl[i]? = some (.own m) → ∃ p, σ[i]? = some (some (.ref p)) ∧ ow p = some (.slot i) ∧ ObjR Γ (cut H ow) H p m
  mo : MSim Γ ow ε.M H
structure Fr (ow : OwF) (H : Hp) (ow' : OwF) (H' : Hp) : Prop where
  fz : ∀ a o, H a = some o → ow a = none → ow' a = none ∧ H' a = some o
  ke : ∀ a o w, H a = some o → ow a = some w → (w = .tmp ∨ w = .ext) → ow' a = some w ∧ H' a = some o
  tr : ∀ a o, H a = some o → ∃ o', H' a = some o'
  ob : ∀ a o n, H a = some o → ow a = some (.obj n) → ow' a = some (.obj n)
theorem Fr.refl {ow : OwF} {H : Hp} : Fr ow H ow H := ⟨fun _ _ h e => ⟨e, h⟩, fun _ _ _ h e _ => ⟨e, h⟩, fun _ _ h => ⟨_, h⟩, fun _ _ _ _ e => e⟩
theorem Fr.trans {ow ow1 ow2 : OwF} {H H1 H2 : Hp} (a : Fr ow H ow1 H1) (b : Fr ow1 H1 ow2 H2) : Fr ow H ow2 H2 :=
  ⟨fun x o h e => let ⟨e1, h1⟩ := a.fz x o h e; b.fz x o h1 e1, fun x o w h e q => let ⟨e1, h1⟩ := a.ke x o w h e q; b.ke x o w h1 e1 q,
   fun x o h => let ⟨_, h1⟩ := a.tr x o h; b.tr x _ h1, fun x o n h e => let ⟨_, h1⟩ := a.tr x o h; b.ob x _ n h1 (a.ob x o n h e)⟩
theorem Fr.sub {ow ow' : OwF} {H H' : Hp} (a : Fr ow H ow' H') : Sub (cut H ow) (cut H' ow') := fun x o h =>
  let ⟨h1, h2⟩ := cut_of h; let ⟨q1, q2⟩ := a.fz x o h2 h1; cut_mk q1 q2
theorem Fr.none {ow ow' : OwF} {H H' : Hp} (a : Fr ow H ow' H') {p : Addr} (h : H' p = none) : H p = none := by
  cases e : H p with
  | none => rfl
  | some o => obtain ⟨o', h'⟩ := a.tr p o e; rw [h] at h'; cases h'

def VR (Γ : Gam) (ow : OwF) (H0 : Hp) (σ : L2.St) (H : Hp) (v : V) : Val → Prop
  | .d d => Rp Γ (cut H ow) v d
  | .new m => ∃ p, v = .ref p ∧ ow p = some .tmp ∧ H0 p = none ∧ ObjR Γ (cut H ow) H p m
  | .old i => σ[i]? = some (some v)
  | .ex _ => True
theorem VR.back {ow : OwF} {H0 H1 H : Hp} {σ : L2.St} {v : V} {val : Val} (h : VR Γ ow H1 σ H v val) (f : ∀ p, H1 p = none → H0 p = none) : VR Γ ow H0 σ H v val := by
  cases val with
  | d d => exact h
  | new m => obtain ⟨p, e1, e2, e3, e4⟩ := h; exact ⟨p, e1, e2, f p e3, e4⟩
  | old i => exact h
  | ex x => exact True.intro
end

abbrev EM := SE → Option (Val × SE)
abbrev AM := SE → Option (List Val × SE)
def tE (K : PySem.W.Frag) (ct : Nat → Addr) (f : EM) : TE := fun σ H Q => ∃ mu ow ε val ε', Sim ⟨K, ct, mu⟩ ow ε σ H ∧ f ε = some (val, ε') ∧
  ∀ v H' ow', Sim ⟨K, ct, mu⟩ ow' ε' σ H' → Fr ow H ow' H' → VR ⟨K, ct, mu⟩ ow' H σ H' v val → Q v H'
theorem _root_.L2.PE.imp {X : Cx} {e : Expr} {t t' : TE} (h : PE X e t) (i : ∀ σ H Q, t' σ H Q → t σ H Q) : PE X e t' :=
  ⟨fun pins s σ H Q I q => h.run pins s σ H Q I (i σ H Q q)⟩
theorem _root_.L2.PT.imp {X : Cx} {e : Expr} {t t' : TT} (h : PT X e t) (i : ∀ σ H Q, t' σ H Q → t σ H Q) : PT X e t' :=
  ⟨fun pins s σ H Q I q => h.run pins s σ H Q I (i σ H Q q)⟩
theorem _root_.L2.PA.imp {X : Cx} {e : List Expr} {t t' : TA} (h : PA X e t) (i : ∀ σ H Q, t' σ H Q → t σ H Q) : PA X e t' :=
  ⟨fun pos pins s σ H Q I q => h.run pos pins s σ H Q I (i σ H Q q)⟩
theorem _root_.L2.PS.imp {X : Cx} {e : Stmt} {t t' : TS} (h : PS X e t) (i : ∀ D σ H, t' D σ H → t D σ H) : PS X e t' :=
  ⟨fun pins s σ H D I q => h.run pins s σ H D I (i D σ H q)⟩
theorem _root_.L2.PSs.imp {X : Cx} {e : List Stmt} {t t' : TS} (h : PSs X e t) (i : ∀ D σ H, t' D σ H → t D σ H) : PSs X e t' :=
  ⟨fun pins s σ H D I q => h.run pins s σ H D I (i D σ H q)⟩
section
variable {Γ : Gam} {ow : OwF} {ε ε' : SE} {σ : L2.St} {H H' : Hp}
theorem Sim.move {ow' : OwF} (S : Sim Γ ow ε σ H) (s : Sub (cut H ow) (cut H' ow')) (k : ∀ a o w, H a = some o → ow a = some w → (∃ i, w = .slot i) ∨ (∃ n, w = .obj n) → ow' a = some w ∧ H' a = some o) : Sim Γ ow' ε σ H' := by
  refine ⟨S.len, fun i d e => ?_, fun i m e => ?_, fun n m e => ?_⟩
  · obtain ⟨v, h1, h2⟩ := S.sd i d e
    exact ⟨v, h1, h2.mono s⟩
  · obtain ⟨p, h1, h2, h3⟩ := S.so i m e
    obtain ⟨o, ho⟩ := ObjR.has h3
    obtain ⟨q1, q2⟩ := k p o _ ho h2 (.inl ⟨i, rfl⟩)
    exact ⟨p, h1, q1, ObjR.mono h3 s fun o' e' => by rw [ho] at e'; cases e'; exact q2⟩
  · obtain ⟨p, h1, h2, h3⟩ := S.mo n m e
    obtain ⟨o, ho⟩ := ObjR.has h3
    obtain ⟨q1, q2⟩ := k p o _ ho h2 (.inr ⟨n, rfl⟩)
    exact ⟨p, h1, q1, ObjR.mono h3 s fun o' e' => by rw [ho] at e'; cases e'; exact q2⟩
theorem Sim.alloc {p : Addr} {o : HO} (S : Sim Γ ow ε σ H) (hp : H p = none) (w : Option Ow) : Sim Γ (setO ow p w) ε σ (upd H p o) ∧ Fr ow H (setO ow p w) (upd H p o) := by
  have ne : ∀ a o, H a = some o → a ≠ p := fun a o h => ne_of_none h hp
  have fr : Fr ow H (setO ow p w) (upd H p o) := ⟨fun a o' h e => by rw [setO_ne (ne a o' h), upd_ne (ne a o' h)]; exact ⟨e, h⟩,
    fun a o' w' h e _ => by rw [setO_ne (ne a o' h), upd_ne (ne a o' h)]; exact ⟨e, h⟩, fun a o' h => by rw [upd_ne (ne a o' h)]; exact ⟨_, h⟩, fun a o' n h e => by rw [setO_ne (ne a o' h)]; exact e⟩
  exact ⟨S.move fr.sub fun a o' w' h e _ => by rw [setO_ne (ne a o' h), upd_ne (ne a o' h)]; exact ⟨e, h⟩, fr⟩
theorem Sim.freeze {p : Addr} (S : Sim Γ ow ε σ H) (ht : ow p = some .tmp) : Sim Γ (setO ow p none) ε σ H ∧ Sub (cut H ow) (cut H (setO ow p none)) := by
  have s : Sub (cut H ow) (cut H (setO ow p none)) := fun a o h => by
    obtain ⟨h1, h2⟩ := cut_of h
    have n : a ≠ p := by rintro rfl; rw [ht] at h1; cases h1
    exact cut_mk (by rw [setO_ne n]; exact h1) h2
  refine ⟨S.move s fun a o w h e q => ?_, s⟩
  have n : a ≠ p := by
    rintro rfl
    rw [ht] at e; cases e
    rcases q with ⟨_, q⟩ | ⟨_, q⟩ <;> cases q
  rw [setO_ne n]; exact ⟨e, h⟩

def fzv : Val → Val
  | .new m => .d m.toD
  | v => v
def fzE (f : EM) : EM := fun ε => (f ε).map fun r => (fzv r.1, r.2)
theorem VR.fz {H0 : Hp} {ow0 : OwF} {v : V} {val : Val} (S : Sim Γ ow ε σ H) (fr : Fr ow0 H0 ow H) (h : VR Γ ow H0 σ H v val) : ∃ ow', Sim Γ ow' ε σ H ∧ Fr ow0 H0 ow' H ∧ VR Γ ow' H0 σ H v (KD.fzv val) := by
  cases val with
  | d d => exact ⟨ow, S, fr, h⟩
  | ex x => exact ⟨ow, S, fr, True.intro⟩
  | old i => exact ⟨ow, S, fr, h⟩
  | new m =>
    obtain ⟨p, rfl, ht, h0, ho⟩ := h
    obtain ⟨S2, s2⟩ := S.freeze ht
    refine ⟨_, S2, ⟨fun a o h e => ?_, fun a o w h e q => ?_, fr.tr, fun a o n h e => ?_⟩, ObjR.rp ho s2 fun o e => cut_mk setO_same e⟩
    · have n : a ≠ p := ne_of_none h h0
      rw [setO_ne n]; exact fr.fz a o h e
    · have n : a ≠ p := ne_of_none h h0
      rw [setO_ne n]; exact fr.ke a o w h e q
    · have n' : a ≠ p := ne_of_none h h0
      rw [setO_ne n']; exact fr.ob a o n h e
end
theorem fzE_some {f : EM} {ε ε' : SE} {val : Val} (h : fzE f ε = some (val, ε')) : ∃ val0, f ε = some (val0, ε') ∧ val = fzv val0 := by
  unfold fzE at h
  cases e : f ε with
  | none => rw [e] at h; cases h
  | some r => rw [e] at h; cases h; exact ⟨r.1, rfl, rfl⟩
theorem de_fz {X : Cx} {ct : Nat → Addr} {e : Expr} {f : EM} (h : PE X e (tE X.K ct f)) : PE X e (tE X.K ct (fzE f)) := h.imp fun σ H Q ⟨mu, ow, ε, val, ε', S, hf, k⟩ => by
  obtain ⟨val0, h0, rfl⟩ := fzE_some hf
  refine ⟨mu, ow, ε, val0, ε', S, h0, fun v H' ow' S' fr r => ?_⟩
  obtain ⟨ow2, S2, fr2, r2⟩ := r.fz S' fr
  exact k v H' ow2 S2 fr2 r2

def ownD (ε : SE) (i : Nat) : Option D := match ε.sl[i]? with | some (.own m) => some m.toD | _ => none
theorem ownD_some {ε : SE} {i : Nat} {d : D} (h : ownD ε i = some d) : ∃ m, ε.sl[i]? = some (.own m) ∧ d = m.toD := by
  unfold ownD at h
  split at h
  · rename_i m hm; cases h; exact ⟨m, hm, rfl⟩
  · cases h
def Val.res (ε : SE) : Val → Option D
  | .d (.ptr n) => (ε.M[n]?).map MO.toD
  | .d x => some x
  | .new m => some m.toD
  | .old i => ownD ε i
  | .ex _ => none
def RpO (Γ : Gam) (F H : Hp) (v : V) (d : D) : Prop := Rp Γ F v d ∨ ∃ p m, v = .ref p ∧ ObjR Γ F H p m ∧ d = m.toD
theorem VR.res {Γ : Gam} {ow : OwF} {ε : SE} {σ : L2.St} {H H0 : Hp} {v : V} {val : Val} {d : D} (S : Sim Γ ow ε σ H) (h : VR Γ ow H0 σ H v val) (e : val.res ε = some d) : RpO Γ (cut H ow) H v d := by
  cases val with
  | d x =>
    by_cases hx : ∃ n, x = .ptr n
    · obtain ⟨n, rfl⟩ := hx
      have e' : (ε.M[n]?).map MO.toD = some d := e
      obtain ⟨m, hm, rfl⟩ := Option.map_eq_some_iff.mp e'
      obtain ⟨p, q1, q2, q3⟩ := S.mo n m hm
      have h' : Rp Γ (cut H ow) v (.ptr n) := h
      cases h' with
      | ptr z => rw [q1] at z; cases z; exact .inr ⟨p, m, rfl, q3, rfl⟩
    · have e' : some x = some d := by
        rw [← e]
        cases x <;> first | rfl | exact absurd ⟨_, rfl⟩ hx
      cases e'
      exact .inl h
  | new m => cases e; obtain ⟨p, rfl, _, _, ho⟩ := h; exact .inr ⟨p, m, rfl, ho, rfl⟩
  | ex x => cases e
  | old i =>
    obtain ⟨m, hm, rfl⟩ := ownD_some e
    obtain ⟨p, h1, h2, h3⟩ := S.so i m hm
    have h' : σ[i]? = some (some v) := h
    rw [h1] at h'
    cases h'
    exact .inr ⟨p, m, rfl, h3, rfl⟩
theorem VR.carry {Γ : Gam} {ow ow' : OwF} {σ : L2.St} {H H' H0 H0' : Hp} {v : V} {val : Val} (h : VR Γ ow H0 σ H v (fzv val)) (fr : Fr ow H ow' H') : VR Γ ow' H0' σ H' v (fzv val) := by
  cases val with
  | d x => exact Rp.mono fr.sub h
  | new m => exact Rp.mono (d := m.toD) fr.sub h
  | old i => exact h
  | ex x => exact True.intro
theorem RpO.up {Γ : Gam} {F H : Hp} {v : V} {d : D} (h : RpO Γ F H v d) (s : Sub F H) : Rp Γ H v d := by
  rcases h with h | ⟨p, m, rfl, h, rfl⟩
  · exact h.mono s
  · exact ObjR.rp h s fun _ e => e
inductive Fresh (Γ : Gam) (F H : Hp) : V → Hp → Val → Prop
  | same {v : V} {d : D} : Rp Γ F v d → Fresh Γ F H v H (.d d)
  | tup {p : Addr} {o : Obj} {vs : List V} {ds : List D} : H p = none → o.dict = none → RpAll Γ F vs ds → ds.length ≤ 16777216 → Fresh Γ F H (.ref p) (upd H p (.frz o (.tup vs))) (.d (.tup ds))
  | pair {p : Addr} {vs : List V} {ds : List D} : H p = none → RpAll Γ F vs ds → Fresh Γ F H (.ref p) (upd H p (.tup vs)) (.d (.pair ds))
  | lst {p : Addr} {vs : List V} {ds : List D} : H p = none → RpAll Γ F vs ds → ds.length ≤ 16777216 → Fresh Γ F H (.ref p) (upd H p (.lst vs)) (.new (.lst ds))
  | dct {p : Addr} {ks : List L2.Key} {vs : List V} {ds : List D} : H p = none → vs.length = ks.length → RpAll Γ F vs ds → Fresh Γ F H (.ref p) (upd H p (.dK (ks.zip vs))) (.new (.dct ks ds))
theorem Fresh.sim {Γ : Gam} {ow : OwF} {ε : SE} {σ : L2.St} {H H' : Hp} {v : V} {val : Val} (S : Sim Γ ow ε σ H) (h : Fresh Γ (cut H ow) H v H' val) : ∃ ow', Sim Γ ow' ε σ H' ∧ Fr ow H ow' H' ∧ VR Γ ow' H σ H' v val := by
  cases h with
  | same h => exact ⟨ow, S, Fr.refl, h⟩
  | @tup p o vs ds hp hd r hl =>
    obtain ⟨S2, fr⟩ := S.alloc (o := .frz o (.tup vs)) hp none
    exact ⟨_, S2, fr, .tup (.inl ⟨o, cut_mk setO_same upd_same, hd⟩) (r.mono fr.sub) hl⟩
  | @pair p vs ds hp r =>
    obtain ⟨S2, fr⟩ := S.alloc (o := .tup vs) hp none
    exact ⟨_, S2, fr, .pair (SqT.of (cut_mk setO_same upd_same)) (r.mono fr.sub)⟩
  | @lst p vs ds hp r hl =>
    obtain ⟨S2, fr⟩ := S.alloc (o := .lst vs) hp (some .tmp)
    exact ⟨_, S2, fr, p, rfl, setO_same, hp, vs, upd_same, r.mono fr.sub, hl⟩
  | @dct p ks vs ds hp l r =>
    obtain ⟨S2, fr⟩ := S.alloc (o := .dK (ks.zip vs)) hp (some .tmp)
    exact ⟨_, S2, fr, p, rfl, setO_same, hp, vs, upd_same, l, r.mono fr.sub⟩

def eVar (i : Nat) : EM := fun ε => match ε.sl[i]? with | some (.d d) => some (.d d, ε) | some (.own _) => some (.old i, ε) | _ => none
def eC (d : D) : EM := fun ε => some (.d d, ε)
section
variable {X : Cx} {ct : Nat → Addr}
theorem de_var {i : Nat} {e : Expr} (h : PE X e (tVar i)) : PE X e (tE X.K ct (eVar i)) := h.imp fun σ H Q ⟨mu, ow, ε, val, ε', S, hf, k⟩ => by
  unfold eVar at hf
  split at hf
  · rename_i d hd
    cases hf
    obtain ⟨v, h1, h2⟩ := S.sd i d hd
    exact ⟨v, h1, k v H ow S Fr.refl h2⟩
  · rename_i m hm
    cases hf
    obtain ⟨p, h1, h2, h3⟩ := S.so i m hm
    exact ⟨_, h1, k _ H ow S Fr.refl h1⟩
  · cases hf
theorem de_c {v : V} {d : D} {e : Expr} (h : PE X e (tC v)) (r : ∀ Γ F, Rp Γ F v d) : PE X e (tE X.K ct (eC d)) := h.imp fun σ H Q ⟨mu, ow, ε, val, ε', S, hf, k⟩ => by
  cases hf
  exact k v H ow S Fr.refl (r _ _)
end

def OpS (K : PySem.W.Frag) (ct : Nat → Addr) (r : R2) (g : D → D → Option Val) : Prop :=
  ∀ (mu : Nat → Option Addr) (F H : Hp) (x y : V) (d e : D) (val : Val) (Q : VK), Sub F H → RpO ⟨K, ct, mu⟩ F H x d → RpO ⟨K, ct, mu⟩ F H y e → g d e = some val → (∀ v H', Fresh ⟨K, ct, mu⟩ F H v H' val → Q v H') → r x y H Q
def eOp (g : D → D → Option Val) (fa fb : EM) : EM := fun ε =>
  (fzE fa ε).bind fun ra => (fzE fb ra.2).bind fun rb => (ra.1.res rb.2).bind fun d => (rb.1.res rb.2).bind fun e => (g d e).map fun r => (r, rb.2)

section
variable {X : Cx} {ct : Nat → Addr}
theorem two {K : PySem.W.Frag} {mu : Nat → Option Addr} {fa fb : EM} {ow : OwF} {ε : SE} {σ : L2.St} {H : Hp} {ra rb : Val × SE} {d e : D} {R : V → V → Hp → Prop}
    (ea : fzE fa ε = some ra) (eb : fzE fb ra.2 = some rb) (ed : ra.1.res rb.2 = some d) (ee : rb.1.res rb.2 = some e) (S : Sim ⟨K, ct, mu⟩ ow ε σ H)
    (k : ∀ x y H2 ow2, Sim ⟨K, ct, mu⟩ ow2 rb.2 σ H2 → Fr ow H ow2 H2 → RpO ⟨K, ct, mu⟩ (cut H2 ow2) H2 x d → RpO ⟨K, ct, mu⟩ (cut H2 ow2) H2 y e → R x y H2) :
    tE K ct (fzE fa) σ H fun x H1 => tE K ct (fzE fb) σ H1 fun y H2 => R x y H2 := by
  refine ⟨mu, ow, ε, ra.1, ra.2, S, ea, fun x H1 ow1 S1 fr1 r1 => ⟨mu, ow1, ra.2, rb.1, rb.2, S1, eb, fun y H2 ow2 S2 fr2 r2 => ?_⟩⟩
  obtain ⟨va, ha, hv⟩ := fzE_some ea
  have r1' : VR ⟨K, ct, mu⟩ ow2 H1 σ H2 x ra.1 := by
    rw [hv] at r1 ⊢
    exact r1.carry fr2
  exact k x y H2 ow2 S2 (fr1.trans fr2) (VR.res S2 r1' ed) (VR.res S2 r2 ee)
end
end KD

set_option maxHeartbeats 4000000
namespace KD
open PySem L2
section
variable {X : Cx} {ct : Nat → Addr} {Γ : Gam}

theorem eOp_some {g : D → D → Option Val} {fa fb : EM} {ε : SE} {r : Val × SE} (h : eOp g fa fb ε = some r) :
    ∃ ra rb d e, fzE fa ε = some ra ∧ fzE fb ra.2 = some rb ∧ ra.1.res rb.2 = some d ∧ rb.1.res rb.2 = some e ∧ g d e = some r.1 ∧ r.2 = rb.2 := by
  unfold eOp at h
  cases h1 : fzE fa ε with
  | none => simp [h1] at h
  | some ra =>
    simp only [h1, Option.bind_some] at h
    cases h2 : fzE fb ra.2 with
    | none => simp [h2] at h
    | some rb =>
      simp only [h2, Option.bind_some] at h
      cases h3 : ra.1.res rb.2 with
      | none => simp [h3] at h
      | some d =>
        simp only [h3, Option.bind_some] at h
        cases h4 : rb.1.res rb.2 with
        | none => simp [h4] at h
        | some e =>
          simp only [h4, Option.bind_some] at h
          cases h5 : g d e with
          | none => simp [h5] at h
          | some v =>
            simp only [h5, Option.map_some, Option.some.injEq] at h
            exact ⟨ra, rb, d, e, rfl, h2, h3, h4, by rw [← h]; exact h5, by rw [← h]⟩
theorem op_imp {K : PySem.W.Frag} {r : R2} {g : D → D → Option Val} (hs : OpS K ct r g) {fa fb : EM} (σ : L2.St) (H : Hp) (Q : VK) (h : tE K ct (eOp g fa fb) σ H Q) :
    tOp r (tE K ct (fzE fa)) (tE K ct (fzE fb)) σ H Q := by
  obtain ⟨mu, ow, ε, val, ε', S, hf, k⟩ := h
  obtain ⟨ra, rb, d, e, e1, e2, e3, e4, e5, e6⟩ := eOp_some hf
  dsimp only at e5 e6
  subst e6
  refine two e1 e2 e3 e4 S fun x y H2 ow2 S2 fr rx ry => hs mu (cut H2 ow2) H2 x y d e val Q cut_sub rx ry e5 fun v H' hv => ?_
  obtain ⟨ow3, S3, fr3, v3⟩ := Fresh.sim S2 hv
  exact k v H' ow3 S3 (fr.trans fr3) (v3.back fun p hp => fr.none hp)
theorem de_op {op : Operator} {r : R2} {g : D → D → Option Val} {a b : Expr} {pos : Pos} {fa fb : EM} (ho : OpR X (binaryOp op) r) (hs : OpS X.K ct r g) (ha : PE X a (tE X.K ct fa)) (hb : PE X b (tE X.K ct fb)) :
    PE X (.BinOp a op b pos) (tE X.K ct (eOp g fa fb)) := (pe_op ho (de_fz ha) (de_fz hb)).imp (op_imp hs)
theorem de_cmp {op : CmpOp} {r : R2} {g : D → D → Option Val} {a b : Expr} {pos : Pos} {fa fb : EM} (ho : OpR X (compareOp op) r) (hs : OpS X.K ct r g) (ha : PE X a (tE X.K ct fa)) (hb : PE X b (tE X.K ct fb))
    (hm : behindInMarks op b = false) : PE X (.Compare a [op] [b] pos) (tE X.K ct (eOp g fa fb)) := (pe_cmpR ho (de_fz ha) (de_fz hb) hm).imp (op_imp hs)
theorem de_ix {r : R2} {g : D → D → Option Val} {a b : Expr} {pos : Pos} {fa fb : EM} (ho : IxR X r) (hs : OpS X.K ct r g) (ha : PE X a (tE X.K ct fa)) (hb : PE X b (tE X.K ct fb)) (hp : PlainIx b) :
    PE X (.Subscript a b pos) (tE X.K ct (eOp g fa fb)) := (pe_ix ho (de_fz ha) (de_fz hb) hp).imp (op_imp hs)

abbrev BM := SE → Option (Bool × SE)
def tT (K : PySem.W.Frag) (ct : Nat → Addr) (f : BM) : TT := fun σ H Q => ∃ mu ow ε b ε', Sim ⟨K, ct, mu⟩ ow ε σ H ∧ f ε = some (b, ε') ∧
  ∀ H' ow', Sim ⟨K, ct, mu⟩ ow' ε' σ H' → Fr ow H ow' H' → Q b H'
def toB : Val → Option Bool
  | .d (.bl b) => some b
  | _ => none
theorem toB_some {v : Val} {b : Bool} (h : toB v = some b) : v = .d (.bl b) := by
  unfold toB at h
  split at h
  · cases h; rfl
  · cases h
def eB (f : EM) : BM := fun ε => (f ε).bind fun r => (toB r.1).map fun b => (b, r.2)
theorem eB_some {f : EM} {ε : SE} {r : Bool × SE} (h : eB f ε = some r) : f ε = some (.d (.bl r.1), r.2) := by
  unfold eB at h
  cases e : f ε with
  | none => simp [e] at h
  | some x =>
    simp only [e, Option.bind_some] at h
    cases e2 : toB x.1 with
    | none => simp [e2] at h
    | some b =>
      simp only [e2, Option.map_some, Option.some.injEq] at h
      subst h
      have := toB_some e2
      rw [← this]
theorem rp_bl {F : Hp} {v : V} {b : Bool} (h : Rp Γ F v (.bl b)) : v = .bl b := by cases h; rfl
theorem test_imp {K : PySem.W.Frag} {f : EM} {t : TE} (i : ∀ σ H Q, tE K ct f σ H Q → t σ H Q) (σ : L2.St) (H : Hp) (Q : Bool → Hp → Prop) (h : tT K ct (eB f) σ H Q) : tTest t σ H Q := by
  obtain ⟨mu, ow, ε, b, ε', S, hf, k⟩ := h
  have e := eB_some hf
  exact i σ H _ ⟨mu, ow, ε, _, ε', S, e, fun v H' ow' S' fr r => ⟨b, rp_bl r, k H' ow' S' fr⟩⟩
theorem dt_cmp {op : CmpOp} {r : R2} {g : D → D → Option Val} {a b : Expr} {pos : Pos} {fa fb : EM} (ho : OpR X (compareOp op) r) (hs : OpS X.K ct r g) (ha : PE X a (tE X.K ct fa)) (hb : PE X b (tE X.K ct fb))
    (hm : behindInMarks op b = false) : PT X (.Compare a [op] [b] pos) (tT X.K ct (eB (eOp g fa fb))) := (pt_cmpR ho (de_fz ha) (de_fz hb) hm).imp (test_imp (op_imp hs))
def notB (f : BM) : BM := fun ε => (f ε).map fun r => (!r.1, r.2)
def andB (f g : BM) : BM := fun ε => (f ε).bind fun r => if r.1 = true then g r.2 else some (false, r.2)
def orB (f g : BM) : BM := fun ε => (f ε).bind fun r => if r.1 = true then some (true, r.2) else g r.2
theorem tT_then {K : PySem.W.Frag} {f : BM} {mu : Nat → Option Addr} {ow : OwF} {ε : SE} {σ : L2.St} {H : Hp} {r : Bool × SE} {P : Bool → Hp → Prop} (e : f ε = some r) (S : Sim ⟨K, ct, mu⟩ ow ε σ H)
    (k : ∀ H1 ow1, Sim ⟨K, ct, mu⟩ ow1 r.2 σ H1 → Fr ow H ow1 H1 → P r.1 H1) : tT K ct f σ H P := ⟨mu, ow, ε, r.1, r.2, S, e, k⟩
theorem dw_or {a b : Expr} {rest : List Expr} {pos : Pos} {f g : BM} (h : PT X a (tT X.K ct f)) (h2 : PW X (.BoolOp .Or (b :: rest) pos) (tT X.K ct g)) : PW X (.BoolOp .Or (a :: b :: rest) pos) (tT X.K ct (orB f g)) := by
  have q := pw_or h h2
  refine ⟨fun whole pins s σ H Q I hw => q.run whole pins s σ H Q I ?_⟩
  obtain ⟨mu, ow, ε, b', ε', S, hf, k⟩ := hw
  unfold orB at hf
  cases e : f ε with
  | none => simp [e] at hf
  | some r =>
    simp only [e, Option.bind_some] at hf
    refine tT_then e S fun H1 ow1 S1 fr1 => ?_
    by_cases c : r.1 = true
    · rw [if_pos c] at hf
      cases hf
      show if r.1 = true then _ else _
      rw [if_pos c]
      exact k H1 ow1 S1 fr1
    · rw [if_neg c] at hf
      show if r.1 = true then _ else _
      rw [if_neg c]
      exact ⟨mu, ow1, r.2, b', ε', S1, hf, fun H2 ow2 S2 fr2 => k H2 ow2 S2 (fr1.trans fr2)⟩
theorem dw_or1 {a : Expr} {pos : Pos} {f : BM} (h : PT X a (tT X.K ct f)) : PW X (.BoolOp .Or [a] pos) (tT X.K ct f) := pw_or1 h

def andE (f : EM) (g : EM) : EM := fun ε => (eB f ε).bind fun r => if r.1 = true then g r.2 else some (.d (.bl false), r.2)
def orE (f : EM) (g : EM) : EM := fun ε => (eB f ε).bind fun r => if r.1 = true then some (.d (.bl true), r.2) else g r.2
def notE (f : EM) : EM := fun ε => (eB f ε).map fun r => (.d (.bl (!r.1)), r.2)
def ifE (c : BM) (f g : EM) : EM := fun ε => (c ε).bind fun r => if r.1 = true then f r.2 else g r.2
theorem de_if {c a b : Expr} {pos : Pos} {tc : BM} {f g : EM} (hc : PT X c (tT X.K ct tc)) (ha : PE X a (tE X.K ct f)) (hb : PE X b (tE X.K ct g)) : PE X (.IfExp c a b pos) (tE X.K ct (ifE tc f g)) :=
  (pe_ifExp hc ha hb).imp fun σ H Q ⟨mu, ow, ε, val, ε', S, hf, k⟩ => by
    unfold ifE at hf
    cases e : tc ε with
    | none => simp [e] at hf
    | some r =>
      simp only [e, Option.bind_some] at hf
      refine tT_then e S fun H1 ow1 S1 fr1 => ?_
      by_cases c : r.1 = true
      · rw [if_pos c] at hf ⊢
        exact ⟨mu, ow1, r.2, val, ε', S1, hf, fun v H2 ow2 S2 fr2 r2 => k v H2 ow2 S2 (fr1.trans fr2) (r2.back fun p hp => fr1.none hp)⟩
      · rw [if_neg c] at hf ⊢
        exact ⟨mu, ow1, r.2, val, ε', S1, hf, fun v H2 ow2 S2 fr2 r2 => k v H2 ow2 S2 (fr1.trans fr2) (r2.back fun p hp => fr1.none hp)⟩
def truD : D → Option Bool
  | .non => some false
  | .bl b => some b
  | .int i => some (i != 0)
  | .str s => some ((s.length : Int) != 0)
  | .tup l => some (!l.isEmpty)
  | .lst l => some (!l.isEmpty)
  | .dct ks _ => some (!ks.isEmpty)
  | _ => none
def truB (f : EM) : BM := fun ε => (fzE f ε).bind fun r => (r.1.res r.2).bind fun d => (truD d).map fun b => (b, r.2)
end
end KD

set_option maxHeartbeats 4000000
namespace KD
open PySem L2
section
variable {X : Cx} {ct : Nat → Addr} {Γ : Gam}

def VRs (Γ : Gam) (ow : OwF) (H0 : Hp) (σ : L2.St) (H : Hp) : List V → List Val → Prop
  | [], [] => True
  | v :: vs, a :: as => VR Γ ow H0 σ H v (fzv a) ∧ VRs Γ ow H0 σ H vs as
  | _, _ => False
theorem fzv_fzv (v : Val) : fzv (fzv v) = fzv v := by cases v <;> rfl
theorem VRs.carry {ow ow' : OwF} {σ : L2.St} {H H' H0 H0' : Hp} (fr : Fr ow H ow' H') : ∀ {vs : List V} {as : List Val}, VRs Γ ow H0 σ H vs as → VRs Γ ow' H0' σ H' vs as
  | [], [], _ => trivial
  | v :: vs, a :: as, h => ⟨h.1.carry fr, VRs.carry fr h.2⟩
  | [], _ :: _, h => h
  | _ :: _, [], h => h
def tA (K : PySem.W.Frag) (ct : Nat → Addr) (f : AM) : TA := fun σ H Q => ∃ mu ow ε vals ε', Sim ⟨K, ct, mu⟩ ow ε σ H ∧ f ε = some (vals, ε') ∧
  ∀ vs H' ow', Sim ⟨K, ct, mu⟩ ow' ε' σ H' → Fr ow H ow' H' → VRs ⟨K, ct, mu⟩ ow' H' σ H' vs vals → Q vs H'
def aNil : AM := fun ε => some ([], ε)
def aCons (f : EM) (g : AM) : AM := fun ε => (fzE f ε).bind fun r => (g r.2).map fun q => (r.1 :: q.1, q.2)
theorem aCons_some {f : EM} {g : AM} {ε : SE} {r : List Val × SE} (h : aCons f g ε = some r) : ∃ ra rb, fzE f ε = some ra ∧ g ra.2 = some rb ∧ r = (ra.1 :: rb.1, rb.2) := by
  unfold aCons at h
  cases e : fzE f ε with
  | none => simp [e] at h
  | some ra =>
    simp only [e, Option.bind_some] at h
    cases e2 : g ra.2 with
    | none => simp [e2] at h
    | some rb => simp only [e2, Option.map_some, Option.some.injEq] at h; exact ⟨ra, rb, rfl, e2, h.symm⟩
theorem da_nil : PA X [] (tA X.K ct aNil) := pa_nil.imp fun σ H Q ⟨mu, ow, ε, vals, ε', S, hf, k⟩ => by
  cases hf
  exact k [] H ow S Fr.refl trivial
theorem da_cons {e : Expr} {es : List Expr} {f : EM} {g : AM} (h : PE X e (tE X.K ct f)) (h2 : PA X es (tA X.K ct g)) (hs : starEach (e :: es) X.env = (false, eval e X.env) :: starEach es X.env := by rfl) : PA X (e :: es) (tA X.K ct (aCons f g)) :=
  (pa_cons (de_fz h) h2 hs).imp fun σ H Q ⟨mu, ow, ε, vals, ε', S, hf, k⟩ => by
    obtain ⟨ra, rb, e1, e2, e3⟩ := aCons_some hf
    cases e3
    refine ⟨mu, ow, ε, ra.1, ra.2, S, e1, fun x H1 ow1 S1 fr1 r1 => ⟨mu, ow1, ra.2, rb.1, rb.2, S1, e2, fun xs H2 ow2 S2 fr2 r2 => k (x :: xs) H2 ow2 S2 (fr1.trans fr2) ⟨?_, r2⟩⟩⟩
    obtain ⟨va, ha, hv⟩ := fzE_some e1
    rw [hv] at r1 ⊢
    rw [fzv_fzv]
    exact r1.carry fr2
def resL (ε : SE) : List Val → Option (List D)
  | [] => some []
  | v :: vs => (v.res ε).bind fun d => (resL ε vs).map fun ds => d :: ds
theorem resL_cons {ε : SE} {v : Val} {vs : List Val} {ds : List D} (h : resL ε (v :: vs) = some ds) : ∃ d es, v.res ε = some d ∧ resL ε vs = some es ∧ ds = d :: es := by
  unfold resL at h
  cases e : v.res ε with
  | none => simp [e] at h
  | some d =>
    simp only [e, Option.bind_some] at h
    cases e2 : resL ε vs with
    | none => simp [e2] at h
    | some es => simp only [e2, Option.map_some, Option.some.injEq] at h; exact ⟨d, es, rfl, rfl, h.symm⟩
theorem fzv_res {ε : SE} (v : Val) : (fzv v).res ε = v.res ε := by
  cases v with
  | new m => cases m <;> rfl
  | d _ => rfl
  | old _ => rfl
  | ex _ => rfl
theorem VRs.res {ow : OwF} {ε : SE} {σ : L2.St} {H H0 : Hp} (S : Sim Γ ow ε σ H) : ∀ {vs : List V} {as : List Val} {ds : List D}, VRs Γ ow H0 σ H vs as → resL ε as = some ds → Paired (RpO Γ (cut H ow) H) vs ds
  | [], [], ds, _, e => by cases e; exact .nil
  | v :: vs, a :: as, ds, h, e => by
    obtain ⟨d, es, h1, h2, rfl⟩ := resL_cons e
    exact .cons (VR.res S h.1 (by rw [fzv_res]; exact h1)) (VRs.res S h.2 h2)
  | [], _ :: _, _, h, _ => h.elim
  | _ :: _, [], _, h, _ => h.elim

def CallS (K : PySem.W.Frag) (ct : Nat → Addr) (r : List V → Hp → VK → Prop) (g : List D → Option Val) : Prop :=
  ∀ (mu : Nat → Option Addr) (F H : Hp) (xs : List V) (ds : List D) (val : Val) (Q : VK), Sub F H → Paired (RpO ⟨K, ct, mu⟩ F H) xs ds → g ds = some val → (∀ v H', Fresh ⟨K, ct, mu⟩ F H v H' val → Q v H') → r xs H Q
def eCB (g : List D → Option Val) (f : AM) : EM := fun ε => (f ε).bind fun r => (resL r.2 r.1).bind fun ds => (g ds).map fun v => (v, r.2)
theorem eCB_some {g : List D → Option Val} {f : AM} {ε : SE} {r : Val × SE} (h : eCB g f ε = some r) : ∃ ra ds, f ε = some ra ∧ resL ra.2 ra.1 = some ds ∧ g ds = some r.1 ∧ r.2 = ra.2 := by
  unfold eCB at h
  cases e : f ε with
  | none => simp [e] at h
  | some ra =>
    simp only [e, Option.bind_some] at h
    cases e2 : resL ra.2 ra.1 with
    | none => simp [e2] at h
    | some ds =>
      simp only [e2, Option.bind_some] at h
      cases e3 : g ds with
      | none => simp [e3] at h
      | some v => simp only [e3, Option.map_some, Option.some.injEq] at h; exact ⟨ra, ds, rfl, e2, by rw [← h]; exact e3, by rw [← h]⟩
theorem cb_imp {r : List V → Hp → VK → Prop} {g : List D → Option Val} {K : PySem.W.Frag} (hs : CallS K ct r g) {f : AM} (σ : L2.St) (H : Hp) (Q : VK) (h : tE K ct (eCB g f) σ H Q) : tCB r (tA K ct f) σ H Q := by
  obtain ⟨mu, ow, ε, val, ε', S, hf, k⟩ := h
  obtain ⟨ra, ds, e1, e2, e3, e4⟩ := eCB_some hf
  dsimp only at e3 e4
  subst e4
  refine ⟨mu, ow, ε, ra.1, ra.2, S, e1, fun vs H1 ow1 S1 fr1 r1 => hs mu (cut H1 ow1) H1 vs ds val Q cut_sub (VRs.res S1 r1 e2) e3 fun v H' hv => ?_⟩
  obtain ⟨ow3, S3, fr3, v3⟩ := Fresh.sim S1 hv
  exact k v H' ow3 S3 (fr1.trans fr3) (v3.back fun p hp => fr1.none hp)
theorem de_callB {id : String} {x : Str} {p pos : Pos} {e : Expr} {es : List Expr} {f : AM} {r : List V → Hp → VK → Prop} {g : List D → Option Val} (hs : CallS X.K ct r g) (hc : CallR X (.builtin id) r) (ha : PA X (e :: es) (tA X.K ct f)) (hm : X.mg x = none) (hg : Gl X x := by rfl)
    (hv : bootBuiltins x = some (.builtin id) := by decide +kernel) (hn : x ≠ "__name__" := by decide) (hdb : (x == ("__debug__" : Str)) = false := by decide)
    (he : starEach (e :: es) X.env = (false, eval e X.env) :: starEach es X.env := by rfl) (hpl : (backTo pos (starEach es X.env)).any (·.1) = false := by rfl) : PE X (.Call (.Name x p) (e :: es) [] pos) (tE X.K ct (eCB g f)) :=
  (pe_callB hc hg hm hv ha hn hdb he hpl).imp (cb_imp hs)
theorem de_callTy {T : String} {x : Str} {p pos : Pos} {e : Expr} {es : List Expr} {f : AM} {r : List V → Hp → VK → Prop} {g : List D → Option Val} (hs : CallS X.K ct r g) (hc : CallR X (.type T) r) (ha : PA X (e :: es) (tA X.K ct f)) (hm : X.mg x = none) (hg : Gl X x := by rfl)
    (hv : bootBuiltins x = some (.type T) := by decide +kernel) (hn : x ≠ "__name__" := by decide) (hdb : (x == ("__debug__" : Str)) = false := by decide)
    (he : starEach (e :: es) X.env = (false, eval e X.env) :: starEach es X.env := by rfl) (hpl : (backTo pos (starEach es X.env)).any (·.1) = false := by rfl) : PE X (.Call (.Name x p) (e :: es) [] pos) (tE X.K ct (eCB g f)) :=
  (pe_callTy hc hg hm hv ha hn hdb he hpl).imp (cb_imp hs)
def eBM (p : D → Bool) (g : D → List D → Option Val) (fo : EM) (f : AM) : EM := fun ε => (fzE fo ε).bind fun ro => (ro.1.res ro.2).bind fun d0 => if p d0 = true then
  (f ro.2).bind fun r => (ro.1.res r.2).bind fun d => (resL r.2 r.1).bind fun ds => (g d ds).map fun v => (v, r.2) else none
def eBM0 (p : D → Bool) (g : D → List D → Option Val) (fo : EM) : EM := eBM p g fo aNil
def setS (ε : SE) (i : Nat) (s : Sl) : SE := { ε with sl := ε.sl.set i s }
def escV (ε : SE) : Val → Option (D × SE)
  | .d x => some (x, ε)
  | .new m => some (m.toD, ε)
  | .old i => match ε.sl[i]? with
    | some (.own m) => some (m.toD, setS ε i (.d m.toD))
    | some (.d x) => some (x, ε)
    | _ => none
  | .ex _ => none
theorem Sim.freezeSlot {ow : OwF} {ε : SE} {σ : L2.St} {H : Hp} {i : Nat} {m : MO} {p : Addr} (S : Sim Γ ow ε σ H) (hs : ε.sl[i]? = some (.own m)) (hp : σ[i]? = some (some (.ref p))) :
    Sim Γ (setO ow p none) (setS ε i (.d m.toD)) σ H ∧ Rp Γ (cut H (setO ow p none)) (.ref p) m.toD ∧ ow p = some (.slot i) := by
  obtain ⟨p', h1, h2, h3⟩ := S.so i m hs
  rw [hp] at h1
  cases h1
  have s : Sub (cut H ow) (cut H (setO ow p none)) := fun a o h => by
    obtain ⟨h1, h2'⟩ := cut_of h
    have n : a ≠ p := by rintro rfl; rw [h2] at h1; cases h1
    exact cut_mk (by rw [setO_ne n]; exact h1) h2'
  have rp : Rp Γ (cut H (setO ow p none)) (.ref p) m.toD := ObjR.rp h3 s fun o e => cut_mk setO_same e
  have hil : i < ε.sl.length := (List.getElem?_eq_some_iff.mp hs).1
  refine ⟨⟨by rw [S.len]; show _ = (ε.sl.set i _).length; rw [List.length_set], fun j d e => ?_, fun j m' e => ?_, fun n m' e => ?_⟩, rp, h2⟩
  · have e' : (ε.sl.set i (.d m.toD))[j]? = some (.d d) := e
    by_cases hj : i = j
    · subst hj
      rw [List.getElem?_set_self hil] at e'
      cases e'
      exact ⟨_, hp, rp⟩
    · rw [List.getElem?_set_ne hj] at e'
      obtain ⟨v, q1, q2⟩ := S.sd j d e'
      exact ⟨v, q1, q2.mono s⟩
  · have e' : (ε.sl.set i (.d m.toD))[j]? = some (.own m') := e
    by_cases hj : i = j
    · subst hj
      rw [List.getElem?_set_self hil] at e'
      cases e'
    · rw [List.getElem?_set_ne hj] at e'
      obtain ⟨q, q1, q2, q3⟩ := S.so j m' e'
      have n : q ≠ p := by rintro rfl; rw [h2] at q2; cases q2; exact hj rfl
      exact ⟨q, q1, by rw [setO_ne n]; exact q2, ObjR.mono q3 s fun _ e => e⟩
  · obtain ⟨q, q1, q2, q3⟩ := S.mo n m' e
    have n : q ≠ p := by rintro rfl; rw [h2] at q2; cases q2
    exact ⟨q, q1, by rw [setO_ne n]; exact q2, ObjR.mono q3 s fun _ e => e⟩
theorem Fr.unslot {ow : OwF} {H : Hp} {p : Addr} {i : Nat} {w : Option Ow} (h : ow p = some (.slot i)) : Fr ow H (setO ow p w) H := by
  have ne : ∀ a w', ow a = w' → w' ≠ some (.slot i) → a ≠ p := fun a w' e n z => by subst z; exact n (e.symm.trans h)
  refine ⟨fun a o h' e => ⟨by rw [setO_ne (ne a _ e (by simp))]; exact e, h'⟩, fun a o w' h' e q => ⟨?_, h'⟩, fun a o h' => ⟨o, h'⟩, fun a o n h' e => ?_⟩
  · rw [setO_ne (ne a _ e (by rcases q with rfl | rfl <;> simp))]; exact e
  · rw [setO_ne (ne a _ e (by simp))]; exact e
theorem VR.esc {ow : OwF} {ε ε' : SE} {σ : L2.St} {H H0 : Hp} {v : V} {val : Val} {d : D} (S : Sim Γ ow ε σ H) (h : VR Γ ow H0 σ H v (fzv val)) (e : escV ε (fzv val) = some (d, ε')) :
    ∃ ow', Sim Γ ow' ε' σ H ∧ Fr ow H ow' H ∧ Rp Γ (cut H ow') v d := by
  cases val with
  | d x => cases e; exact ⟨ow, S, Fr.refl, h⟩
  | new m => cases e; exact ⟨ow, S, Fr.refl, h⟩
  | ex x => cases e
  | old i =>
    have h' : σ[i]? = some (some v) := h
    have e' : (match ε.sl[i]? with | some (.own m) => some (m.toD, setS ε i (.d m.toD)) | some (.d x) => some (x, ε) | _ => none) = some (d, ε') := e
    split at e'
    · rename_i m hm
      cases e'
      obtain ⟨p, h1, _, _⟩ := S.so i m hm
      rw [h'] at h1
      cases h1
      obtain ⟨S2, rp, ho⟩ := S.freezeSlot hm h'
      exact ⟨_, S2, Fr.unslot ho, rp⟩
    · rename_i x hx
      cases e'
      obtain ⟨v', h1, h2⟩ := S.sd i d hx
      rw [h'] at h1
      cases h1
      exact ⟨ow, S, Fr.refl, h2⟩
    · cases e'
def escL : SE → List Val → Option (List D × SE)
  | ε, [] => some ([], ε)
  | ε, v :: vs => (escV ε (fzv v)).bind fun r => (escL r.2 vs).map fun q => (r.1 :: q.1, q.2)
theorem escL_cons {ε : SE} {v : Val} {vs : List Val} {r : List D × SE} (h : escL ε (v :: vs) = some r) : ∃ ra rb, escV ε (fzv v) = some ra ∧ escL ra.2 vs = some rb ∧ r = (ra.1 :: rb.1, rb.2) := by
  unfold escL at h
  cases e : escV ε (fzv v) with
  | none => simp [e] at h
  | some ra =>
    simp only [e, Option.bind_some] at h
    cases e2 : escL ra.2 vs with
    | none => simp [e2] at h
    | some rb => simp only [e2, Option.map_some, Option.some.injEq] at h; exact ⟨ra, rb, rfl, e2, h.symm⟩
theorem VRs.esc {H0 : Hp} {σ : L2.St} {H : Hp} : ∀ {ow : OwF} {ε : SE} {vs : List V} {as : List Val} {ds : List D} {ε' : SE}, Sim Γ ow ε σ H → VRs Γ ow H0 σ H vs as → escL ε as = some (ds, ε') →
    ∃ ow', Sim Γ ow' ε' σ H ∧ Fr ow H ow' H ∧ RpAll Γ (cut H ow') vs ds
  | ow, ε, [], [], ds, ε', S, _, e => by cases e; exact ⟨ow, S, Fr.refl, .nil⟩
  | ow, ε, v :: vs, a :: as, ds, ε', S, h, e => by
    obtain ⟨ra, rb, e1, e2, e3⟩ := escL_cons e
    cases e3
    obtain ⟨ow1, S1, fr1, r1⟩ := VR.esc S h.1 e1
    obtain ⟨ow2, S2, fr2, r2⟩ := VRs.esc (ow := ow1) (ε := ra.2) (vs := vs) (as := as) (ds := rb.1) (ε' := rb.2) S1 (h.2.carry (H0' := H0) fr1) e2
    exact ⟨ow2, S2, fr1.trans fr2, .cons (r1.mono fr2.sub) r2⟩
  | _, _, [], _ :: _, _, _, _, h, _ => h.elim
  | _, _, _ :: _, [], _, _, _, h, _ => h.elim

def eTup (f : AM) : EM := fun ε => (f ε).bind fun r => (escL r.2 r.1).bind fun q => if q.1.length ≤ 16777216 then some (.d (.tup q.1), q.2) else none
def eLst (f : AM) : EM := fun ε => (f ε).bind fun r => (escL r.2 r.1).bind fun q => if q.1.length ≤ 16777216 then some (.new (.lst q.1), q.2) else none
theorem sz_line {n : Nat} (h : n ≤ 16777216) : n ≤ sizeLine := by rw [sizeLine_eq]; exact h
theorem disp_some {f : AM} {w : List D → Val} {ε : SE} {r : Val × SE} (h : ((f ε).bind fun r => (escL r.2 r.1).bind fun q => if q.1.length ≤ 16777216 then some (w q.1, q.2) else none) = some r) :
    ∃ ra rb, f ε = some ra ∧ escL ra.2 ra.1 = some rb ∧ rb.1.length ≤ 16777216 ∧ r = (w rb.1, rb.2) := by
  cases e : f ε with
  | none => simp [e] at h
  | some ra =>
    simp only [e, Option.bind_some] at h
    cases e2 : escL ra.2 ra.1 with
    | none => simp [e2] at h
    | some rb =>
      simp only [e2, Option.bind_some] at h
      by_cases hl : rb.1.length ≤ 16777216
      · rw [if_pos hl] at h; cases h; exact ⟨ra, rb, rfl, e2, hl, rfl⟩
      · rw [if_neg hl] at h; cases h
def tTupF (t : TA) : TE := fun σ H Q => t σ H fun xs H1 => xs.length ≤ sizeLine ∧ ∀ p o, H1 p = none → o.dict = none → Q (.ref p) (upd H1 p (.frz o (.tup xs)))
theorem pe_tupF {es : List Expr} {t : TA} {pos : Pos} {x1} (h : PA X es t) : PE X (.Tuple es x1 pos) (tTupF t) := by
  refine ⟨fun pins s σ H Q I hq => ?_⟩
  refine wpAny_Tuple_spliced (thn (h.run pos pins s σ H _ I hq) fun us s1 ⟨xs, H1, I1, r, z, q⟩ => ⟨by rw [← r.length]; exact z, ?_⟩)
  have hf : H1 s1.heap.objs.size = none := I1.hok.fresh (Nat.le_refl _)
  refine ⟨.ref s1.heap.objs.size, _, I1.laid (t' := s1.toks) (o := .frz { cls := .type "tuple", data := .seq us.toArray } (.tup xs)) (fun b u e => Heap.get?_push_of_some _ e) (Nat.le_refl _) ?_, rfl, q _ _ hf rfl⟩
  exact ⟨Heap.get?_push_size _ rfl, z, us, r, ⟨_, Heap.get?_push_size _ rfl, rfl, _, rfl⟩⟩
theorem de_tup {es : List Expr} {x1} {pos : Pos} {f : AM} (h : PA X es (tA X.K ct f)) : PE X (.Tuple es x1 pos) (tE X.K ct (eTup f)) := (pe_tupF h).imp fun σ H Q ⟨mu, ow, ε, val, ε', S, hf, k⟩ => by
  obtain ⟨ra, rb, e1, e2, e3, e4⟩ := disp_some (w := fun l => .d (.tup l)) hf
  cases e4
  refine ⟨mu, ow, ε, ra.1, ra.2, S, e1, fun vs H1 ow1 S1 fr1 r1 => ?_⟩
  obtain ⟨ow2, S2, fr2, r2⟩ := VRs.esc S1 r1 e2
  refine ⟨sz_line (by rw [r2.length]; exact e3), fun p o hp ho => ?_⟩
  obtain ⟨ow3, S3, fr3, v3⟩ := Fresh.sim S2 (.tup hp ho r2 e3)
  exact k _ _ ow3 S3 ((fr1.trans fr2).trans fr3) (v3.back fun p hp => (fr1.trans fr2).none hp)
theorem de_lst {es : List Expr} {pos : Pos} {f : AM} (h : PA X es (tA X.K ct f)) : PE X (.List es pos) (tE X.K ct (eLst f)) := (pe_lst h).imp fun σ H Q ⟨mu, ow, ε, val, ε', S, hf, k⟩ => by
  obtain ⟨ra, rb, e1, e2, e3, e4⟩ := disp_some (w := fun l => .new (.lst l)) hf
  cases e4
  refine ⟨mu, ow, ε, ra.1, ra.2, S, e1, fun vs H1 ow1 S1 fr1 r1 => ?_⟩
  obtain ⟨ow2, S2, fr2, r2⟩ := VRs.esc S1 r1 e2
  refine ⟨sz_line (by rw [r2.length]; exact e3), fun p hp => ?_⟩
  obtain ⟨ow3, S3, fr3, v3⟩ := Fresh.sim S2 (.lst hp r2 e3)
  exact k _ _ ow3 S3 ((fr1.trans fr2).trans fr3) (v3.back fun p hp => (fr1.trans fr2).none hp)
end
end KD

set_option maxHeartbeats 4000000
namespace KD
open PySem L2
section
variable {X : Cx} {ct : Nat → Addr} {Γ : Gam}

theorem zip_lookup {F : Hp} {f : Str} {d : D} : ∀ {ns : List Str} {vs : List V} {ds : List D}, RpAll Γ F vs ds → (ns.zip ds).lookup f = some d → ∃ v, (ns.zip vs).lookup f = some v ∧ Rp Γ F v d
  | [], _, _, _, h => by simp at h
  | n :: ns, _, _, .nil, h => by simp at h
  | n :: ns, _, _, .cons (v := v) (vs := vs) (d := e) (ds := es) hv r, h => by
    simp only [List.zip_cons_cons, List.lookup_cons] at h ⊢
    by_cases c : (f == n) = true
    · rw [c] at h ⊢; cases h; exact ⟨v, rfl, hv⟩
    · have c' : (f == n) = false := by simpa using c
      rw [c'] at h ⊢; exact zip_lookup r h
def insD (ε : SE) : D → Option (Nat × List Str × List D)
  | .ins c ns ds => some (c, ns, ds)
  | .ptr n => match ε.M[n]? with | some (.ins c ns ds) => some (c, ns, ds) | _ => none
  | _ => none
def eFld (c : Nat) (f : Str) (fo : EM) : EM := fun ε => (fzE fo ε).bind fun r => (r.1.res r.2).bind fun d => match insD r.2 d with
  | some (c', ns, ds) => if c' = c then ((ns.zip ds).lookup f).map fun x => (.d x, r.2) else none
  | none => none
abbrev FM := List D → List MO → Option (Val × List MO)
def NoLoc (ow : OwF) : Prop := ∀ a w, ow a = some w → w = .ext ∨ ∃ n, w = .obj n
def extO (ow : OwF) : OwF := fun a => match ow a with
  | none => none
  | some (.obj n) => some (.obj n)
  | some _ => some .ext
theorem extO_none {ow : OwF} {a : Addr} : extO ow a = none ↔ ow a = none := by
  unfold extO
  cases e : ow a with
  | none => simp
  | some w => cases w <;> simp
theorem extO_obj {ow : OwF} {a : Addr} {n : Nat} : extO ow a = some (.obj n) ↔ ow a = some (.obj n) := by
  unfold extO
  cases e : ow a with
  | none => simp
  | some w => cases w <;> simp
theorem extO_ext {ow : OwF} {a : Addr} {w : Ow} (h : ow a = some w) (n : ∀ k, w ≠ .obj k) : extO ow a = some .ext := by
  unfold extO
  rw [h]
  cases w <;> first | rfl | exact absurd rfl (n _)
theorem extO_noLoc (ow : OwF) : NoLoc (extO ow) := fun a w h => by
  unfold extO at h
  cases e : ow a with
  | none => simp [e] at h
  | some w' => cases w' <;> simp [e] at h <;> subst h <;> simp
theorem cut_ext {H : Hp} {ow : OwF} : cut H (extO ow) = cut H ow := by
  funext a
  unfold cut extO
  cases ow a with
  | none => rfl
  | some w => cases w <;> rfl
def VRf (Γ : Gam) (ow : OwF) (H0 H : Hp) (v : V) : Val → Prop
  | .d d => Rp Γ (cut H ow) v d
  | .new m => ∃ p, v = .ref p ∧ ow p = some .tmp ∧ H0 p = none ∧ ObjR Γ (cut H ow) H p m
  | .old _ => False
  | .ex _ => True
def FnS (K : PySem.W.Frag) (ct : Nat → Addr) (n : Nat) (f : FM) : Sp := fun vs H Q _ => vs.length = n ∧ ∃ mu ow ds M r, NoLoc ow ∧ RpAll ⟨K, ct, mu⟩ (cut H ow) vs ds ∧ MSim ⟨K, ct, mu⟩ ow M H ∧ f ds M = some r ∧
  ∀ v H' ow', MSim ⟨K, ct, mu⟩ ow' r.2 H' → Fr ow H ow' H' → VRf ⟨K, ct, mu⟩ ow' H H' v r.1 → Q v H'
def backO (ow : OwF) (H : Hp) (ow' : OwF) : OwF := fun a => match H a with
  | some _ => ow a
  | none => match ow' a with
    | some .tmp => some .tmp
    | _ => none
theorem backO_old {ow ow' : OwF} {H : Hp} {a : Addr} {o : HO} (h : H a = some o) : backO ow H ow' a = ow a := by unfold backO; rw [h]
theorem backO_new {ow ow' : OwF} {H : Hp} {a : Addr} (h : H a = none) (e : ow' a = none) : backO ow H ow' a = none := by unfold backO; rw [h, e]
theorem backO_tmp {ow ow' : OwF} {H : Hp} {a : Addr} (h : H a = none) (e : ow' a = some .tmp) : backO ow H ow' a = some .tmp := by unfold backO; rw [h, e]
theorem call_back {ow ow' : OwF} {ε : SE} {σ : L2.St} {H H' : Hp} {M' : List MO} (S : Sim Γ ow ε σ H) (hl : M'.length = ε.M.length) (m : MSim Γ ow' M' H') (fr : Fr (extO ow) H ow' H') :
    Sim Γ (backO ow H ow') { ε with M := M' } σ H' ∧ Fr ow H (backO ow H ow') H' ∧ Sub (cut H' ow') (cut H' (backO ow H ow')) := by
  have keep : ∀ a o, H a = some o → ow' a = none → ow a = none := fun a o h e => by
    cases q : ow a with
    | none => rfl
    | some w =>
      by_cases z : ∃ n, w = .obj n
      · obtain ⟨n, rfl⟩ := z
        have := fr.ob a o n h (extO_obj.mpr q)
        rw [e] at this; cases this
      · have := (fr.ke a o .ext h (extO_ext q fun n z' => z ⟨n, z'⟩) (.inr rfl)).1
        rw [e] at this; cases this
  have s2 : Sub (cut H' ow') (cut H' (backO ow H ow')) := fun a o h => by
    obtain ⟨h1, h2⟩ := cut_of h
    cases q : H a with
    | none => exact cut_mk (backO_new q h1) h2
    | some o' => exact cut_mk (by rw [backO_old q]; exact keep a o' q h1) h2
  have frb : Fr ow H (backO ow H ow') H' := ⟨fun a o h e => by
      rw [backO_old h]; exact ⟨e, (fr.fz a o h (extO_none.mpr e)).2⟩,
    fun a o w h e q => by
      rw [backO_old h]
      exact ⟨e, (fr.ke a o .ext h (extO_ext e (by rcases q with rfl | rfl <;> simp)) (.inr rfl)).2⟩,
    fr.tr, fun a o n h e => by rw [backO_old h]; exact e⟩
  refine ⟨⟨S.len, fun i d e => ?_, fun i mm e => ?_, fun n mo e => ?_⟩, frb, s2⟩
  · obtain ⟨v, h1, h2⟩ := S.sd i d e
    exact ⟨v, h1, h2.mono frb.sub⟩
  · obtain ⟨p, h1, h2, h3⟩ := S.so i mm e
    obtain ⟨o, ho⟩ := ObjR.has h3
    refine ⟨p, h1, by rw [backO_old ho]; exact h2, ObjR.mono h3 frb.sub fun o' e' => ?_⟩
    exact (fr.ke p o' .ext e' (extO_ext h2 (by simp)) (.inr rfl)).2
  obtain ⟨p, h1, h2, h3⟩ := m n mo e
  have hn : n < ε.M.length := by rw [← hl]; exact (List.getElem?_eq_some_iff.mp e).1
  obtain ⟨p', q1, q2, q3⟩ := S.mo n _ (List.getElem?_eq_getElem hn)
  rw [h1] at q1
  cases q1
  obtain ⟨o, ho⟩ := ObjR.has q3
  exact ⟨p, h1, by rw [backO_old ho]; exact q2, ObjR.mono h3 s2 fun _ e => e⟩
def eCall (f : FM) (dd : List D) (fa : AM) : EM := fun ε => (fa ε).bind fun r => (escL r.2 r.1).bind fun q => (f (q.1 ++ dd) q.2.M).bind fun o => if o.2.length = q.2.M.length then some (o.1, { q.2 with M := o.2 }) else none
theorem eCall_some {f : FM} {dd : List D} {fa : AM} {ε : SE} {r : Val × SE} (h : eCall f dd fa ε = some r) :
    ∃ ra q o, fa ε = some ra ∧ escL ra.2 ra.1 = some q ∧ f (q.1 ++ dd) q.2.M = some o ∧ o.2.length = q.2.M.length ∧ r = (o.1, { q.2 with M := o.2 }) := by
  unfold eCall at h
  cases e : fa ε with
  | none => simp [e] at h
  | some ra =>
    simp only [e, Option.bind_some] at h
    cases e2 : escL ra.2 ra.1 with
    | none => simp [e2] at h
    | some q =>
      simp only [e2, Option.bind_some] at h
      cases e3 : f (q.1 ++ dd) q.2.M with
      | none => simp [e3] at h
      | some o =>
        simp only [e3, Option.bind_some] at h
        by_cases hl : o.2.length = q.2.M.length
        · rw [if_pos hl] at h; cases h; exact ⟨ra, q, o, rfl, e2, e3, hl, rfl⟩
        · rw [if_neg hl] at h; cases h
theorem fn_use {K : PySem.W.Frag} {mu : Nat → Option Addr} {n : Nat} {f : FM} {ow0 ow : OwF} {ε : SE} {σ : L2.St} {H0 H : Hp} {vs : List V} {ds : List D} {o : Val × List MO} {Q : VK} {E : XK}
    (S : Sim ⟨K, ct, mu⟩ ow ε σ H) (fr0 : Fr ow0 H0 ow H) (r : RpAll ⟨K, ct, mu⟩ (cut H ow) vs ds) (hn : vs.length = n) (e : f ds ε.M = some o) (hl : o.2.length = ε.M.length)
    (k : ∀ v H' ow', Sim ⟨K, ct, mu⟩ ow' { ε with M := o.2 } σ H' → Fr ow0 H0 ow' H' → VR ⟨K, ct, mu⟩ ow' H0 σ H' v o.1 → Q v H') : FnS K ct n f vs H Q E := by
  refine ⟨hn, mu, extO ow, ds, ε.M, o, extO_noLoc ow, by rw [cut_ext]; exact r, fun j m hj => ?_, e, fun v H' ow' M' fr rv => ?_⟩
  · obtain ⟨p, h1, h2, h3⟩ := S.mo j m hj
    exact ⟨p, h1, extO_obj.mpr h2, by rw [cut_ext]; exact h3⟩
  · obtain ⟨S2, fr2, s2⟩ := call_back S hl M' fr
    refine k v H' _ S2 (fr0.trans fr2) ?_
    cases ho : o.1 with
    | d x =>
      rw [ho] at rv
      exact Rp.mono s2 rv
    | new m =>
      rw [ho] at rv
      obtain ⟨p, h1, h2, h3, h4⟩ := rv
      exact ⟨p, h1, backO_tmp h3 h2, fr0.none h3, ObjR.mono h4 s2 fun _ e => e⟩
    | old i =>
      rw [ho] at rv
      exact rv.elim
    | ex x => exact True.intro
theorem RpAll.sub0 {K : PySem.W.Frag} {dvs : List V} {dd : List D} (h : ∀ mu F, RpAll ⟨K, ct, mu⟩ F dvs dd) {mu : Nat → Option Addr} {F : Hp} {vs : List V} {ds : List D} (r : RpAll ⟨K, ct, mu⟩ F vs ds) : RpAll ⟨K, ct, mu⟩ F (vs ++ dvs) (ds ++ dd) := r.append (h mu F)
theorem call_imp {K : PySem.W.Frag} {n : Nat} {f : FM} {fa : AM} {dvs : List V} {dd : List D} {E : XK} (hd : ∀ mu F, RpAll ⟨K, ct, mu⟩ F dvs dd) (hn : ∀ ds M o, f ds M = some o → ds.length = n) (σ : L2.St) (H : Hp) (Q : VK)
    (h : tE K ct (eCall f dd fa) σ H Q) : tCall (FnS K ct n f) dvs E (tA K ct fa) σ H Q := by
  obtain ⟨mu, ow, ε, val, ε', S, hf, k⟩ := h
  obtain ⟨ra, q, o, e1, e2, e3, e4, e5⟩ := eCall_some hf
  cases e5
  refine ⟨mu, ow, ε, ra.1, ra.2, S, e1, fun vs H1 ow1 S1 fr1 r1 => ?_⟩
  obtain ⟨ow2, S2, fr2, r2⟩ := VRs.esc S1 r1 e2
  have r3 := RpAll.sub0 hd r2
  exact fn_use S2 (fr1.trans fr2) r3 (by rw [r3.length]; exact hn _ _ _ e3) e3 e4 k
theorem de_call {CX : CXT} {k n : Nat} {f : Addr} {fd : FuncData} {ps : List Str} {fm : FM} {dvs : List V} {dd : List D} {ds : List Value} {E : XK} {x : Str} {p pos : Pos} {e : Expr} {es : List Expr} {fa : AM}
    (F : FnOk X.prog X.w X.K X.mg X.base CX k f fd ps (FnS X.K ct n fm)) (hr : Room k X.A) (hm : X.mg x = some (.ref f)) (hk : PySem.W.keepIn X.K (.ref f) = true) (hb : Binds X.K fd ps ds) (hd : Vals dvs ds) (hx : Passes CX X E)
    (hdd : ∀ mu F, RpAll ⟨X.K, ct, mu⟩ F dvs dd) (hn : ∀ ds M o, fm ds M = some o → ds.length = n) (ha : PA X (e :: es) (tA X.K ct fa)) (hg : Gl X x := by rfl)
    (hdb : (x == ("__debug__" : Str)) = false := by decide) (he : starEach (e :: es) X.env = (false, eval e X.env) :: starEach es X.env := by rfl) (hpl : (backTo pos (starEach es X.env)).any (·.1) = false := by rfl) :
    PE X (.Call (.Name x p) (e :: es) [] pos) (tE X.K ct (eCall fm dd fa)) := (pe_call F hr hg hm hk hb hd hx ha hdb he hpl).imp (call_imp hdd hn)
theorem tA_nil_imp {K : PySem.W.Frag} (σ : L2.St) (H : Hp) (Q : List V → Hp → Prop) (h : tA K ct aNil σ H Q) : tNil σ H Q := by
  obtain ⟨mu, ow, ε, vals, ε', S, hf, k⟩ := h
  cases hf
  exact k [] H ow S Fr.refl trivial
end
end KD

set_option maxHeartbeats 4000000
namespace KD
open PySem L2
section
variable {X : Cx} {ct : Nat → Addr} {Γ : Gam}

def eMeth (c : Nat) (m : Str) (f : FM) (dd : List D) (fo : EM) (fa : AM) : EM := fun ε => (fzE fo ε).bind fun ro => (ro.1.res ro.2).bind fun d => match insD ro.2 d with
  | some (c', ns, _) => if c' = c ∧ ns.contains m = false then eCall f dd (fun ε1 => (fa ε1).map fun r => (ro.1 :: r.1, r.2)) ro.2 else none
  | none => none
mutual
def noP (n : Nat) : D → Bool
  | .tup l => noPL n l
  | .pair l => noPL n l
  | .lst l => noPL n l
  | .ins _ _ l => noPL n l
  | .dct _ l => noPL n l
  | .dcl _ l => noPL n l
  | .exc _ _ l => noPL n l
  | .tab _ _ => true
  | .ptr m => m != n
  | _ => true
def noPL (n : Nat) : List D → Bool
  | [] => true
  | d :: l => noP n d && noPL n l
end
def noPM (n : Nat) : MO → Bool
  | .lst l => noPL n l
  | .ins _ _ l => noPL n l
  | .dct _ l => noPL n l
  | .tab _ _ => true
mutual
theorem Rp.mu {K : PySem.W.Frag} {mu mu' : Nat → Option Addr} {n : Nat} (hm : ∀ k, k ≠ n → mu k = mu' k) {F : Hp} : ∀ {v : V} {d : D}, Rp ⟨K, ct, mu⟩ F v d → noP n d = true → Rp ⟨K, ct, mu'⟩ F v d
  | _, _, .non, _ => .non
  | _, _, .bl b, _ => .bl b
  | _, _, .int b, _ => .int b
  | _, _, .str b h, _ => .str b h
  | _, _, .tup h r l, q => .tup h (RpAll.mu hm r q) l
  | _, _, .pair h r, q => .pair h (RpAll.mu hm r q)
  | _, _, .lst h r l, q => .lst h (RpAll.mu hm r q) l
  | _, _, .scr h l, q => .scr h l
  | _, _, .ins h l r, q => .ins h l (RpAll.mu hm r q)
  | _, _, .dct h l r, q => .dct h l (RpAll.mu hm r q)
  | _, _, .dcl h l r, q => .dcl h l (RpAll.mu hm r q)
  | _, _, .cls c, _ => .cls c
  | _, _, .rng h, _ => .rng h
  | _, _, .exc h x l r, q => .exc h x l (RpAll.mu hm r q)
  | _, _, .tab h t, q => .tab h t
  | _, _, .ptr (n := m) h, q => .ptr ((hm m (by simpa [noP] using q)).symm.trans h)
theorem RpAll.mu {K : PySem.W.Frag} {mu mu' : Nat → Option Addr} {n : Nat} (hm : ∀ k, k ≠ n → mu k = mu' k) {F : Hp} : ∀ {vs : List V} {ds : List D}, RpAll ⟨K, ct, mu⟩ F vs ds → noPL n ds = true → RpAll ⟨K, ct, mu'⟩ F vs ds
  | _, _, .nil, _ => .nil
  | _, _, .cons h r, q => by
    have q' : (noP n _ && noPL n _) = true := q
    rw [Bool.and_eq_true] at q'
    exact .cons (Rp.mu hm h q'.1) (RpAll.mu hm r q'.2)
end
theorem ObjR.mu {K : PySem.W.Frag} {mu mu' : Nat → Option Addr} {n : Nat} (hm : ∀ k, k ≠ n → mu k = mu' k) {F H : Hp} {p : Addr} {m : MO} (h : ObjR ⟨K, ct, mu⟩ F H p m) (q : noPM n m = true) : ObjR ⟨K, ct, mu'⟩ F H p m := by
  cases m with
  | lst xs => obtain ⟨vs, h, r, l⟩ := h; exact ⟨vs, h, r.mu hm q, l⟩
  | ins c ns xs => obtain ⟨dx, vs, h, l, r⟩ := h; exact ⟨dx, vs, h, l, r.mu hm q⟩
  | dct ks xs => obtain ⟨vs, h, l, r⟩ := h; exact ⟨vs, h, l, r.mu hm q⟩
  | tab _ _ => exact h
def isNon : Val → Bool
  | .d .non => true
  | _ => false
def eMake (c : Nat) (f : FM) (dd : List D) (fa : AM) : EM := fun ε => (fa ε).bind fun r => (escL r.2 r.1).bind fun q =>
  if noPL q.2.M.length (q.1 ++ dd) = true ∧ q.2.M.all (noPM q.2.M.length) = true then
    (f (.ptr q.2.M.length :: (q.1 ++ dd)) (q.2.M ++ [.ins c [] []])).bind fun o =>
      if isNon o.1 = true ∧ o.2.length = q.2.M.length + 1 ∧ (o.2.take q.2.M.length).all (noPM q.2.M.length) = true then
        match o.2[q.2.M.length]? with
        | some (.ins c' ns vals) => if c' = c ∧ noPL q.2.M.length vals = true then some (.new (.ins c' ns vals), { q.2 with M := o.2.take q.2.M.length }) else none
        | _ => none
      else none
  else none
end
end KD

set_option maxHeartbeats 4000000
namespace KD
open PySem L2
section
variable {X : Cx} {ct : Nat → Addr} {Γ : Gam}

def tgt (ε : SE) : Val → Option MO
  | .old i => match ε.sl[i]? with | some (.own m) => some m | _ => none
  | .d (.ptr n) => ε.M[n]?
  | _ => none
def put (ε : SE) (m : MO) : Val → SE
  | .old i => setS ε i (.own m)
  | .d (.ptr n) => { ε with M := ε.M.set n m }
  | _ => ε
theorem Sim.change {ow : OwF} {ε : SE} {σ : L2.St} {H H0 : Hp} {v : V} {val : Val} {m : MO} (S : Sim Γ ow ε σ H) (r : VR Γ ow H0 σ H v (fzv val)) (e : tgt ε (fzv val) = some m) :
    ∃ p, v = .ref p ∧ ObjR Γ (cut H ow) H p m ∧ ∀ o m', ObjR Γ (cut H ow) (upd H p o) p m' → Sim Γ ow (put ε m' (fzv val)) σ (upd H p o) ∧ Fr ow H ow (upd H p o) := by
  have core : ∀ p w, ow p = some w → ((∃ i, w = .slot i) ∨ ∃ n, w = .obj n) → ∀ o, cut (upd H p o) ow = cut H ow ∧ ((∃ o', H p = some o') → Fr ow H ow (upd H p o)) := by
    intro p w hw hk o
    have hc : cut (upd H p o) ow = cut H ow := by
      funext a
      by_cases ha : a = p
      · subst ha; unfold cut; rw [hw]
      · unfold cut; rw [upd_ne ha]
    refine ⟨hc, fun ⟨o', ho'⟩ => ⟨fun a o2 h e => ?_, fun a o2 w' h e q => ?_, fun a o2 h => ?_, fun a o2 n h e => e⟩⟩
    · have n : a ≠ p := by rintro rfl; rw [hw] at e; cases e
      exact ⟨e, by rw [upd_ne n]; exact h⟩
    · have n : a ≠ p := by
        rintro rfl; rw [hw] at e; cases e
        rcases hk with ⟨_, rfl⟩ | ⟨_, rfl⟩ <;> rcases q with q | q <;> cases q
      exact ⟨e, by rw [upd_ne n]; exact h⟩
    · by_cases n : a = p
      · subst n; exact ⟨o, upd_same⟩
      · exact ⟨o2, by rw [upd_ne n]; exact h⟩
  cases val with
  | d x =>
    cases x with
    | ptr n =>
      obtain ⟨p, h1, h2, h3⟩ := S.mo n m e
      have r' : Rp Γ (cut H ow) v (.ptr n) := r
      cases r' with
      | ptr hp =>
        obtain rfl := Option.some.inj (hp.symm.trans h1)
        refine ⟨_, rfl, h3, fun o m' ho => ?_⟩
        rename_i a
        obtain ⟨hc, hf⟩ := core a _ h2 (.inr ⟨n, rfl⟩) o
        refine ⟨⟨S.len, fun i d e => ?_, fun i mm e => ?_, fun k mm e => ?_⟩, hf (ObjR.has h3)⟩
        · rw [hc]; exact S.sd i d e
        · obtain ⟨p', q1, q2, q3⟩ := S.so i mm e
          have n' : p' ≠ a := by rintro rfl; rw [h2] at q2; cases q2
          exact ⟨p', q1, q2, by rw [hc]; exact ObjR.mono q3 (Sub.refl _) fun o e => by rw [upd_ne n']; exact e⟩
        · have e' : (ε.M.set n m')[k]? = some mm := e
          by_cases hk : n = k
          · subst hk
            have hlt : n < ε.M.length := (List.getElem?_eq_some_iff.mp (show ε.M[n]? = some m from ‹_›)).1
            rw [List.getElem?_set_self hlt] at e'
            cases e'
            exact ⟨a, h1, h2, by rw [hc]; exact ho⟩
          · rw [List.getElem?_set_ne hk] at e'
            obtain ⟨p', q1, q2, q3⟩ := S.mo k mm e'
            have n' : p' ≠ a := by rintro rfl; rw [h2] at q2; cases q2; exact hk rfl
            exact ⟨p', q1, q2, by rw [hc]; exact ObjR.mono q3 (Sub.refl _) fun o e => by rw [upd_ne n']; exact e⟩
    | _ => cases e
  | new m0 => cases m0 <;> cases e
  | ex x => cases e
  | old i =>
    have e' : (match ε.sl[i]? with | some (.own m) => some m | _ => none) = some m := e
    split at e'
    · rename_i m0 hm
      cases e'
      obtain ⟨p, h1, h2, h3⟩ := S.so i m hm
      have r' : σ[i]? = some (some v) := r
      rw [h1] at r'
      cases r'
      refine ⟨p, rfl, h3, fun o m' ho => ?_⟩
      obtain ⟨hc, hf⟩ := core p _ h2 (.inl ⟨i, rfl⟩) o
      have hil : i < ε.sl.length := (List.getElem?_eq_some_iff.mp hm).1
      refine ⟨⟨by rw [S.len]; show _ = (ε.sl.set i _).length; rw [List.length_set], fun j d e => ?_, fun j mm e => ?_, fun k mm e => ?_⟩, hf (ObjR.has h3)⟩
      · have e' : (ε.sl.set i (.own m'))[j]? = some (.d d) := e
        by_cases hj : i = j
        · subst hj
          rw [List.getElem?_set_self hil] at e'; cases e'
        · rw [List.getElem?_set_ne hj] at e'
          rw [hc]; exact S.sd j d e'
      · have e' : (ε.sl.set i (.own m'))[j]? = some (.own mm) := e
        by_cases hj : i = j
        · subst hj
          rw [List.getElem?_set_self hil] at e'
          cases e'
          exact ⟨p, h1, h2, by rw [hc]; exact ho⟩
        · rw [List.getElem?_set_ne hj] at e'
          obtain ⟨p', q1, q2, q3⟩ := S.so j mm e'
          have n' : p' ≠ p := by rintro rfl; rw [h2] at q2; cases q2; exact hj rfl
          exact ⟨p', q1, q2, by rw [hc]; exact ObjR.mono q3 (Sub.refl _) fun o e => by rw [upd_ne n']; exact e⟩
      · obtain ⟨p', q1, q2, q3⟩ := S.mo k mm e
        have n' : p' ≠ p := by rintro rfl; rw [h2] at q2; cases q2
        exact ⟨p', q1, q2, by rw [hc]; exact ObjR.mono q3 (Sub.refl _) fun o e => by rw [upd_ne n']; exact e⟩
    · cases e'
def eMut (p : MO → Bool) (g : MO → List D → Option (MO × D)) (fo : EM) (f : AM) : EM := fun ε => (fzE fo ε).bind fun ro => (tgt ro.2 ro.1).bind fun m0 => if p m0 = true then
  (f ro.2).bind fun r => (escL r.2 r.1).bind fun q => (tgt q.2 ro.1).bind fun m => (g m q.1).map fun w => (.d w.2, put q.2 w.1 ro.1) else none
end
end KD

set_option maxHeartbeats 4000000
namespace KD
open PySem L2

inductive Out | nx (ε : SE) | rt (v : Val) (ε : SE) | bk (ε : SE) | ct (ε : SE) | ex (x : D) (ε : SE)
def XRep (Γ : Gam) (F : Hp) (cls : Value) (d : Option Addr) : D → Prop
  | .exc c ns ds => cls = .ref (Γ.ct c) ∧ ∃ vs, XFs F ns vs d ∧ vs.length = ns.length ∧ RpAll Γ F vs ds
  | _ => False
theorem XRep.mono {Γ : Gam} {F F' : Hp} (s : Sub F F') {cls : Value} {d : Option Addr} {x : D} (h : XRep Γ F cls d x) : XRep Γ F' cls d x := by
  cases x with
  | exc c ns ds => obtain ⟨e, vs, h1, h2, h3⟩ := h; exact ⟨e, vs, h1.mono s, h2, h3.mono s⟩
  | _ => exact h.elim
abbrev W0 : WX := fun _ _ _ _ => False
abbrev SM := SE → Option Out
def PostS (K : PySem.W.Frag) (ct : Nat → Addr) (W : WX) (mu : Nat → Option Addr) (ow : OwF) (H : Hp) (E : Ends) : Out → Prop
  | .nx ε' => ∀ σ' H' ow', Sim ⟨K, ct, mu⟩ ow' ε' σ' H' → Fr ow H ow' H' → E.nx σ' H'
  | .bk ε' => ∀ σ' H' ow', Sim ⟨K, ct, mu⟩ ow' ε' σ' H' → Fr ow H ow' H' → E.bk σ' H'
  | .ct ε' => ∀ σ' H' ow', Sim ⟨K, ct, mu⟩ ow' ε' σ' H' → Fr ow H ow' H' → E.ct σ' H'
  | .rt val ε' => ∀ v σ' H' ow', Sim ⟨K, ct, mu⟩ ow' ε' σ' H' → Fr ow H ow' H' → VR ⟨K, ct, mu⟩ ow' H σ' H' v val → E.rt v H'
  | .ex x ε' => ∀ cls d σ' H' ow', Sim ⟨K, ct, mu⟩ ow' ε' σ' H' → Fr ow H ow' H' → XRep ⟨K, ct, mu⟩ (cut H' ow') cls d x → W cls d σ' H'
def tSX (K : PySem.W.Frag) (ct : Nat → Addr) (W : WX) (f : SM) : TS := fun E σ H => ∃ mu ow ε out, Sim ⟨K, ct, mu⟩ ow ε σ H ∧ f ε = some out ∧ PostS K ct W mu ow H E out
abbrev tS (K : PySem.W.Frag) (ct : Nat → Addr) (f : SM) : TS := tSX K ct W0 f
section
variable {X : Cx} {ct : Nat → Addr} {Γ : Gam} {W : WX}
theorem PostS.later {K : PySem.W.Frag} {mu : Nat → Option Addr} {ow ow1 : OwF} {H H1 : Hp} {E : Ends} {out : Out} (fr : Fr ow H ow1 H1) (h : PostS K ct W mu ow H E out) : PostS K ct W mu ow1 H1 E out := by
  cases out with
  | nx ε => exact fun σ' H' ow' S f => h σ' H' ow' S (fr.trans f)
  | bk ε => exact fun σ' H' ow' S f => h σ' H' ow' S (fr.trans f)
  | ct ε => exact fun σ' H' ow' S f => h σ' H' ow' S (fr.trans f)
  | rt v ε => exact fun v σ' H' ow' S f r => h v σ' H' ow' S (fr.trans f) (r.back fun p hp => fr.none hp)
  | ex x ε => exact fun cls d σ' H' ow' S f r => h cls d σ' H' ow' S (fr.trans f) r
theorem PostS.ends {K : PySem.W.Frag} {mu : Nat → Option Addr} {ow : OwF} {H : Hp} {E E' : Ends} {out : Out} (h : PostS K ct W mu ow H E out) (h1 : ∀ ε, out = .nx ε → PostS K ct W mu ow H E' out) (h2 : ∀ v H', E.rt v H' → E'.rt v H') (h3 : ∀ ε, out = .bk ε → PostS K ct W mu ow H E' out) (h4 : ∀ ε, out = .ct ε → PostS K ct W mu ow H E' out) : PostS K ct W mu ow H E' out := by
  cases out with
  | nx ε => exact h1 ε rfl
  | bk ε => exact h3 ε rfl
  | ct ε => exact h4 ε rfl
  | rt v ε => exact fun v σ' H' ow' S f r => h2 _ _ (h v σ' H' ow' S f r)
  | ex x ε => exact h

def sNil : SM := fun ε => some (.nx ε)
def sSeq (f g : SM) : SM := fun ε => (f ε).bind fun o => match o with | .nx ε' => g ε' | o => some o
theorem dss_nil : PSs X [] (tSX X.K ct W sNil) := pss_nil.imp fun E σ H ⟨mu, ow, ε, out, S, hf, k⟩ => by
  cases hf
  exact k σ H ow S Fr.refl
theorem dss_cons {st : Stmt} {rest : List Stmt} {f g : SM} (h : PS X st (tSX X.K ct W f)) (h2 : PSs X rest (tSX X.K ct W g)) : PSs X (st :: rest) (tSX X.K ct W (sSeq f g)) := (pss_cons h h2).imp fun E σ H ⟨mu, ow, ε, out, S, hf, k⟩ => by
  unfold sSeq at hf
  cases e : f ε with
  | none => simp [e] at hf
  | some o =>
    simp only [e, Option.bind_some] at hf
    refine ⟨mu, ow, ε, o, S, e, ?_⟩
    cases o with
    | nx ε1 => exact fun σ' H' ow' S' fr => ⟨mu, ow', ε1, out, S', hf, k.later fr⟩
    | bk ε1 => cases hf; exact k
    | ct ε1 => cases hf; exact k
    | rt v ε1 => cases hf; exact k
    | ex x ε1 => cases hf; exact k
theorem dss_one {st : Stmt} {f : SM} (h : PS X st (tSX X.K ct W f)) : PSs X [st] (tSX X.K ct W f) := pss_one h
def sErr : SM := fun _ => none
def sExpr (f : EM) : SM := fun ε => (f ε).map fun r => .nx r.2
def sRet (f : EM) : SM := fun ε => (f ε).map fun r => .rt r.1 r.2
theorem ds_ret {e : Expr} {pos : Pos} {f : EM} (h : PE X e (tE X.K ct f)) : PS X (.Return (some e) pos) (tSX X.K ct W (sRet f)) := (ps_ret h).imp fun E σ H ⟨mu, ow, ε, out, S, hf, k⟩ => by
  unfold sRet at hf
  cases e : f ε with
  | none => simp [e] at hf
  | some r =>
    simp only [e, Option.map_some, Option.some.injEq] at hf
    subst hf
    exact ⟨mu, ow, ε, r.1, r.2, S, e, fun v H1 ow1 S1 fr1 r1 => k v σ H1 ow1 S1 fr1 r1⟩
def sRetN : SM := fun ε => some (.rt (.d .non) ε)
def sIf (c : BM) (f g : SM) : SM := fun ε => (c ε).bind fun r => if r.1 = true then f r.2 else g r.2
theorem ds_if {c : Expr} {a b : List Stmt} {pos : Pos} {tc : BM} {f g : SM} (hc : PT X c (tT X.K ct tc)) (ha : PSs X a (tSX X.K ct W f)) (hb : PSs X b (tSX X.K ct W g)) : PS X (.If c a b pos) (tSX X.K ct W (sIf tc f g)) :=
  (ps_if hc ha hb).imp fun E σ H ⟨mu, ow, ε, out, S, hf, k⟩ => by
    unfold sIf at hf
    cases e : tc ε with
    | none => simp [e] at hf
    | some r =>
      simp only [e, Option.bind_some] at hf
      refine tT_then e S fun H1 ow1 S1 fr1 => ?_
      by_cases c : r.1 = true
      · rw [if_pos c] at hf ⊢
        exact ⟨mu, ow1, r.2, out, S1, hf, k.later fr1⟩
      · rw [if_neg c] at hf ⊢
        exact ⟨mu, ow1, r.2, out, S1, hf, k.later fr1⟩

abbrev GM := D → SE → Option SE
def TgS (K : PySem.W.Frag) (ct : Nat → Addr) (vs : List Nat) (g : TG) (gD : GM) : Prop := ∀ mu ow ε σ H v d ε' (Q : L2.St → Hp → Prop), Sim ⟨K, ct, mu⟩ ow ε σ H → Rp ⟨K, ct, mu⟩ (cut H ow) v d → gD d ε = some ε' →
  (∀ σ', Sim ⟨K, ct, mu⟩ ow ε' σ' H → (∀ us, (∀ i ∈ vs, i ∈ us) → wipe σ' us = wipe σ us) → Q σ' H) → g v σ H Q
theorem Sim.setD {ow : OwF} {ε : SE} {σ : L2.St} {H : Hp} {v : V} {d : D} (i : Nat) (S : Sim Γ ow ε σ H) (r : Rp Γ (cut H ow) v d) : Sim Γ ow (setS ε i (.d d)) (σ.set i (some v)) H := by
  refine ⟨by rw [List.length_set, S.len]; show _ = (ε.sl.set i _).length; rw [List.length_set], fun j e h => ?_, fun j m h => ?_, S.mo⟩
  · have h' : (ε.sl.set i (.d d))[j]? = some (.d e) := h
    by_cases hj : i = j
    · subst hj
      have hl : i < ε.sl.length := by
        have := (List.getElem?_eq_some_iff.mp h').1
        rw [List.length_set] at this; exact this
      rw [List.getElem?_set_self hl] at h'
      cases h'
      exact ⟨v, by rw [List.getElem?_set_self (by rw [S.len]; exact hl)], r⟩
    · rw [List.getElem?_set_ne hj] at h' ⊢
      exact S.sd j e h'
  · have h' : (ε.sl.set i (.d d))[j]? = some (.own m) := h
    by_cases hj : i = j
    · subst hj
      have hl : i < ε.sl.length := by
        have := (List.getElem?_eq_some_iff.mp h').1
        rw [List.length_set] at this; exact this
      rw [List.getElem?_set_self hl] at h'
      cases h'
    · rw [List.getElem?_set_ne hj] at h' ⊢
      exact S.so j m h'
theorem wipe_get {σ : L2.St} {j : Nat} : ∀ {vs : List Nat}, (wipe σ vs)[j]? = if j ∈ vs then (σ[j]?).map (fun _ => none) else σ[j]?
  | [] => by simp [wipe]
  | v :: vs => by
    unfold wipe
    by_cases h : v = j
    · subst h
      rw [List.getElem?_set]
      simp only [if_true, List.mem_cons, true_or, wipe_length]
      by_cases hl : v < σ.length
      · rw [if_pos hl, List.getElem?_eq_getElem hl]; rfl
      · rw [if_neg hl, List.getElem?_eq_none (by omega)]; rfl
    · rw [List.getElem?_set_ne h, wipe_get (vs := vs)]
      simp only [List.mem_cons]
      by_cases hm : j ∈ vs
      · simp [hm]
      · simp [hm, Ne.symm h]
theorem wipe_set {σ : L2.St} {i : Nat} {x : Option V} {us : List Nat} (h : i ∈ us) : wipe (σ.set i x) us = wipe σ us := by
  refine List.ext_getElem? fun j => ?_
  rw [wipe_get, wipe_get]
  by_cases hj : j ∈ us
  · rw [if_pos hj, if_pos hj, List.getElem?_set]
    by_cases e : i = j
    · subst e
      simp only [if_true]
      by_cases hl : i < σ.length
      · rw [if_pos hl, List.getElem?_eq_getElem hl]; rfl
      · rw [if_neg hl, List.getElem?_eq_none (by omega)]
    · rw [if_neg e]
  · rw [if_neg hj, if_neg hj]
    have e : i ≠ j := by rintro rfl; exact hj h
    rw [List.getElem?_set_ne e]
def gN (i : Nat) : GM := fun d ε => some (setS ε i (.d d))
theorem tg_name {K : PySem.W.Frag} {i : Nat} : TgS K ct [i] (gName i) (gN i) := fun mu ow ε σ H v d ε' Q S r e k => by
  cases e
  exact k _ (S.setD i r) fun us h => wipe_set (h i List.mem_cons_self)
abbrev GsM := List D → SE → Option SE
def TgsS (K : PySem.W.Frag) (ct : Nat → Addr) (vs : List Nat) (g : TGs) (gD : GsM) : Prop := ∀ mu ow ε σ H xs ds ε' (Q : L2.St → Hp → Prop), Sim ⟨K, ct, mu⟩ ow ε σ H → RpAll ⟨K, ct, mu⟩ (cut H ow) xs ds → gD ds ε = some ε' →
  (∀ σ', Sim ⟨K, ct, mu⟩ ow ε' σ' H → (∀ us, (∀ i ∈ vs, i ∈ us) → wipe σ' us = wipe σ us) → Q σ' H) → g xs σ H Q
def gsNil : GsM := fun ds ε => match ds with | [] => some ε | _ => none
def gsCons (g : GM) (gs : GsM) : GsM := fun ds ε => match ds with | d :: ds => (g d ε).bind fun ε1 => gs ds ε1 | [] => none
theorem tgs_nil {K : PySem.W.Frag} : TgsS K ct [] gNil gsNil := fun mu ow ε σ H xs ds ε' Q S r e k => by
  cases r with
  | nil => cases e; exact ⟨rfl, k σ S fun _ _ => rfl⟩
  | cons _ _ => cases e
theorem tgs_cons {K : PySem.W.Frag} {vs ws : List Nat} {g : TG} {gs : TGs} {gD : GM} {gsD : GsM} (h : TgS K ct vs g gD) (h2 : TgsS K ct ws gs gsD) : TgsS K ct (vs ++ ws) (gCons g gs) (gsCons gD gsD) := fun mu ow ε σ H xs ds ε' Q S r e k => by
  cases r with
  | nil => cases e
  | cons r1 r2 =>
    rename_i v vs' d ds'
    have e' : ((gD d ε).bind fun ε1 => gsD ds' ε1) = some ε' := e
    cases e1 : gD d ε with
    | none => simp [e1] at e'
    | some ε1 =>
      simp only [e1, Option.bind_some] at e'
      refine ⟨v, vs', rfl, h mu ow ε σ H v d ε1 _ S r1 e1 fun σ1 S1 w1 => ?_⟩
      refine h2 mu ow ε1 σ1 H vs' ds' ε' _ S1 r2 e' fun σ2 S2 w2 => k σ2 S2 fun us hu => ?_
      rw [w2 us fun i hi => hu i (List.mem_append_right _ hi), w1 us fun i hi => hu i (List.mem_append_left _ hi)]
def gT (n : Nat) (gs : GsM) : GM := fun d ε => match d with
  | .tup ds => if ds.length = n then gs ds ε else none
  | .pair ds => if ds.length = n then gs ds ε else none
  | _ => none
theorem tg_tup {K : PySem.W.Frag} {vs : List Nat} {n : Nat} {gs : TGs} {gsD : GsM} (h : TgsS K ct vs gs gsD) : TgS K ct vs (gTup K n gs) (gT n gsD) := fun mu ow ε σ H v d ε' Q S r e k => by
  cases d with
  | tup ds =>
    cases r with
    | tup hs ra _ =>
      have e' : (if ds.length = n then gsD ds ε else none) = some ε' := e
      by_cases hl : ds.length = n
      · rw [if_pos hl] at e'
        exact ⟨_, _, rfl, cut_sub.sqt hs.sqt, by rw [ra.length]; exact hl, h mu ow ε σ H _ ds ε' Q S ra e' k⟩
      · rw [if_neg hl] at e'; cases e'
  | pair ds =>
    cases r with
    | pair hs ra =>
      have e' : (if ds.length = n then gsD ds ε else none) = some ε' := e
      by_cases hl : ds.length = n
      · rw [if_pos hl] at e'
        exact ⟨_, _, rfl, cut_sub.sqt hs, by rw [ra.length]; exact hl, h mu ow ε σ H _ ds ε' Q S ra e' k⟩
      · rw [if_neg hl] at e'; cases e'
  | _ => cases e

def storeV (ε : SE) (i : Nat) : Val → Option SE
  | .d x => some (setS ε i (.d x))
  | .new m => some (setS ε i (.own m))
  | .old j => (escV ε (.old j)).map fun r => setS r.2 i (.d r.1)
  | .ex _ => none
theorem Sim.store {ow : OwF} {ε ε' : SE} {σ : L2.St} {H H0 : Hp} {ow0 : OwF} {v : V} {val : Val} {i : Nat} (S : Sim Γ ow ε σ H) (fr : Fr ow0 H0 ow H) (r : VR Γ ow H0 σ H v val) (e : storeV ε i val = some ε') :
    ∃ ow', Sim Γ ow' ε' (σ.set i (some v)) H ∧ Fr ow0 H0 ow' H := by
  cases val with
  | d x => cases e; exact ⟨ow, S.setD i r, fr⟩
  | ex x => cases e
  | old j =>
    have e' : ((escV ε (.old j)).map fun r => setS r.2 i (.d r.1)) = some ε' := e
    cases e2 : escV ε (.old j) with
    | none => simp [e2] at e'
    | some q =>
      simp only [e2, Option.map_some, Option.some.injEq] at e'
      subst e'
      obtain ⟨ow1, S1, fr1, r1⟩ := VR.esc (val := .old j) S r e2
      exact ⟨ow1, S1.setD i r1, fr.trans fr1⟩
  | new m =>
    cases e
    obtain ⟨p, rfl, ht, h0, ho⟩ := r
    have hc : cut H (setO ow p (some (.slot i))) = cut H ow := by
      funext a
      by_cases ha : a = p
      · subst ha; unfold cut; rw [setO_same, ht]
      · unfold cut; rw [setO_ne ha]
    refine ⟨setO ow p (some (.slot i)), ⟨by rw [List.length_set, S.len]; show _ = (ε.sl.set i _).length; rw [List.length_set], fun j d h => ?_, fun j mm h => ?_, fun n mm h => ?_⟩, ?_⟩
    · have h' : (ε.sl.set i (.own m))[j]? = some (.d d) := h
      by_cases hj : i = j
      · subst hj
        have hl : i < ε.sl.length := by
          have := (List.getElem?_eq_some_iff.mp h').1
          rw [List.length_set] at this; exact this
        rw [List.getElem?_set_self hl] at h'
        cases h'
      · rw [List.getElem?_set_ne hj] at h' ⊢
        rw [hc]; exact S.sd j d h'
    · have h' : (ε.sl.set i (.own m))[j]? = some (.own mm) := h
      by_cases hj : i = j
      · subst hj
        have hl : i < ε.sl.length := by
          have := (List.getElem?_eq_some_iff.mp h').1
          rw [List.length_set] at this; exact this
        rw [List.getElem?_set_self hl] at h'
        cases h'
        exact ⟨p, by rw [List.getElem?_set_self (by rw [S.len]; exact hl)], setO_same, by rw [hc]; exact ho⟩
      · rw [List.getElem?_set_ne hj] at h' ⊢
        obtain ⟨q, q1, q2, q3⟩ := S.so j mm h'
        have n : q ≠ p := by rintro rfl; rw [ht] at q2; cases q2
        exact ⟨q, q1, by rw [setO_ne n]; exact q2, by rw [hc]; exact q3⟩
    · obtain ⟨q, q1, q2, q3⟩ := S.mo n mm h
      have n : q ≠ p := by rintro rfl; rw [ht] at q2; cases q2
      exact ⟨q, q1, by rw [setO_ne n]; exact q2, by rw [hc]; exact q3⟩
    · have ne : ∀ a o, H0 a = some o → a ≠ p := fun a o h => ne_of_none h h0
      exact ⟨fun a o h e => by rw [setO_ne (ne a o h)]; exact fr.fz a o h e, fun a o w h e q => by rw [setO_ne (ne a o h)]; exact fr.ke a o w h e q, fr.tr, fun a o n h e => by rw [setO_ne (ne a o h)]; exact fr.ob a o n h e⟩
def sSet (i : Nat) (f : EM) : SM := fun ε => (f ε).bind fun r => (storeV r.2 i r.1).map fun ε' => .nx ε'
theorem ds_set {i : Nat} {st : Stmt} {f : EM} (h : PS X st (tAsg (tE X.K ct f) (gName i))) : PS X st (tSX X.K ct W (sSet i f)) := h.imp fun E σ H ⟨mu, ow, ε, out, S, hf, k⟩ => by
  unfold sSet at hf
  cases e : f ε with
  | none => simp [e] at hf
  | some r =>
    simp only [e, Option.bind_some] at hf
    cases e2 : storeV r.2 i r.1 with
    | none => simp [e2] at hf
    | some ε' =>
      simp only [e2, Option.map_some, Option.some.injEq] at hf
      subst hf
      refine ⟨mu, ow, ε, r.1, r.2, S, e, fun v H1 ow1 S1 fr1 r1 => ?_⟩
      obtain ⟨ow2, S2, fr2⟩ := S1.store fr1 r1 e2
      exact k _ H1 ow2 S2 fr2
def sAsg (g : GM) (f : EM) : SM := fun ε => (fzE f ε).bind fun r => (escV r.2 r.1).bind fun q => (g q.1 q.2).map fun ε' => .nx ε'
end
end KD

set_option maxHeartbeats 4000000
namespace KD
open PySem L2
section
variable {X : Cx} {ct : Nat → Addr} {Γ : Gam} {W : WX}

abbrev IM := SE → Option (List D × SE)
def ItOk (Γ : Gam) (F : Hp) (J : It) (ds : List D) : Prop := ds.length ≤ 16777216 ∧ ∀ (i : Nat) (H : Hp), Sub F H → (ds.length = i → J.stop i H) ∧ ∀ d, ds[i]? = some d → J.go i H ∧ ∀ x H', J.yld i H x H' → Fresh Γ F H x H' (.d d)
theorem Fresh.mono {F F' H H' : Hp} {v : V} {val : Val} (s : Sub F F') (h : Fresh Γ F H v H' val) : Fresh Γ F' H v H' val := by
  cases h with
  | same h => exact .same (h.mono s)
  | tup h d r l => exact .tup h d (r.mono s) l
  | pair h r => exact .pair h (r.mono s)
  | lst h r l => exact .lst h (r.mono s) l
  | dct h l r => exact .dct h l (r.mono s)
def tI (K : PySem.W.Frag) (ct : Nat → Addr) (f : IM) : TI := fun σ H R => ∃ mu ow ε ds ε', Sim ⟨K, ct, mu⟩ ow ε σ H ∧ f ε = some (ds, ε') ∧
  ∀ J H' ow', Sim ⟨K, ct, mu⟩ ow' ε' σ H' → Fr ow H ow' H' → ItOk ⟨K, ct, mu⟩ (cut H' ow') J ds → R J H'
theorem _root_.L2.PI.imp {X : Cx} {tg iter : Expr} {t t' : TI} (h : PI X tg iter t) (i : ∀ σ H R, t' σ H R → t σ H R) : PI X tg iter t' :=
  ⟨fun pins s σ H R I q => h.run pins s σ H R I (i σ H R q)⟩
def loopF (g : GM) (body : SM) : List D → SE → Option Out
  | [], ε => some (.nx ε)
  | d :: ds, ε => (g d ε).bind fun ε1 => (body ε1).bind fun o => match o with
    | .nx ε2 => loopF g body ds ε2
    | .ct ε2 => loopF g body ds ε2
    | .bk ε2 => some (.nx ε2)
    | .rt v ε2 => some (.rt v ε2)
    | .ex x ε2 => some (.ex x ε2)
def sFor (fi : IM) (g : GM) (body : SM) : SM := fun ε => (fi ε).bind fun r => loopF g body r.1 r.2
theorem for_imp {K : PySem.W.Frag} {vs : List Nat} {fi : IM} {g : TG} {gD : GM} {body : SM} (tg : TgS K ct vs g gD) (E : Ends) (σ : L2.St) (H : Hp) (h : tSX K ct W (sFor fi gD body) E σ H) : tFor (tI K ct fi) g (tSX K ct W body) E σ H := by
  obtain ⟨mu, ow, ε, out, S, hf, k⟩ := h
  unfold sFor at hf
  cases e : fi ε with
  | none => simp [e] at hf
  | some r =>
    simp only [e, Option.bind_some] at hf
    refine ⟨mu, ow, ε, r.1, r.2, S, e, fun J H1 ow1 S1 fr1 hJ => ?_⟩
    refine ⟨fun i m σ H => m = r.1.length - i ∧ i ≤ r.1.length ∧ ∃ ow2 ε2, Sim ⟨K, ct, mu⟩ ow2 ε2 σ H ∧ Fr ow1 H1 ow2 H ∧ loopF gD body (r.1.drop i) ε2 = some out, ⟨r.1.length - 0, rfl, Nat.zero_le _, ow1, r.2, S1, Fr.refl, hf⟩, fun i m σ2 H2 hW => ?_⟩
    obtain ⟨rfl, hile, ow2, ε2, S2, fr2, hl⟩ := hW
    have sb : Sub (cut H1 ow1) (cut H2 ow2) := fr2.sub
    have kk : PostS K ct W mu ow2 H2 E out := (k.later fr1).later fr2
    by_cases hi : i < r.1.length
    · have hd : r.1[i]? = some r.1[i] := List.getElem?_eq_getElem hi
      obtain ⟨hgo, hy⟩ := (hJ.2 i H2 (sb.trans cut_sub)).2 _ hd
      rw [List.drop_eq_getElem_cons hi] at hl
      have hl' : ((gD r.1[i] ε2).bind fun ε1 => (body ε1).bind fun o => match o with
        | .nx ε2 => loopF gD body (r.1.drop (i + 1)) ε2
        | .ct ε2 => loopF gD body (r.1.drop (i + 1)) ε2
        | .bk ε2 => some (.nx ε2)
        | .rt v ε2 => some (.rt v ε2)
        | .ex x ε2 => some (.ex x ε2)) = some out := hl
      cases e1 : gD r.1[i] ε2 with
      | none => simp [e1] at hl'
      | some ε3 =>
        simp only [e1, Option.bind_some] at hl'
        cases e2 : body ε3 with
        | none => simp [e2] at hl'
        | some o =>
          simp only [e2, Option.bind_some] at hl'
          refine .inr ⟨hgo, fun σ' H' => ∃ ow3 ε4, Sim ⟨K, ct, mu⟩ ow3 ε4 σ' H' ∧ Fr ow1 H1 ow3 H' ∧ loopF gD body (r.1.drop (i + 1)) ε4 = some out, fun σ' H' ⟨ow3, ε4, S3, fr3, h3⟩ => ⟨r.1.length - (i + 1), by omega, rfl, by omega, ow3, ε4, S3, fr3, h3⟩, fun x H' hx => ?_⟩
          obtain ⟨ow3, S3, fr3, r3⟩ := Fresh.sim S2 ((hy x H' hx).mono sb)
          refine tg mu ow3 ε2 σ2 H' x _ ε3 _ S3 r3 e1 fun σ4 S4 _ => ⟨mu, ow3, ε3, o, S4, e2, ?_⟩
          have k3 : PostS K ct W mu ow3 H' E out := kk.later fr3
          cases o with
          | nx ε5 => exact fun σ' H' ow' S' f => ⟨ow', ε5, S', (fr2.trans fr3).trans f, hl'⟩
          | ct ε5 => exact fun σ' H' ow' S' f => ⟨ow', ε5, S', (fr2.trans fr3).trans f, hl'⟩
          | bk ε5 => cases hl'; exact k3
          | rt v ε5 => cases hl'; exact k3
          | ex x ε5 => cases hl'; exact k3
    · have hl2 : r.1.drop i = [] := List.drop_eq_nil_of_le (by omega)
      rw [hl2] at hl
      cases hl
      exact .inl ⟨(hJ.2 i H2 (sb.trans cut_sub)).1 (by omega), kk σ2 H2 ow2 S2 Fr.refl⟩
theorem ds_for {tgt iter : Expr} {body : List Stmt} {pos : Pos} {vs : List Nat} {fi : IM} {g : TG} {gD : GM} {fb : SM} (hp : PassesOwn (model X.prog X.w) X.A X.env X.xe) (hc : X.calm = true) (tg : TgS X.K ct vs g gD) (hi : PI X tgt iter (tI X.K ct fi)) (hg : PG X tgt g)
    (hb : PSs X body (tSX X.K ct W fb)) (mk : PI X tgt iter (tI X.K ct fi) → PG X tgt g → PSs X body (tSX X.K ct W fb) → PS X (.For tgt iter body [] pos) (tFor (tI X.K ct fi) g (tSX X.K ct W fb))) : PS X (.For tgt iter body [] pos) (tSX X.K ct W (sFor fi gD fb)) :=
  (mk hi hg hb).imp (for_imp tg)
def loopW (c : BM) (body : SM) : Nat → SE → Option Out
  | 0, _ => none
  | n + 1, ε => (c ε).bind fun r => if r.1 = true then (body r.2).bind fun o => match o with
    | .nx ε2 => loopW c body n ε2
    | .ct ε2 => loopW c body n ε2
    | .bk ε2 => some (.nx ε2)
    | .rt v ε2 => some (.rt v ε2)
    | .ex x ε2 => some (.ex x ε2)
    else some (.nx r.2)
def sWhile (n : Nat) (c : BM) (body : SM) : SM := fun ε => loopW c body n ε
def wipeS (ε : SE) : List Nat → SE
  | [] => ε
  | v :: vs => setS (wipeS ε vs) v .no
def keepS (s : Option Sl) : Sl := match s with
  | some (.d d) => .d d
  | _ => .no
def restS (ε0 ε : SE) : List Nat → SE
  | [] => ε
  | v :: vs => setS (restS ε0 ε vs) v (keepS ε0.sl[v]?)
theorem wipeS_len (ε : SE) : ∀ vs, (wipeS ε vs).sl.length = ε.sl.length
  | [] => rfl
  | v :: vs => by show ((wipeS ε vs).sl.set v .no).length = _; rw [List.length_set, wipeS_len ε vs]
theorem wipeS_M (ε : SE) : ∀ vs, (wipeS ε vs).M = ε.M
  | [] => rfl
  | v :: vs => wipeS_M ε vs
theorem restS_len (ε0 ε : SE) : ∀ vs, (restS ε0 ε vs).sl.length = ε.sl.length
  | [] => rfl
  | v :: vs => by show ((restS ε0 ε vs).sl.set v _).length = _; rw [List.length_set, restS_len ε0 ε vs]
theorem restS_M (ε0 ε : SE) : ∀ vs, (restS ε0 ε vs).M = ε.M
  | [] => rfl
  | v :: vs => restS_M ε0 ε vs
theorem wipeS_get {ε : SE} {j : Nat} : ∀ {vs : List Nat}, (wipeS ε vs).sl[j]? = if j ∈ vs then (ε.sl[j]?).map (fun _ => Sl.no) else ε.sl[j]?
  | [] => by simp [wipeS]
  | v :: vs => by
    show ((wipeS ε vs).sl.set v .no)[j]? = _
    by_cases h : v = j
    · subst h
      rw [List.getElem?_set]
      simp only [if_true, List.mem_cons, true_or, wipeS_len]
      by_cases hl : v < ε.sl.length
      · rw [if_pos hl, List.getElem?_eq_getElem hl]; rfl
      · rw [if_neg hl, List.getElem?_eq_none (by omega)]; rfl
    · rw [List.getElem?_set_ne h, wipeS_get (vs := vs)]
      simp only [List.mem_cons]
      by_cases hm : j ∈ vs
      · simp [hm]
      · simp [hm, Ne.symm h]
theorem restS_get {ε0 ε : SE} {j : Nat} : ∀ {vs : List Nat}, (restS ε0 ε vs).sl[j]? = if j ∈ vs then (ε.sl[j]?).map (fun _ => keepS ε0.sl[j]?) else ε.sl[j]?
  | [] => by simp [restS]
  | v :: vs => by
    show ((restS ε0 ε vs).sl.set v _)[j]? = _
    by_cases h : v = j
    · subst h
      rw [List.getElem?_set]
      simp only [if_true, List.mem_cons, true_or, restS_len]
      by_cases hl : v < ε.sl.length
      · rw [if_pos hl, List.getElem?_eq_getElem (l := ε.sl) hl]; rfl
      · rw [if_neg hl, List.getElem?_eq_none (l := ε.sl) (by omega)]; rfl
    · rw [List.getElem?_set_ne h, restS_get (vs := vs)]
      simp only [List.mem_cons]
      by_cases hm : j ∈ vs
      · simp [hm]
      · simp [hm, Ne.symm h]
theorem Sim.wipe {ow : OwF} {ε : SE} {σ : L2.St} {H : Hp} (vs : List Nat) (S : Sim Γ ow ε σ H) : Sim Γ ow (wipeS ε vs) (L2.wipe σ vs) H := by
  refine ⟨by rw [wipe_length, wipeS_len, S.len], fun i d h => ?_, fun i m h => ?_, by rw [wipeS_M]; exact S.mo⟩
  · rw [wipeS_get] at h
    by_cases hi : i ∈ vs
    · rw [if_pos hi] at h
      cases e : ε.sl[i]? <;> rw [e] at h <;> simp at h
    · rw [if_neg hi] at h
      rw [wipe_get, if_neg hi]
      exact S.sd i d h
  · rw [wipeS_get] at h
    by_cases hi : i ∈ vs
    · rw [if_pos hi] at h
      cases e : ε.sl[i]? <;> rw [e] at h <;> simp at h
    · rw [if_neg hi] at h
      rw [wipe_get, if_neg hi]
      exact S.so i m h
theorem Sim.rest {ow0 ow : OwF} {ε0 ε : SE} {σ : L2.St} {H0 H : Hp} {vs : List Nat} (S0 : Sim Γ ow0 ε0 σ H0) (fr : Fr ow0 H0 ow H) (S : Sim Γ ow (wipeS ε vs) (L2.wipe σ vs) H) : Sim Γ ow (restS ε0 ε vs) σ H := by
  have hl := S.len
  rw [wipe_length, wipeS_len] at hl
  refine ⟨by rw [restS_len, hl], fun i d h => ?_, fun i m h => ?_, by have := S.mo; rw [wipeS_M] at this; rw [restS_M]; exact this⟩
  · rw [restS_get] at h
    by_cases hi : i ∈ vs
    · rw [if_pos hi] at h
      cases e : ε.sl[i]? with
      | none => rw [e] at h; cases h
      | some q =>
        rw [e] at h
        simp only [Option.map_some, Option.some.injEq] at h
        unfold keepS at h
        split at h
        · rename_i d' hd
          cases h
          obtain ⟨v, h1, h2⟩ := S0.sd i d hd
          exact ⟨v, h1, h2.mono fr.sub⟩
        · cases h
    · rw [if_neg hi] at h
      obtain ⟨v, h1, h2⟩ := S.sd i d (by rw [wipeS_get, if_neg hi]; exact h)
      rw [wipe_get, if_neg hi] at h1
      exact ⟨v, h1, h2⟩
  · rw [restS_get] at h
    by_cases hi : i ∈ vs
    · rw [if_pos hi] at h
      cases e : ε.sl[i]? with
      | none => rw [e] at h; cases h
      | some q =>
        rw [e] at h
        simp only [Option.map_some, Option.some.injEq] at h
        unfold keepS at h
        split at h <;> cases h
    · rw [if_neg hi] at h
      obtain ⟨v, h1, h2, h3⟩ := S.so i m (by rw [wipeS_get, if_neg hi]; exact h)
      rw [wipe_get, if_neg hi] at h1
      exact ⟨v, h1, h2, h3⟩
def yesB : BM := fun ε => some (true, ε)
def escE (f : EM) (ε : SE) : Option (D × SE) := (fzE f ε).bind fun r => escV r.2 r.1
theorem escE_some {f : EM} {ε : SE} {r : D × SE} (h : escE f ε = some r) : ∃ ra, fzE f ε = some ra ∧ escV ra.2 ra.1 = some r := by
  unfold escE at h
  cases e : fzE f ε with
  | none => simp [e] at h
  | some ra => simp only [e, Option.bind_some] at h; exact ⟨ra, rfl, h⟩
def compL (g : GM) (tt : BM) (te : EM) (vs : List Nat) : List D → SE → Option (List D × SE)
  | [], ε => some ([], ε)
  | d :: ds, ε => (g d (wipeS ε vs)).bind fun ε1 => (tt ε1).bind fun r => if r.1 = true then (escE te r.2).bind fun y => (compL g tt te vs ds y.2).map fun q => (y.1 :: q.1, q.2) else compL g tt te vs ds r.2
def eLc (fi : IM) (g : GM) (tt : BM) (te : EM) (vs : List Nat) : EM := fun ε => (fi ε).bind fun r => (compL g tt te vs r.1 r.2).map fun q => (.new (.lst q.1), restS r.2 q.2 vs)
theorem lc_imp {K : PySem.W.Frag} {us vs : List Nat} {fi : IM} {g : TG} {gD : GM} {tt : BM} {te : EM} (tg : TgS K ct us g gD) (hus : ∀ i ∈ us, i ∈ vs) (σ : L2.St) (H : Hp) (Q : VK) (h : tE K ct (eLc fi gD tt te vs) σ H Q) :
    tLc (tI K ct fi) g (tT K ct tt) (tE K ct (fzE te)) vs σ H Q := by
  obtain ⟨mu, ow, ε, val, ε', S, hf, k⟩ := h
  unfold eLc at hf
  cases e : fi ε with
  | none => simp [e] at hf
  | some r =>
    simp only [e, Option.bind_some] at hf
    cases e1 : compL gD tt te vs r.1 r.2 with
    | none => simp [e1] at hf
    | some q =>
      simp only [e1, Option.map_some, Option.some.injEq, Prod.mk.injEq] at hf
      obtain ⟨rfl, rfl⟩ := hf
      refine ⟨mu, ow, ε, r.1, r.2, S, e, fun J H1 ow1 S1 fr1 hJ Da hD => ?_⟩
      have hsz := hJ.1
      obtain ⟨S1', fr1'⟩ := S1.alloc (o := .lst []) hD (some .tmp)
      refine ⟨fun i m H2 => m = r.1.length - i ∧ i ≤ r.1.length ∧ ∃ ow2 ε2 acc us rest, Sim ⟨K, ct, mu⟩ ow2 (wipeS ε2 vs) (L2.wipe σ vs) H2 ∧ Fr ow1 H1 ow2 H2 ∧ ow2 Da = some .tmp ∧ H2 Da = some (.lst us) ∧ RpAll ⟨K, ct, mu⟩ (cut H2 ow2) us acc ∧
          compL gD tt te vs (r.1.drop i) ε2 = some rest ∧ q = (acc ++ rest.1, rest.2) ∧ acc.length ≤ i,
        ⟨r.1.length - 0, rfl, Nat.zero_le _, setO ow1 Da (some .tmp), r.2, [], [], q, S1'.wipe vs, fr1', setO_same, upd_same, .nil, e1, rfl, Nat.zero_le _⟩, fun i m H2 hW => ?_⟩
      obtain ⟨rfl, hile, ow2, ε2, acc, us', rest, S2, fr2, hT, hL, ra, hc, hq, hai⟩ := hW
      have sb : Sub (cut H1 ow1) (cut H2 ow2) := fr2.sub
      by_cases hi : i < r.1.length
      · have hd : r.1[i]? = some r.1[i] := List.getElem?_eq_getElem hi
        obtain ⟨hgo, hy⟩ := (hJ.2 i H2 (sb.trans cut_sub)).2 _ hd
        rw [List.drop_eq_getElem_cons hi] at hc
        have hc' : ((gD r.1[i] (wipeS ε2 vs)).bind fun ε1 => (tt ε1).bind fun r' => if r'.1 = true then (escE te r'.2).bind fun y => (compL gD tt te vs (r.1.drop (i + 1)) y.2).map fun q => (y.1 :: q.1, q.2) else compL gD tt te vs (r.1.drop (i + 1)) r'.2) = some rest := hc
        cases e2 : gD r.1[i] (wipeS ε2 vs) with
        | none => simp [e2] at hc'
        | some ε3 =>
          simp only [e2, Option.bind_some] at hc'
          cases e3 : tt ε3 with
          | none => simp [e3] at hc'
          | some tb =>
            simp only [e3, Option.bind_some] at hc'
            refine .inr ⟨hgo, fun H' => ∃ ow2 ε2 acc us rest, Sim ⟨K, ct, mu⟩ ow2 (wipeS ε2 vs) (L2.wipe σ vs) H' ∧ Fr ow1 H1 ow2 H' ∧ ow2 Da = some .tmp ∧ H' Da = some (.lst us) ∧ RpAll ⟨K, ct, mu⟩ (cut H' ow2) us acc ∧
              compL gD tt te vs (r.1.drop (i + 1)) ε2 = some rest ∧ q = (acc ++ rest.1, rest.2) ∧ acc.length ≤ i + 1, fun H' hN => ⟨r.1.length - (i + 1), by omega, rfl, by omega, hN⟩, fun x H' hx => ?_⟩
            obtain ⟨ow3, S3, fr3, r3⟩ := Fresh.sim S2 ((hy x H' hx).mono sb)
            refine tg mu ow3 (wipeS ε2 vs) (L2.wipe σ vs) H' x _ ε3 _ S3 r3 e2 fun σ4 S4 w4 => ?_
            have hw : L2.wipe σ4 vs = L2.wipe σ vs := by
              rw [w4 vs hus]
              refine List.ext_getElem? fun j => ?_
              rw [wipe_get, wipe_get]
              by_cases hj : j ∈ vs
              · rw [if_pos hj, if_pos hj, Option.map_map]; rfl
              · rw [if_neg hj, if_neg hj]
            refine ⟨hw, ?_⟩
            refine tT_then e3 S4 fun H5 ow5 S5 fr5 => ?_
            have fr25 := fr3.trans fr5
            obtain ⟨hT5, hL5⟩ := fr25.ke Da _ .tmp hL hT (.inl rfl)
            have ra5 := ra.mono fr25.sub
            by_cases hb : tb.1 = true
            · rw [if_pos hb] at hc' ⊢
              cases e4 : escE te tb.2 with
              | none => simp [e4] at hc'
              | some y =>
                simp only [e4, Option.bind_some] at hc'
                cases e5 : compL gD tt te vs (r.1.drop (i + 1)) y.2 with
                | none => simp [e5] at hc'
                | some rest2 =>
                  simp only [e5, Option.map_some, Option.some.injEq] at hc'
                  subst hc'
                  obtain ⟨yv, e6, e7⟩ := escE_some e4
                  refine ⟨mu, ow5, tb.2, yv.1, yv.2, S5, e6, fun v H6 ow6 S6 fr6 r6 => ?_⟩
                  obtain ⟨va, ha, hv⟩ := fzE_some e6
                  rw [hv] at r6 e7
                  obtain ⟨ow7, S7, fr7, r7⟩ := VR.esc S6 r6 e7
                  have fr57 := fr6.trans fr7
                  obtain ⟨hT7, hL7⟩ := fr57.ke Da _ .tmp hL5 hT5 (.inl rfl)
                  have ra7 := ra5.mono fr57.sub
                  have hll : us'.length = acc.length := ra.length
                  refine ⟨us', hL7, Nat.lt_of_lt_of_le (m := r.1.length) (by omega) (sz_line hsz), ?_⟩
                  -- the list grows
                  have hcut : cut (upd H6 Da (.lst (us' ++ [v]))) ow7 = cut H6 ow7 := by
                    funext a
                    by_cases haD : a = Da
                    · subst haD; unfold cut; rw [hT7]
                    · unfold cut; rw [upd_ne haD]
                  have S8 : Sim ⟨K, ct, mu⟩ ow7 y.2 σ4 (upd H6 Da (.lst (us' ++ [v]))) := S7.move (by rw [hcut]; exact Sub.refl _) fun a o w h e q => by
                    have n : a ≠ Da := by
                      rintro rfl
                      rw [hT7] at e; cases e
                      rcases q with ⟨_, q⟩ | ⟨_, q⟩ <;> cases q
                    exact ⟨e, by rw [upd_ne n]; exact h⟩
                  have fr8 : Fr ow1 H1 ow7 (upd H6 Da (.lst (us' ++ [v]))) := by
                    have f := (fr2.trans fr25).trans fr57
                    have ne : ∀ a o, H1 a = some o → a ≠ Da := fun a o h => ne_of_none h hD
                    exact ⟨fun a o h e => by rw [upd_ne (ne a o h)]; exact f.fz a o h e, fun a o w h e q => by rw [upd_ne (ne a o h)]; exact f.ke a o w h e q,
                      fun a o h => by rw [upd_ne (ne a o h)]; exact f.tr a o h, f.ob⟩
                  refine ⟨ow7, y.2, acc ++ [y.1], us' ++ [v], rest2, ?_, fr8, hT7, upd_same, ?_, e5, ?_, by rw [List.length_append]; simp only [List.length_singleton]; omega⟩
                  · have := S8.wipe vs
                    rw [hw] at this
                    exact this
                  · rw [hcut]; exact ra7.append (.one r7)
                  · rw [hq, List.append_assoc]; rfl
            · rw [if_neg hb] at hc' ⊢
              refine ⟨ow5, tb.2, acc, us', rest, ?_, fr2.trans fr25, hT5, hL5, ra5, hc', hq, by omega⟩
              have := S5.wipe vs
              rw [hw] at this
              exact this
      · have hl2 : r.1.drop i = [] := List.drop_eq_nil_of_le (by omega)
        rw [hl2] at hc
        cases hc
        refine .inl ⟨(hJ.2 i H2 (sb.trans cut_sub)).1 (by omega), ?_⟩
        have hq' : q = (acc, ε2) := by rw [hq]; simp
        subst hq'
        exact k _ H2 ow2 (Sim.rest S1 fr2 S2) (fr1.trans fr2) ⟨Da, rfl, hT, fr1.none hD, us', hL, ra, by show acc.length ≤ 16777216; omega⟩
end
end KD

set_option maxHeartbeats 4000000
namespace KD
open PySem L2

inductive Sk | lst (a : Addr) | tup (a : Addr) | txt (x : Str) (t : Tok)
def Sk.val : Sk → Value
  | .lst a => .ref a
  | .tup a => .ref a
  | .txt x t => .str x t
def Sk.itp (k : Sk) (it : Addr) (i : Nat) (h : Heap) : Prop := match k with
  | .lst a => h.IsListIter it a i
  | .tup a => h.IsTupleIter it a i
  | .txt x t => h.IsStrIter it (strIterType x) x t i
def Sk.obj : Sk → Obj
  | .lst a => { cls := .type "list_iterator", data := .fields #[.ref a, .int 0 0] }
  | .tup a => { cls := .type "tuple_iterator", data := .fields #[.ref a, .int 0 0] }
  | .txt x t => { cls := .type (strIterType x), data := .fields #[.str x t, .int 0 0] }
def Sk.ok (k : Sk) (K : PySem.W.Frag) (H : Hp) (xs : List V) : Prop := match k with
  | .lst a => SqL K H a xs
  | .tup a => SqT K H a xs
  | .txt x _ => xs = x.cps.toList.map fun c => V.str ⟨#[c]⟩
def Sk.box : Sk → List Addr
  | .lst a => [a]
  | .tup a => [a]
  | .txt _ _ => []
section
variable {X : Cx} {pins : List (Addr × Obj)} {σ : L2.St} {H : Hp} {s : Shared} {K : PySem.W.Frag}
theorem Sk.keep {k : Sk} {it : Addr} {i : Nat} {h h' : Heap} (st : k.itp it i h) (q : ∀ o, h.get? it = some o → h'.get? it = some o) : k.itp it i h' := by
  cases k with
  | lst a => exact Heap.IsListIter.at st q
  | tup a => exact Heap.IsTupleIter.at st q
  | txt x t => obtain ⟨o, ho, r⟩ := st; exact ⟨o, q o ho, r⟩
theorem Sk.live {k : Sk} {it : Addr} {i : Nat} {h : Heap} (st : k.itp it i h) : ∃ o, h.get? it = some o ∧ ∀ v, o.data ≠ .cell v := by
  cases k with
  | lst a => obtain ⟨o, ho, c, d⟩ := st; exact ⟨o, ho, fun v z => by rw [d] at z; cases z⟩
  | tup a => obtain ⟨o, ho, c, d⟩ := st; exact ⟨o, ho, fun v z => by rw [d] at z; cases z⟩
  | txt x t => obtain ⟨o, ho, c, d⟩ := st; exact ⟨o, ho, fun v z => by rw [d] at z; cases z⟩
theorem Sk.first {k : Sk} {it : Addr} {h : Heap} (e : h.get? it = some k.obj) : k.itp it 0 h := by
  cases k with
  | lst a => exact ⟨_, e, rfl, rfl⟩
  | tup a => exact ⟨_, e, rfl, rfl⟩
  | txt x t => exact ⟨_, e, rfl, rfl⟩
theorem Sk.apart {k : Sk} {xs : List V} {b : Addr} (I : Inv X pins σ H s) (ok : k.ok X.K H xs) (hb : FpOk X pins H b) : b ∉ k.box := by
  have base : ∀ a o, X.K.lookup a = some o → b ≠ a := fun a o e => by
    rintro rfl
    have hbs : X.base.get? b = some o := I.ok.mod.kin b o e
    rcases hb.2.2.2.1 with z | z
    · exact I.ok.noex b o hbs z
    · exact absurd (Nat.lt_of_lt_of_le (Heap.lt_size hbs) I.ok.bsz) (Nat.not_lt.mpr z)
  have rd : ∀ a u, Rd H a u → b ≠ a := fun a u r => by
    rintro rfl
    rcases r with r | ⟨o, r⟩ <;> rw [hb.1] at r <;> cases r
  cases k with
  | lst a =>
    intro hm
    have hm : b = a := by simpa [Sk.box] using hm
    subst hm
    rcases ok with r | ⟨o, its, n, e, _⟩
    · exact rd _ _ r rfl
    · exact base _ _ e rfl
  | tup a =>
    intro hm
    have hm : b = a := by simpa [Sk.box] using hm
    subst hm
    rcases ok with r | ⟨o, its, n, e, _⟩
    · exact rd _ _ r rfl
    · exact base _ _ e rfl
  | txt x t => intro hm; simp [Sk.box] at hm
theorem Sk.draws {k : Sk} {xs : List V} {A : Around} {it : Addr} (hh : A.handled = none) (I : Inv X pins σ H s) (ok : k.ok X.K H xs) (hit : it ∉ k.box) :
    ∃ (P : Nat → Value → Prop) (St : Nat → Heap → Prop), Draws X.prog X.w A it (it :: k.box) xs.length P St ∧ (∀ i, k.itp it i s.heap → St i s.heap) ∧ (∀ i h, St i h → k.itp it i h) ∧ ∀ i v, P i v → ∃ x, xs[i]? = some x ∧ RelV x v := by
  cases k with
  | lst a =>
    obtain ⟨its, rv, p, _⟩ := I.list ok
    have hne : a ≠ it := fun e => hit (by rw [e]; simp [Sk.box])
    have hn : its.toArray.size = xs.length := by rw [List.size_toArray, rv.length]
    refine ⟨_, fun i h => h.IsListIter it a i ∧ h.IsList a its.toArray, by rw [← hn]; exact Draws.list hh it a hne its.toArray, fun i st => ⟨st, p.isList⟩, fun i h st => st.1, fun i v hv => ?_⟩
    have hv' : its[i]? = some v := by simpa using hv
    cases e : xs[i]? with
    | none => rw [rv.none_of e] at hv'; cases hv'
    | some x =>
      obtain ⟨u, hu, ru⟩ := rv.get e
      rw [hv'] at hu; cases hu
      exact ⟨x, rfl, ru⟩
  | tup a =>
    obtain ⟨its, rv, p, _⟩ := I.tuple ok
    have hne : a ≠ it := fun e => hit (by rw [e]; simp [Sk.box])
    have hn : its.toArray.size = xs.length := by rw [List.size_toArray, rv.length]
    refine ⟨_, fun i h => h.IsTupleIter it a i ∧ h.IsTuple a its.toArray, by rw [← hn]; exact Draws.tuple hh it a hne its.toArray, fun i st => ⟨st, p⟩, fun i h st => st.1, fun i v hv => ?_⟩
    have hv' : its[i]? = some v := by simpa using hv
    cases e : xs[i]? with
    | none => rw [rv.none_of e] at hv'; cases hv'
    | some x =>
      obtain ⟨u, hu, ru⟩ := rv.get e
      rw [hv'] at hu; cases hu
      exact ⟨x, rfl, ru⟩
  | txt x t =>
    have ok' : xs = x.cps.toList.map fun c => V.str ⟨#[c]⟩ := ok
    have hn : x.cps.size = xs.length := by rw [ok']; simp
    refine ⟨_, _, by rw [← hn]; exact Draws.text hh it x t, fun i st => st, fun i h st => st, fun i v hv => ?_⟩
    obtain ⟨c, u, hc, rfl⟩ := hv
    refine ⟨.str ⟨#[c]⟩, ?_, u, rfl⟩
    rw [ok', List.getElem?_map, show x.cps.toList[i]? = some c by simpa using hc]
    rfl
def Itg (k : Sk) (K : PySem.W.Frag) (xs : List V) (w : Nat → V → V → Prop) : It :=
  ⟨fun i H => k.ok K H xs ∧ i < xs.length, fun i H v H' => ∃ T x y, v = .ref T ∧ H T = none ∧ H' = upd H T (.tup [y, x]) ∧ xs[i]? = some x ∧ w i x y, fun i H => k.ok K H xs ∧ xs.length = i⟩
theorem turn_enumG {P : Program} {w : World} {elts : List Expr} {kk : Nat} {tpos : Pos} {k : Sk} {xs : List V} {e it : Addr} :
    Turn P w K (.Tuple elts kk tpos) (Itg k K xs fun i _ y => y = .int (i : Nat)) [e, it] e (fun i h => (∃ old, IsEnum h e it ((i : Nat) : Int) old) ∧ k.itp it i h ∧ e ≠ it) where
  mem := by simp
  obj := fun i h st b hb => by
    obtain ⟨⟨old, he⟩, hi, _⟩ := st
    have e' : b = e ∨ b = it := by simpa using hb
    rcases e' with z | z
    · rw [z]; exact ⟨_, he, fun v q => nomatch q⟩
    · rw [z]; exact Sk.live hi
  keep := fun i h h' st q => let ⟨⟨old, he⟩, hi, hne⟩ := st; ⟨⟨old, q e (by simp) _ he⟩, Sk.keep hi fun o z => q it (by simp) o z, hne⟩
  item := by
    intro X hP hw hK hc i pins s σ H E I hf st hg
    subst hP hw hK
    obtain ⟨⟨old, he⟩, hit, hne⟩ := st
    obtain ⟨ok, hi⟩ := hg
    have hef := Sk.apart I ok (hf e (by simp))
    have hif := Sk.apart I ok (hf it (by simp))
    obtain ⟨Pp, St, D, st1, st2, hP⟩ := Sk.draws (A := X.A.in1) (it := it) (I.ok.hd hc) I ok hif
    have W := WalksT.enumFrom (prog := X.prog) (w := X.w) (A := X.A) 0 D e hne (by simp only [List.mem_cons, not_or]; exact ⟨hne, hef⟩) List.mem_cons_self
    refine W.item i s _ _ hi ⟨⟨old, by simpa using he⟩, st1 i hit⟩ fun T vals h' tk hv hn hT hmid hk => ⟨_, rfl, W.go elts kk tpos i T { s with heap := h', toks := tk } _ _ hmid fun h'' st' hk' => ?_⟩
    obtain ⟨t, u, hPu, rfl⟩ := hv
    obtain ⟨x, hx, rx⟩ := hP i u hPu
    have hTw : T ∉ [e, it] := W.apart i T h' hmid
    have hT2 : h''.IsTuple T #[.int (0 + (i : Int)) t, u] := hT.at fun o q => hk' T o hTw q
    have new : ObjOk X.prog X.w (upd H T (.tup [.int (i : Nat), x])) h'' T (.tup [.int (i : Nat), x]) :=
      ⟨by show 2 ≤ sizeLine; decide, [.int (0 + (i : Int)) t, u], .cons ⟨t, by rw [Int.zero_add]⟩ (.cons rx .nil), hT2⟩
    have I1 : Inv X pins σ (upd H T (.tup [.int (i : Nat), x])) { s with heap := h'', toks := tk } :=
      I.turnedNew (ch := [e, it]) (fun b ob hb q => hk' b ob hb (hk b ob hb q)) hf hn new
    refine ⟨.ref T, _, I1, rfl, ⟨T, x, _, rfl, I.hok.fresh hn, rfl, hx, rfl⟩, ⟨by simpa using st'.1, st2 _ _ st'.2, hne⟩, fun b hb => ?_⟩
    have nb : b ≠ T := by rintro rfl; exact hTw hb
    rw [upd_ne nb]
    exact (hf b hb).1
  done := by
    intro X hP hw hK hc i pins s σ H E I hf st hg
    subst hP hw hK
    obtain ⟨⟨old, he⟩, hit, hne⟩ := st
    obtain ⟨ok, hi⟩ := hg
    subst hi
    have hef := Sk.apart I ok (hf e (by simp))
    have hif := Sk.apart I ok (hf it (by simp))
    obtain ⟨Pp, St, D, st1, st2, hP⟩ := Sk.draws (A := X.A.in1) (it := it) (I.ok.hd hc) I ok hif
    have W := WalksT.enumFrom (prog := X.prog) (w := X.w) (A := X.A) 0 D e hne (by simp only [List.mem_cons, not_or]; exact ⟨hne, hef⟩) List.mem_cons_self
    exact W.done s _ _ ⟨⟨old, by simpa using he⟩, st1 _ hit⟩ fun h' tk hk => ⟨rfl, I.turnedL (ch := [e, it]) (fun b ob hb q => hk b ob hb q) hf⟩
  self := fun A i s Q E st h => let ⟨⟨_, he⟩, _⟩ := st; wpAny_pyIter_enum he h
theorem Sk.begins (k : Sk) {K : PySem.W.Frag} {xs : List V} (I : Inv X pins σ H s) (ok : k.ok X.K H xs) : ∃ C : Heap → Prop, Begins k.val k.obj C ∧ C s.heap := by
  cases k with
  | lst a =>
    obtain ⟨its, rv, p, _⟩ := I.list ok
    exact ⟨_, begins_list a its.toArray, p.isList⟩
  | tup a =>
    obtain ⟨its, rv, p, _⟩ := I.tuple ok
    exact ⟨_, begins_tuple a its.toArray, p⟩
  | txt x t => exact ⟨_, begins_text x t, trivial⟩
end
set_option maxHeartbeats 4000000 in
theorem meets_enumerate_newB1 {v : Value} {o : Obj} {H : Heap → Prop} (B : Begins v o H) :
    Meets (Builtin.«enumerate.__new__» ⟨[.type "enumerate", v], []⟩) (fun _ R s => H s.heap ∧
      R (.ok (.ret (.ref (s.heap.push o).objs.size))) { s with heap := (s.heap.push o).push { cls := .type "enumerate", data := .fields #[.none, .bool false, .ref s.heap.objs.size, rawInt 0, .none, .none] } }) :=
  .of_wp fun prog w A R s h => by
    obtain ⟨hp, g, d, tk, os⟩ := s; obtain ⟨h1, h⟩ := h
    have hsub := sub_enumerate
    have q1 : ∀ {A' : Around} {E : Value → Shared → Prop} {Q : Value → Shared → Prop}, Q (.ref hp.objs.size) ⟨hp.push o, g, d, tk, os⟩ → wpAny (model prog w) A' (pyIter v) Q E ⟨hp, g, d, tk, os⟩ :=
      fun q => B.iter prog w _ _ ⟨hp, g, d, tk, os⟩ _ h1 q
    wp_walk using q1
    refine wpAny_stack_any fun st => wpAny_pure ?_
    split
    · rename_i c _ _ _ _ _
      cases (c == Value.type "enumerate")
      · wp_walk using q1
        exact ⟨_, rfl, h⟩
      · wp_walk using q1
        exact ⟨_, rfl, h⟩
    · wp_walk using q1
      exact ⟨_, rfl, h⟩
theorem enum_begins1 {prog : Program} {w : World} {A : Around} {E : Value → Shared → Prop} {s : Shared} {v : Value} {o : Obj} {H : Heap → Prop} {Q : Value → Shared → Prop} (B : Begins v o H) (h1 : H s.heap)
    (h : ∀ h', IsEnum h' (s.heap.objs.size + 1) s.heap.objs.size 0 .none → h'.get? s.heap.objs.size = some o → h'.objs.size = s.heap.objs.size + 2 →
      (∀ b o, s.heap.get? b = some o → h'.get? b = some o) → Q (.ref (s.heap.objs.size + 1)) { s with heap := h' }) :
    wpAny (model prog w) A (call (.type "enumerate") [v]) Q E s := by
  refine callType_new F.called_enumerate (by decide) (F.typeCall_enumerate_1 _) (F.newCall_enumerate_1 _) (fun obj => F.args_object_init_2 obj _) F.entry_enumerate_new
    (meets_enumerate_newB1 B) ⟨h1, ?_⟩
  have hz : (s.heap.push o).objs.size = s.heap.objs.size + 1 := Heap.size_push ..
  show _ ∧ _
  rw [hz]
  have he : IsEnum ((s.heap.push o).push { cls := .type "enumerate", data := .fields #[.none, .bool false, .ref s.heap.objs.size, rawInt 0, .none, .none] }) (s.heap.objs.size + 1) s.heap.objs.size 0 .none := by
    have := Heap.get?_push_size (s.heap.push o) (o := { cls := .type "enumerate", data := .fields #[.none, .bool false, .ref s.heap.objs.size, rawInt 0, .none, .none] }) rfl
    rw [hz] at this; exact this
  refine ⟨⟨_, he, rfl⟩, h _ he (Heap.get?_push_of_some _ (Heap.get?_push_size _ B.free)) (by rw [Heap.size_push, hz]) fun b o x => Heap.get?_push_of_some _ (Heap.get?_push_of_some _ x)⟩
section
variable {X : Cx} {pins : List (Addr × Obj)} {σ : L2.St} {H : Hp} {s : Shared} {K : PySem.W.Frag}
def SkV (K : PySem.W.Frag) (H : Hp) (v : V) (xs : List V) (kf : Tok → Sk) : Prop := (∀ u, RelV v u → ∃ t, (kf t).val = u) ∧ ∀ t, (kf t).ok K H xs
def iEnumG (K : PySem.W.Frag) (ta : TA) : TI := fun σ H R => ta σ H fun vs H1 => ∃ v xs kf, vs = [v] ∧ SkV K H1 v xs kf ∧ ∀ t, R (Itg (kf t) K xs fun i _ y => y = .int (i : Nat)) H1
theorem pi_enumG {X : Cx} {e : Expr} {ta : TA} {p pos tpos : Pos} {elts : List Expr} {kk : Nat} (hg : Gl X "enumerate") (hm : X.mg "enumerate" = none) (ha : PA X [e] ta) (hs : starEach [e] X.env = [(false, eval e X.env)] := by rfl) :
    PI X (.Tuple elts kk tpos) (.Call (.Name "enumerate" p) [e] [] pos) (iEnumG X.K ta) := by
  refine ⟨fun pins s σ H R I h => ?_⟩
  refine PyProof.Rows.Call_ (ld_blt I hg hm PyProof.Rows.boot_enumerate (PyProof.Rows.callWith_type1 (thn (ha.run pos pins s σ H _ I h) fun us s1 ⟨vs, H1, I1, r1, q1⟩ => ?_) hs rfl))
  obtain ⟨v, xs, kf, ex, hq, q⟩ := q1
  subst ex
  cases r1 with
  | cons r rr =>
    cases rr
    obtain ⟨t, ek⟩ := hq.1 _ r
    subst ek
    have ok := hq.2 t
    obtain ⟨C, B, hC⟩ := Sk.begins (kf t) (K := X.K) I1 ok
    refine enum_begins1 B hC fun h' he hit hsz hk => wpAny_pyIter_enum he ?_
    have I2 : Inv X pins σ H1 { s1 with heap := h' } := I1.kept (t' := s1.toks) hk
    refine ⟨s1.heap.objs.size + 1, [s1.heap.objs.size + 1, s1.heap.objs.size], _, _, H1, rfl, I2, turn_enumG (k := kf t) (xs := xs) (e := s1.heap.objs.size + 1) (it := s1.heap.objs.size), ⟨⟨.none, he⟩, Sk.first hit, Nat.succ_ne_self _⟩, fun b hb => ?_, q t⟩
    have e' : b = s1.heap.objs.size + 1 ∨ b = s1.heap.objs.size := by simpa using hb
    have hle : s1.heap.objs.size ≤ b := by
      rcases e' with z | z
      · rw [z]; exact Nat.le_add_right _ _
      · rw [z]; exact Nat.le_refl _
    exact I1.fpOk hle (I1.hok.fresh hle)
theorem iList_walk {K : PySem.W.Frag} {a : Addr} : ∀ {xs : List V} (i : Nat) (H : Hp), SqL K H a xs → (xs.length = i → (Itl K a).stop i H) ∧ ∀ x, xs[i]? = some x → (Itl K a).go i H ∧ ∀ y H', (Itl K a).yld i H y H' → H' = H ∧ y = x := fun i H h =>
  ⟨fun e => ⟨_, h, Nat.le_of_eq e⟩, fun x hx => ⟨⟨_, _, h, hx⟩, fun y H' q => ⟨q.1, by have := q.2 _ h; rw [hx] at this; cases this; rfl⟩⟩⟩
theorem iTup_walk {K : PySem.W.Frag} {a : Addr} : ∀ {xs : List V} (i : Nat) (H : Hp), SqT K H a xs → (xs.length = i → (Itt K a).stop i H) ∧ ∀ x, xs[i]? = some x → (Itt K a).go i H ∧ ∀ y H', (Itt K a).yld i H y H' → H' = H ∧ y = x := fun i H h =>
  ⟨fun e => ⟨_, h, Nat.le_of_eq e⟩, fun x hx => ⟨⟨_, _, h, hx⟩, fun y H' q => ⟨q.1, by have := q.2 _ h; rw [hx] at this; cases this; rfl⟩⟩⟩
def iAny (K : PySem.W.Frag) (te : TE) : TI := fun σ H R => te σ H fun v H1 => (∃ a xs, v = .ref a ∧ SqL K H1 a xs ∧ R (Itl K a) H1) ∨ (∃ a xs, v = .ref a ∧ SqT K H1 a xs ∧ R (Itt K a) H1) ∨ ∃ x, v = .str x ∧ R (Its x) H1
theorem pi_any {X : Cx} {tg l : Expr} {tl : TE} (hl : PE X l tl) : PI X tg l (iAny X.K tl) := by
  refine ⟨fun pins s σ H R I h => ?_⟩
  refine thn (hl.run pins s σ H _ I h) fun v s1 ⟨x, H1, I1, r1, q1⟩ => ?_
  rcases q1 with ⟨a, xs, e, hq, q⟩ | ⟨a, xs, e, hq, q⟩ | ⟨x, e, q⟩
  · subst e
    cases r1
    obtain ⟨its, rv, p, hz⟩ := I1.list hq
    refine wpAny_pyIter_list p.isList ?_
    exact pi_one (tk := s1.toks) I1 _ (turn_list a _) ⟨_, Heap.get?_push_size _ rfl, rfl, rfl⟩ q
  · subst e
    cases r1
    obtain ⟨its, rv, p, hz⟩ := I1.tuple hq
    refine wpAny_pyIter_tuple (show s1.heap.IsTuple a its.toArray from p) ?_
    exact pi_one (tk := s1.toks) I1 _ (turn_tuple a _) ⟨_, Heap.get?_push_size _ rfl, rfl, rfl⟩ q
  · subst e
    obtain ⟨t, rfl⟩ := r1
    cases ha : x.cps.all (· < 128)
    · exact wpAny_pyIter_wide ha (pi_one (tk := s1.toks) I1 _ (turn_str _ x t "str_iterator" (.inr rfl)) ⟨_, Heap.get?_push_size _ rfl, rfl, rfl⟩ q)
    · exact wpAny_pyIter_ascii ha (pi_one (tk := s1.toks) I1 _ (turn_str _ x t "str_ascii_iterator" (.inl rfl)) ⟨_, Heap.get?_push_size _ rfl, rfl, rfl⟩ q)
end
end KD

set_option maxHeartbeats 4000000
namespace KD
open PySem L2
section
variable {X : Cx} {ct : Nat → Addr} {Γ : Gam}

def chD (c : Nat) : D := .str ⟨#[c]⟩
def seqD : D → Option (List D)
  | .lst l => some l
  | .tup l => some l
  | .str s => some (s.cps.toList.map chD)
  | .scr l => some (l.map .int)
  | _ => none
theorem rp_ints {F : Hp} : ∀ ns : List Int, RpAll Γ F (ns.map V.int) (ns.map D.int)
  | [] => .nil
  | n :: ns => .cons (.int n) (rp_ints ns)
theorem sOk_ch {c : Nat} (h : c < 1114112) : sOk ⟨#[c]⟩ = true := by
  unfold sOk
  simp [h]
theorem rp_chars {F : Hp} : ∀ cs : List Nat, (∀ c ∈ cs, c < 1114112) → RpAll Γ F (cs.map fun c => V.str ⟨#[c]⟩) (cs.map chD)
  | [], _ => .nil
  | n :: ns, h => .cons (.str _ (sOk_ch (h n List.mem_cons_self))) (rp_chars ns fun c hc => h c (List.mem_cons_of_mem _ hc))
theorem sOk_all {s : Str} (h : sOk s = true) : (∀ c ∈ s.cps.toList, c < 1114112) ∧ s.cps.toList.length ≤ 16777216 := by
  unfold sOk at h
  rw [Bool.and_eq_true] at h
  refine ⟨fun c hc => ?_, by simpa using h.2⟩
  have := Array.all_eq_true'.mp h.1 c (by simpa using hc)
  simpa using this
def iSeq (fe : EM) : IM := fun ε => (escE fe ε).bind fun r => (seqD r.1).map fun l => (l, r.2)
theorem iSeq_some {fe : EM} {ε : SE} {q : List D × SE} (h : iSeq fe ε = some q) : ∃ r, escE fe ε = some r ∧ seqD r.1 = some q.1 ∧ q.2 = r.2 := by
  unfold iSeq at h
  cases e : escE fe ε with
  | none => simp [e] at h
  | some r =>
    simp only [e, Option.bind_some] at h
    cases e2 : seqD r.1 with
    | none => simp [e2] at h
    | some l => simp only [e2, Option.map_some, Option.some.injEq] at h; exact ⟨r, rfl, by rw [← h]; exact e2, by rw [← h]⟩
theorem tE_esc {K : PySem.W.Frag} {mu : Nat → Option Addr} {fe : EM} {ow : OwF} {ε : SE} {σ : L2.St} {H : Hp} {r : D × SE} {P : V → Hp → Prop} (e : escE fe ε = some r) (S : Sim ⟨K, ct, mu⟩ ow ε σ H)
    (k : ∀ v H1 ow1, Sim ⟨K, ct, mu⟩ ow1 r.2 σ H1 → Fr ow H ow1 H1 → Rp ⟨K, ct, mu⟩ (cut H1 ow1) v r.1 → P v H1) : tE K ct (fzE fe) σ H P := by
  obtain ⟨ra, e1, e2⟩ := escE_some e
  refine ⟨mu, ow, ε, ra.1, ra.2, S, e1, fun v H1 ow1 S1 fr1 r1 => ?_⟩
  obtain ⟨va, ha, hv⟩ := fzE_some e1
  rw [hv] at r1 e2
  obtain ⟨ow2, S2, fr2, r2⟩ := VR.esc S1 r1 e2
  exact k v H1 ow2 S2 (fr1.trans fr2) r2
theorem it_any {tg l : Expr} {fe : EM} (h : PE X l (tE X.K ct fe)) : PI X tg l (tI X.K ct (iSeq fe)) := (pi_any (de_fz h)).imp fun σ H R ⟨mu, ow, ε, ds, ε', S, hf, k⟩ => by
  obtain ⟨r, e1, e2, e3⟩ := iSeq_some hf
  dsimp only at e2 e3
  subst e3
  refine tE_esc e1 S fun v H1 ow1 S1 fr1 r1 => ?_
  have frozenL : ∀ a us, SqL X.K (cut H1 ow1) a us → RpAll ⟨X.K, ct, mu⟩ (cut H1 ow1) us ds → ds.length ≤ 16777216 → R (Itl X.K a) H1 := fun a us hs ra hl => k _ H1 ow1 S1 fr1 ⟨hl, fun i H2 sb => by
    obtain ⟨h1, h2⟩ := iList_walk i H2 (sb.sql hs)
    refine ⟨fun e => h1 (by rw [ra.length]; exact e), fun d hd => ?_⟩
    obtain ⟨u, hu, ru⟩ := ra.get hd
    obtain ⟨q1, q2⟩ := h2 u hu
    exact ⟨q1, fun y H' hy => by obtain ⟨rfl, rfl⟩ := q2 y H' hy; exact .same ru⟩⟩
  cases hd : r.1 with
  | lst l =>
    rw [hd] at r1 e2
    cases e2
    cases r1 with
    | lst hs ra hl => exact .inl ⟨_, _, rfl, .of (cut_sub _ _ hs), frozenL _ _ (.of hs) ra hl⟩
  | scr ns =>
    rw [hd] at r1 e2
    cases e2
    cases r1 with
    | scr hs hl => exact .inl ⟨_, _, rfl, cut_sub.sql hs, frozenL _ _ hs (rp_ints ns) (by rw [List.length_map]; exact hl)⟩
  | tup l =>
    rw [hd] at r1 e2
    cases e2
    cases r1 with
    | tup hs ra hl =>
      refine .inr (.inl ⟨_, _, rfl, cut_sub.sqt hs.sqt, k _ H1 ow1 S1 fr1 ⟨hl, fun i H2 sb => ?_⟩⟩)
      obtain ⟨h1, h2⟩ := iTup_walk i H2 (sb.sqt hs.sqt)
      refine ⟨fun e => h1 (by rw [ra.length]; exact e), fun d hd => ?_⟩
      obtain ⟨u, hu, ru⟩ := ra.get hd
      obtain ⟨q1, q2⟩ := h2 u hu
      exact ⟨q1, fun y H' hy => by obtain ⟨rfl, rfl⟩ := q2 y H' hy; exact .same ru⟩
  | str x =>
    rw [hd] at r1 e2
    cases e2
    cases r1 with | str _ hx => ?_
    obtain ⟨hx1, hx2⟩ := sOk_all hx
    refine .inr (.inr ⟨x, rfl, k _ H1 ow1 S1 fr1 ⟨by rw [List.length_map]; exact hx2, fun i H2 sb => ⟨fun e => ?_, fun d hd => ?_⟩⟩⟩)
    · have e' : x.cps.size = i := by simpa using e
      exact Nat.le_of_eq e'
    · have hd' : (x.cps.toList[i]?).map chD = some d := by rw [← List.getElem?_map]; exact hd
      cases hc : x.cps.toList[i]? with
      | none => rw [hc] at hd'; cases hd'
      | some c =>
        rw [hc] at hd'
        cases hd'
        have hc' : x.cps[i]? = some c := by simpa using hc
        refine ⟨(Array.getElem?_eq_some_iff.mp hc').1, fun y H' hy => ?_⟩
        obtain ⟨rfl, c', hc2, rfl⟩ := hy
        rw [hc'] at hc2
        cases hc2
        exact .same (.str _ (sOk_ch (hx1 c (List.mem_of_getElem? hc))))
  | _ => rw [hd] at e2; cases e2
theorem skv_of {F H : Hp} {v : V} {d : D} {l : List D} (r : Rp Γ F v d) (e : seqD d = some l) : ∃ us kf, (∀ H, Sub F H → SkV Γ.K H v us kf) ∧ RpAll Γ F us l ∧ l.length ≤ 16777216 := by
  cases d with
  | lst l' =>
    cases e
    cases r with | lst hs ra hl => exact ⟨_, fun _ => .lst _, fun H sb => ⟨fun u hu => ⟨0, hu.symm⟩, fun t => .of (sb _ _ hs)⟩, ra, hl⟩
  | tup l' =>
    cases e
    cases r with | tup hs ra hl => exact ⟨_, fun _ => .tup _, fun H sb => ⟨fun u hu => ⟨0, hu.symm⟩, fun t => sb.sqt hs.sqt⟩, ra, hl⟩
  | scr ns =>
    cases e
    cases r with | scr hs hl => exact ⟨_, fun _ => .lst _, fun H sb => ⟨fun u hu => ⟨0, hu.symm⟩, fun t => sb.sql hs⟩, rp_ints ns, by rw [List.length_map]; exact hl⟩
  | str x =>
    cases e
    cases r with
    | str _ hx => exact ⟨_, fun t => .txt x t, fun H sb => ⟨fun u ⟨t, hu⟩ => ⟨t, hu.symm⟩, fun t => rfl⟩, rp_chars _ (sOk_all hx).1, by rw [List.length_map]; exact (sOk_all hx).2⟩
  | _ => cases e
def enumD (l : List D) : List D := l.zipIdx.map fun p => .pair [.int (p.2 : Int), p.1]
theorem enumD_get {l : List D} {i : Nat} {d : D} (h : (enumD l)[i]? = some d) : ∃ x, l[i]? = some x ∧ d = .pair [.int (i : Int), x] := by
  unfold enumD at h
  rw [List.getElem?_map, List.getElem?_zipIdx] at h
  cases e : l[i]? with
  | none => rw [e] at h; cases h
  | some x => rw [e] at h; cases h; exact ⟨x, rfl, by simp⟩
theorem enumD_len {l : List D} : (enumD l).length = l.length := by unfold enumD; simp
def iEnum1 (fe : EM) : IM := fun ε => (iSeq fe ε).map fun r => (enumD r.1, r.2)
theorem tA_one {K : PySem.W.Frag} {mu : Nat → Option Addr} {fe : EM} {ow : OwF} {ε : SE} {σ : L2.St} {H : Hp} {r : D × SE} {P : List V → Hp → Prop} (e : escE fe ε = some r) (S : Sim ⟨K, ct, mu⟩ ow ε σ H)
    (k : ∀ v H1 ow1, Sim ⟨K, ct, mu⟩ ow1 r.2 σ H1 → Fr ow H ow1 H1 → Rp ⟨K, ct, mu⟩ (cut H1 ow1) v r.1 → P [v] H1) : tA K ct (aCons fe aNil) σ H P := by
  obtain ⟨ra, e1, e2⟩ := escE_some e
  refine ⟨mu, ow, ε, [ra.1], ra.2, S, by unfold aCons; rw [e1]; rfl, fun vs H1 ow1 S1 fr1 r1 => ?_⟩
  obtain ⟨va, ha, hv⟩ := fzE_some e1
  cases vs with
  | nil => exact r1.elim
  | cons v vs =>
    cases vs with
    | cons _ _ => exact r1.2.elim
    | nil =>
      have r1' := r1.1
      have e2' : escV ra.2 (fzv ra.1) = some r := by rw [hv, fzv_fzv, ← hv]; exact e2
      obtain ⟨ow2, S2, fr2, r2⟩ := VR.esc S1 r1' e2'
      exact k v H1 ow2 S2 (fr1.trans fr2) r2
theorem it_enum {e : Expr} {fe : EM} {p pos tpos : Pos} {elts : List Expr} {kk : Nat} (h : PE X e (tE X.K ct fe)) (hm : X.mg "enumerate" = none) (hg : Gl X "enumerate" := by rfl) (hs : starEach [e] X.env = (false, eval e X.env) :: starEach [] X.env := by rfl) (hs' : starEach [e] X.env = [(false, eval e X.env)] := by rfl) :
    PI X (.Tuple elts kk tpos) (.Call (.Name "enumerate" p) [e] [] pos) (tI X.K ct (iEnum1 fe)) := (pi_enumG hg hm (da_cons h da_nil hs) hs').imp fun σ H R ⟨mu, ow, ε, ds, ε', S, hf, k⟩ => by
  unfold iEnum1 at hf
  cases e0 : iSeq fe ε with
  | none => simp [e0] at hf
  | some q =>
    simp only [e0, Option.map_some, Option.some.injEq, Prod.mk.injEq] at hf
    obtain ⟨rfl, rfl⟩ := hf
    obtain ⟨r, e1, e2, e3⟩ := iSeq_some e0
    rw [e3] at k
    refine tA_one e1 S fun v H1 ow1 S1 fr1 r1 => ?_
    obtain ⟨us, kf, hk, ra, hll⟩ := skv_of (H := H1) r1 e2
    refine ⟨v, us, kf, rfl, hk H1 cut_sub, fun t => k _ H1 ow1 S1 fr1 ⟨by rw [enumD_len]; exact hll, fun i H2 sb => ⟨fun e => ⟨(hk H2 sb).2 t, by rw [ra.length, ← enumD_len]; exact e⟩, fun d hd => ?_⟩⟩⟩
    obtain ⟨x, hx, rfl⟩ := enumD_get hd
    obtain ⟨u, hu, ru⟩ := ra.get hx
    refine ⟨⟨(hk H2 sb).2 t, (List.getElem?_eq_some_iff.mp hu).1⟩, fun y H' hy => ?_⟩
    obtain ⟨T, x', y', rfl, hT, rfl, hx', rfl⟩ := hy
    rw [hu] at hx'
    cases hx'
    exact .pair hT (.cons (.int _) (.one ru))
def rngD (lo : Int) (n : Nat) : List D := (List.range n).map fun i => .int (lo + (i : Nat))
theorem rngD_ok {F : Hp} {lo : Int} {n : Nat} (hn : n ≤ 16777216) : ItOk Γ F (Itr lo n) (rngD lo n) := ⟨by simpa [rngD] using hn, fun i H sb => by
  refine ⟨fun e => by have : n = i := by simpa [rngD] using e
                      exact Nat.le_of_eq this, fun d hd => ?_⟩
  unfold rngD at hd
  rw [List.getElem?_map] at hd
  cases e : (List.range n)[i]? with
  | none => rw [e] at hd; cases hd
  | some j =>
    rw [e] at hd
    cases hd
    have hi : i < n := by have := (List.getElem?_eq_some_iff.mp e).1; simpa using this
    have hj : i = j := by rw [List.getElem?_range hi] at e; exact Option.some.inj e
    subst hj
    exact ⟨hi, fun y H' hy => by obtain ⟨rfl, rfl⟩ := hy; exact .same (.int _)⟩⟩
noncomputable def bnd (i : Int) : Bool := @decide (-(4611686018427387904) ≤ i ∧ i < 4611686018427387904) (Classical.propDecidable _)
noncomputable def iRange (f : AM) : IM := fun ε => (f ε).bind fun r => (resL r.2 r.1).bind fun ds => match ds with
  | [.int j] => if bnd j = true ∧ j.toNat ≤ 16777216 then some (rngD 0 j.toNat, r.2) else none
  | [.int i, .int j] => if bnd i = true ∧ bnd j = true ∧ (j - i).toNat ≤ 16777216 then some (rngD i (j - i).toNat, r.2) else none
  | _ => none
theorem bnd_of {i : Int} (h : bnd i = true) : -(2 ^ 62) ≤ i ∧ i < 2 ^ 62 := by
  unfold bnd at h
  exact @of_decide_eq_true _ (Classical.propDecidable _) h
theorem it_range1 {tg a : Expr} {f : EM} {p pos : Pos} (h : PE X a (tE X.K ct f)) (hm : X.mg "range" = none) (hg : Gl X "range" := by rfl) (hs : starEach [a] X.env = (false, eval a X.env) :: starEach [] X.env := by rfl) (hs' : starEach [a] X.env = [(false, eval a X.env)] := by rfl) :
    PI X tg (.Call (.Name "range" p) [a] [] pos) (tI X.K ct (iRange (aCons f aNil))) := (pi_range1 hg hm (da_cons h da_nil hs) hs').imp fun σ H R ⟨mu, ow, ε, ds, ε', S, hf, k⟩ => by
  unfold iRange at hf
  cases e0 : aCons f aNil ε with
  | none => simp [e0] at hf
  | some r =>
    simp only [e0, Option.bind_some] at hf
    cases e1 : resL r.2 r.1 with
    | none => simp [e1] at hf
    | some dd =>
      simp only [e1, Option.bind_some] at hf
      refine ⟨mu, ow, ε, r.1, r.2, S, e0, fun vs H1 ow1 S1 fr1 r1 => ?_⟩
      have rr := VRs.res S1 r1 e1
      split at hf
      · rename_i j
        split at hf
        · rename_i hb
          cases hf
          cases rr with
          | cons z1 z2 =>
            cases z2
            have q := RpO.up z1 cut_sub
            cases q
            have b := bnd_of hb.1
            exact ⟨j, rfl, b.1, b.2, k _ H1 ow1 S1 fr1 (rngD_ok hb.2)⟩
        · cases hf
      · rename_i i j
        cases rr with
        | cons r1 r2 =>
          obtain ⟨ra, rb, q1, q2, q3⟩ := aCons_some e0
          cases q2
          subst q3
          obtain ⟨d, es, z1, z2, z3⟩ := resL_cons e1
          cases z2
          cases z3
      · cases hf
end
end KD

set_option maxHeartbeats 4000000
namespace KD
open PySem L2
section
variable {X : Cx} {ct : Nat → Addr} {Γ : Gam} {W : WX}

def VRN (Γ : Gam) (ow : OwF) (σ : L2.St) (H : Hp) : Hp → List V → List Val → Prop
  | _, [], [] => True
  | H0, v :: vs, a :: as => VR Γ ow H0 σ H v a ∧ ∃ H1, (∀ p, H1 p = none → H0 p = none) ∧ (∀ m, a = .new m → ∀ p, v = .ref p → ∃ o, H1 p = some o) ∧ VRN Γ ow σ H H1 vs as
  | _, _, _ => False
theorem VR.carryN {ow ow' : OwF} {σ : L2.St} {H H' H0 : Hp} {v : V} {val : Val} (h : VR Γ ow H0 σ H v val) (fr : Fr ow H ow' H') : VR Γ ow' H0 σ H' v val := by
  cases val with
  | d x => exact Rp.mono fr.sub h
  | old i => exact h
  | ex x => exact True.intro
  | new m =>
    obtain ⟨p, e, ht, h0, ho⟩ := h
    obtain ⟨o, hoo⟩ := ObjR.has ho
    obtain ⟨q1, q2⟩ := fr.ke p o .tmp hoo ht (.inl rfl)
    exact ⟨p, e, q1, h0, ObjR.mono ho fr.sub fun o' e' => by rw [hoo] at e'; cases e'; exact q2⟩
def tAN (K : PySem.W.Frag) (ct : Nat → Addr) (f : AM) : TA := fun σ H Q => ∃ mu ow ε vals ε', Sim ⟨K, ct, mu⟩ ow ε σ H ∧ f ε = some (vals, ε') ∧
  ∀ vs H' ow', Sim ⟨K, ct, mu⟩ ow' ε' σ H' → Fr ow H ow' H' → VRN ⟨K, ct, mu⟩ ow' σ H' H vs vals → Q vs H'
def aConsN (f : EM) (g : AM) : AM := fun ε => (f ε).bind fun r => (g r.2).map fun q => (r.1 :: q.1, q.2)
theorem dan_nil : PA X [] (tAN X.K ct aNil) := pa_nil.imp fun σ H Q ⟨mu, ow, ε, vals, ε', S, hf, k⟩ => by
  cases hf
  exact k [] H ow S Fr.refl trivial
theorem dan_cons {e : Expr} {es : List Expr} {f : EM} {g : AM} (h : PE X e (tE X.K ct f)) (h2 : PA X es (tAN X.K ct g)) (hs : starEach (e :: es) X.env = (false, eval e X.env) :: starEach es X.env := by rfl) : PA X (e :: es) (tAN X.K ct (aConsN f g)) :=
  (pa_cons h h2 hs).imp fun σ H Q ⟨mu, ow, ε, vals, ε', S, hf, k⟩ => by
    unfold aConsN at hf
    cases e1 : f ε with
    | none => simp [e1] at hf
    | some ra =>
      simp only [e1, Option.bind_some] at hf
      cases e2 : g ra.2 with
      | none => simp [e2] at hf
      | some rb =>
        simp only [e2, Option.map_some, Option.some.injEq, Prod.mk.injEq] at hf
        obtain ⟨rfl, rfl⟩ := hf
        refine ⟨mu, ow, ε, ra.1, ra.2, S, e1, fun x H1 ow1 S1 fr1 r1 => ⟨mu, ow1, ra.2, rb.1, rb.2, S1, e2, fun xs H2 ow2 S2 fr2 r2 => k (x :: xs) H2 ow2 S2 (fr1.trans fr2) ⟨r1.carryN fr2, H1, fun p hp => fr1.none hp, fun m hm p hp => ?_, r2⟩⟩⟩
        rw [hm] at r1
        obtain ⟨p', e, _, _, ho⟩ := r1
        rw [hp] at e
        cases e
        exact ObjR.has ho
def deold : SE → List Val → Option (List Val × SE)
  | ε, [] => some ([], ε)
  | _, .ex _ :: _ => none
  | ε, .old i :: vs => (escV ε (.old i)).bind fun r => (deold r.2 vs).map fun q => (.d r.1 :: q.1, q.2)
  | ε, v :: vs => (deold ε vs).map fun q => (v :: q.1, q.2)
def noOld : List Val → Prop
  | [] => True
  | .old _ :: _ => False
  | .ex _ :: _ => False
  | _ :: vs => noOld vs
theorem VRN.deold {σ : L2.St} {H : Hp} : ∀ {as : List Val} {vs : List V} {ow : OwF} {ε : SE} {H0 : Hp} {q : List Val × SE}, Sim Γ ow ε σ H → VRN Γ ow σ H H0 vs as → KD.deold ε as = some q →
    ∃ ow', Sim Γ ow' q.2 σ H ∧ Fr ow H ow' H ∧ VRN Γ ow' σ H H0 vs q.1 ∧ noOld q.1 := by
  have carry : ∀ {as : List Val} {vs : List V} {ow ow' : OwF} {H0 : Hp}, VRN Γ ow σ H H0 vs as → Fr ow H ow' H → VRN Γ ow' σ H H0 vs as := by
    intro as
    induction as with
    | nil => intro vs ow ow' H0 h fr; cases vs with | nil => trivial | cons _ _ => exact h
    | cons a as ih => intro vs ow ow' H0 h fr; cases vs with
      | nil => exact h
      | cons v vs => obtain ⟨h1, H1, h2, h3, h4⟩ := h; exact ⟨h1.carryN fr, H1, h2, h3, ih h4 fr⟩
  intro as
  induction as with
  | nil =>
    intro vs ow ε H0 q S h e
    cases e
    exact ⟨ow, S, Fr.refl, h, trivial⟩
  | cons a as ih =>
    intro vs ow ε H0 q S h e
    cases vs with
    | nil => exact h.elim
    | cons v vs =>
      obtain ⟨h1, H1, h2, h3, h4⟩ := h
      have rest : ∀ {ow ε q'}, Sim Γ ow ε σ H → VRN Γ ow σ H H1 vs as → KD.deold ε as = some q' → ∃ ow', Sim Γ ow' q'.2 σ H ∧ Fr ow H ow' H ∧ VRN Γ ow' σ H H1 vs q'.1 ∧ noOld q'.1 := fun S h e => ih S h e
      cases a with
      | ex x => cases e
      | d x =>
        have e' : ((KD.deold ε as).map fun q => (Val.d x :: q.1, q.2)) = some q := e
        cases e1 : KD.deold ε as with
        | none => simp [e1] at e'
        | some q' =>
          simp only [e1, Option.map_some, Option.some.injEq] at e'
          subst e'
          obtain ⟨ow', S', fr', r', n'⟩ := rest S h4 e1
          exact ⟨ow', S', fr', ⟨h1.carryN fr', H1, h2, h3, r'⟩, n'⟩
      | new m =>
        have e' : ((KD.deold ε as).map fun q => (Val.new m :: q.1, q.2)) = some q := e
        cases e1 : KD.deold ε as with
        | none => simp [e1] at e'
        | some q' =>
          simp only [e1, Option.map_some, Option.some.injEq] at e'
          subst e'
          obtain ⟨ow', S', fr', r', n'⟩ := rest S h4 e1
          exact ⟨ow', S', fr', ⟨h1.carryN fr', H1, h2, h3, r'⟩, n'⟩
      | old i =>
        have e' : ((escV ε (.old i)).bind fun r => (KD.deold r.2 as).map fun q => (Val.d r.1 :: q.1, q.2)) = some q := e
        cases e0 : escV ε (.old i) with
        | none => simp [e0] at e'
        | some r =>
          simp only [e0, Option.bind_some] at e'
          cases e1 : KD.deold r.2 as with
          | none => simp [e1] at e'
          | some q' =>
            simp only [e1, Option.map_some, Option.some.injEq] at e'
            subst e'
            obtain ⟨ow1, S1, fr1, r1⟩ := VR.esc (val := .old i) S h1 e0
            obtain ⟨ow', S', fr', r', n'⟩ := rest S1 (carry h4 fr1) e1
            exact ⟨ow', S', fr1.trans fr', ⟨r1.mono fr'.sub, H1, h2, (fun m hm => by cases hm), r'⟩, n'⟩
def storeL : SE → List Nat → List Val → Option SE
  | ε, [], [] => some ε
  | ε, i :: is, a :: as => (storeV ε i a).bind fun ε1 => storeL ε1 is as
  | _, _, _ => none
def setL (σ : L2.St) : List Nat → List V → L2.St
  | i :: is, v :: vs => setL (σ.set i (some v)) is vs
  | _, _ => σ
theorem Sim.storeL {ow0 : OwF} {H0 H : Hp} : ∀ {is : List Nat} {as : List Val} {vs : List V} {ow : OwF} {ε ε' : SE} {σ : L2.St} {H1 : Hp}, Sim Γ ow ε σ H → Fr ow0 H0 ow H → (∀ p, H1 p = none → H0 p = none) → VRN Γ ow σ H H1 vs as → noOld as → KD.storeL ε is as = some ε' →
    ∃ ow', Sim Γ ow' ε' (setL σ is vs) H ∧ Fr ow0 H0 ow' H
  | [], [], vs, ow, ε, ε', σ, H1, S, fr, hh, r, n, e => by
    cases e
    cases vs with
    | nil => exact ⟨ow, S, fr⟩
    | cons _ _ => exact r.elim
  | i :: is, a :: as, [], ow, ε, ε', σ, H1, S, fr, hh, r, n, e => r.elim
  | i :: is, a :: as, v :: vs, ow, ε, ε', σ, H1, S, fr, hh, r, n, e => by
    have e' : ((storeV ε i a).bind fun ε1 => KD.storeL ε1 is as) = some ε' := e
    cases e1 : storeV ε i a with
    | none => simp [e1] at e'
    | some ε1 =>
      simp only [e1, Option.bind_some] at e'
      obtain ⟨r1, H2, h2, h3, r2⟩ := r
      have r1' : VR Γ ow H0 σ H v a := r1.back hh
      -- what the store does to the ghost
      have key : ∃ ow1, Sim Γ ow1 ε1 (σ.set i (some v)) H ∧ Fr ow0 H0 ow1 H ∧ cut H ow1 = cut H ow ∧ ∀ p, (∀ m, a = .new m → v ≠ .ref p) → ow1 p = ow p := by
        cases a with
        | d x => cases e1; exact ⟨ow, S.setD i r1', fr, rfl, fun _ _ => rfl⟩
        | old j => exact n.elim
        | ex x => exact n.elim
        | new m =>
          obtain ⟨p, rfl, ht, h0, ho⟩ := id r1'
          obtain ⟨_, S2, fr2⟩ := S.store fr r1' e1
          cases e1
          have hc : cut H (setO ow p (some (.slot i))) = cut H ow := by
            funext b
            by_cases hb : b = p
            · subst hb; unfold cut; rw [setO_same, ht]
            · unfold cut; rw [setO_ne hb]
          refine ⟨setO ow p (some (.slot i)), ?_, ?_, hc, fun q hq => setO_ne fun z => hq m rfl (by rw [z])⟩
          · refine ⟨S2.len, fun j d h => ?_, fun j mm h => ?_, fun k mm h => ?_⟩
            · have h' : (ε.sl.set i (.own m))[j]? = some (.d d) := h
              by_cases hj : i = j
              · subst hj
                have hl : i < ε.sl.length := by
                  have := (List.getElem?_eq_some_iff.mp h').1
                  rw [List.length_set] at this; exact this
                rw [List.getElem?_set_self hl] at h'
                cases h'
              · rw [List.getElem?_set_ne hj] at h' ⊢
                rw [hc]; exact S.sd j d h'
            · have h' : (ε.sl.set i (.own m))[j]? = some (.own mm) := h
              by_cases hj : i = j
              · subst hj
                have hl : i < ε.sl.length := by
                  have := (List.getElem?_eq_some_iff.mp h').1
                  rw [List.length_set] at this; exact this
                rw [List.getElem?_set_self hl] at h'
                cases h'
                exact ⟨p, by rw [List.getElem?_set_self (by rw [S.len]; exact hl)], setO_same, by rw [hc]; exact ho⟩
              · rw [List.getElem?_set_ne hj] at h' ⊢
                obtain ⟨q, q1, q2, q3⟩ := S.so j mm h'
                have n : q ≠ p := by rintro rfl; rw [ht] at q2; cases q2
                exact ⟨q, q1, by rw [setO_ne n]; exact q2, by rw [hc]; exact q3⟩
            · obtain ⟨q, q1, q2, q3⟩ := S.mo k mm h
              have n : q ≠ p := by rintro rfl; rw [ht] at q2; cases q2
              exact ⟨q, q1, by rw [setO_ne n]; exact q2, by rw [hc]; exact q3⟩
          · have ne : ∀ b o, H0 b = some o → b ≠ p := fun b o h => ne_of_none h h0
            exact ⟨fun b o h e => by rw [setO_ne (ne b o h)]; exact fr.fz b o h e, fun b o w h e q => by rw [setO_ne (ne b o h)]; exact fr.ke b o w h e q, fr.tr, fun b o n h e => by rw [setO_ne (ne b o h)]; exact fr.ob b o n h e⟩
      obtain ⟨ow1, S1, fr1, hc, hk⟩ := key
      have conv : ∀ {us : List V} {bs : List Val} {H3 : Hp}, (∀ p, H3 p = none → H2 p = none) → VRN Γ ow σ H H3 us bs → noOld bs → VRN Γ ow1 (σ.set i (some v)) H H3 us bs := by
        intro us bs
        induction bs generalizing us with
        | nil => intro H3 hh3 r n; cases us with | nil => trivial | cons _ _ => exact r
        | cons b bs ih =>
          intro H3 hh3 r n
          cases us with
          | nil => exact r
          | cons u us =>
            obtain ⟨q1, H4, q2, q3, q4⟩ := r
            cases b with
            | old j => exact n.elim
            | ex x => exact n.elim
            | d x => exact ⟨by show Rp Γ (cut H ow1) u x; rw [hc]; exact q1, H4, q2, q3, ih (fun p hp => hh3 p (q2 p hp)) q4 n⟩
            | new m =>
              refine ⟨?_, H4, q2, q3, ih (fun p hp => hh3 p (q2 p hp)) q4 n⟩
              obtain ⟨p, z1, z2, z3, z4⟩ := q1
              have hp2 : H2 p = none := hh3 p z3
              refine ⟨p, z1, ?_, z3, by rw [hc]; exact z4⟩
              rw [hk p fun m' hm' hv => ?_]
              · exact z2
              · obtain ⟨o, ho⟩ := h3 m' hm' p hv
                rw [hp2] at ho; cases ho
      have n' : noOld as := by cases a with
        | old j => exact n.elim
        | ex _ => exact n.elim
        | d _ => exact n
        | new _ => exact n
      exact Sim.storeL (is := is) (as := as) (vs := vs) S1 fr1 (fun p hp => hh p (h2 p hp)) (conv (fun p hp => hp) r2 n') n' e'
def sPar (is : List Nat) (f : AM) : SM := fun ε => (f ε).bind fun r => (deold r.2 r.1).bind fun q => (storeL q.2 is q.1).map fun ε' => .nx ε'
theorem sPar_some {is : List Nat} {f : AM} {ε : SE} {out : Out} (h : sPar is f ε = some out) : ∃ r q ε', f ε = some r ∧ deold r.2 r.1 = some q ∧ storeL q.2 is q.1 = some ε' ∧ out = .nx ε' := by
  unfold sPar at h
  cases e1 : f ε with
  | none => simp [e1] at h
  | some r =>
    simp only [e1, Option.bind_some] at h
    cases e2 : deold r.2 r.1 with
    | none => simp [e2] at h
    | some q =>
      simp only [e2, Option.bind_some] at h
      cases e3 : storeL q.2 is q.1 with
      | none => simp [e3] at h
      | some ε' => simp only [e3, Option.map_some, Option.some.injEq] at h; exact ⟨r, q, ε', rfl, e2, e3, h.symm⟩
theorem storeL_len : ∀ {is : List Nat} {as : List Val} {ε ε' : SE}, storeL ε is as = some ε' → is.length = as.length
  | [], [], _, _, _ => rfl
  | i :: is, a :: as, ε, ε', e => by
    have e' : ((storeV ε i a).bind fun ε1 => KD.storeL ε1 is as) = some ε' := e
    cases e1 : storeV ε i a with
    | none => simp [e1] at e'
    | some ε1 =>
      simp only [e1, Option.bind_some] at e'
      rw [List.length_cons, List.length_cons, storeL_len e']
  | [], _ :: _, _, _, e => by cases e
  | _ :: _, [], _, _, e => by cases e
theorem VRN.len {ow : OwF} {σ : L2.St} {H : Hp} : ∀ {as : List Val} {vs : List V} {H0 : Hp}, VRN Γ ow σ H H0 vs as → vs.length = as.length
  | [], [], _, _ => rfl
  | a :: as, v :: vs, _, h => by obtain ⟨_, _, _, _, h⟩ := h; rw [List.length_cons, List.length_cons, VRN.len h]
  | [], _ :: _, _, h => h.elim
  | _ :: _, [], _, h => h.elim
theorem ds_par {i j : Nat} {st : Stmt} {f : AM} (h : PS X st (tPar i j (tAN X.K ct f))) : PS X st (tSX X.K ct W (sPar [i, j] f)) := h.imp fun E σ H ⟨mu, ow, ε, out, S, hf, k⟩ => by
  obtain ⟨r, q, ε', e1, e2, e3, rfl⟩ := sPar_some hf
  refine ⟨mu, ow, ε, r.1, r.2, S, e1, fun vs H1 ow1 S1 fr1 r1 => ?_⟩
  obtain ⟨ow2, S2, fr2, r2, n2⟩ := VRN.deold S1 r1 e2
  obtain ⟨ow3, S3, fr3⟩ := Sim.storeL S2 (fr1.trans fr2) (fun p hp => hp) r2 n2 e3
  have hl := VRN.len r2
  rw [← storeL_len e3] at hl
  match vs, hl with
  | [v, w], _ => exact ⟨v, w, rfl, k _ H1 ow3 S3 fr3⟩
def gNames : List Nat → TGs
  | [] => gNil
  | i :: is => gCons (gName i) (gNames is)
theorem gNames_go {Q : L2.St → Hp → Prop} {H : Hp} : ∀ {is : List Nat} {vs : List V} {σ : L2.St}, vs.length = is.length → Q (setL σ is vs) H → gNames is vs σ H Q
  | [], [], σ, _, q => ⟨rfl, q⟩
  | i :: is, v :: vs, σ, h, q => ⟨v, vs, rfl, gNames_go (by simpa using h) q⟩
  | [], _ :: _, _, h, _ => by simp at h
  | _ :: _, [], _, h, _ => by simp at h
theorem ds_parT {is : List Nat} {n : Nat} {st : Stmt} {f : AM} (hn : is.length = n) (hs : n ≤ 16777216) (h : PS X st (tAsg (tTup (tAN X.K ct f)) (gTup X.K n (gNames is)))) : PS X st (tSX X.K ct W (sPar is f)) := h.imp fun E σ H ⟨mu, ow, ε, out, S, hf, k⟩ => by
  obtain ⟨r, q, ε', e1, e2, e3, rfl⟩ := sPar_some hf
  refine ⟨mu, ow, ε, r.1, r.2, S, e1, fun vs H1 ow1 S1 fr1 r1 => ?_⟩
  have hl2 := VRN.len r1
  obtain ⟨ow2, S2, fr2, r2, n2⟩ := VRN.deold S1 r1 e2
  have hl := VRN.len r2
  rw [← storeL_len e3] at hl
  refine ⟨sz_line (by omega), fun p hp => ⟨p, vs, rfl, .of upd_same, by omega, gNames_go hl ?_⟩⟩
  obtain ⟨S2', fr2'⟩ := S2.alloc (o := .tup vs) hp none
  have r2' : VRN ⟨X.K, ct, mu⟩ (setO ow2 p none) σ (upd H1 p (.tup vs)) H vs q.1 := by
    have gen : ∀ {as : List Val} {us : List V} {H0 : Hp}, VRN ⟨X.K, ct, mu⟩ ow2 σ H1 H0 us as → VRN ⟨X.K, ct, mu⟩ (setO ow2 p none) σ (upd H1 p (.tup vs)) H0 us as := by
      intro as
      induction as with
      | nil => intro us H0 h; cases us with | nil => trivial | cons _ _ => exact h
      | cons a as ih => intro us H0 h; cases us with
        | nil => exact h
        | cons u us => obtain ⟨h1, H1', h2, h3, h4⟩ := h; exact ⟨h1.carryN fr2', H1', h2, h3, ih h4⟩
    exact gen r2
  obtain ⟨ow3, S3, fr3⟩ := Sim.storeL S2' ((fr1.trans fr2).trans fr2') (fun p hp => hp) r2' n2 e3
  exact k _ _ ow3 S3 fr3

def putFD (f : Str) (d : D) (ns : List Str) (ds : List D) : List Str × List D := match ns.findIdx? (· == f) with
  | some j => (ns, ds.set j d)
  | none => (ns ++ [f], ds ++ [d])
def sFldD (c : Nat) (f : Str) (fo fe : EM) : SM := fun ε => (escE fe ε).bind fun re => (fzE fo re.2).bind fun ro => match tgt ro.2 ro.1 with
  | some (.ins c' ns ds) => if c' = c ∧ ns.length < 1000 ∧ ds.length = ns.length then some (.nx (put ro.2 (.ins c' (putFD f re.1 ns ds).1 (putFD f re.1 ns ds).2) ro.1)) else none
  | _ => none
def sSetIx (fo fi fe : EM) : SM := fun ε => (escE fe ε).bind fun re => (fzE fo re.2).bind fun ro => (fzE fi ro.2).bind fun ri => match tgt ri.2 ro.1, ri.1.res ri.2 with
  | some (.lst l), some (.int i) => (ixN l.length i).map fun j => .nx (put ri.2 (.lst (l.set j re.1)) ro.1)
  | _, _ => none
theorem ds_setIx {fo fi fe : EM} {st : Stmt} (h : PS X st (tAsg (tE X.K ct (fzE fe)) (gSub (tE X.K ct (fzE fo)) (tE X.K ct (fzE fi)) rSetL))) : PS X st (tSX X.K ct W (sSetIx fo fi fe)) := h.imp fun E σ H ⟨mu, ow, ε, out, S, hf, k⟩ => by
  unfold sSetIx at hf
  cases e1 : escE fe ε with
  | none => simp [e1] at hf
  | some re =>
    simp only [e1, Option.bind_some] at hf
    cases e2 : fzE fo re.2 with
    | none => simp [e2] at hf
    | some ro =>
      simp only [e2, Option.bind_some] at hf
      cases e3 : fzE fi ro.2 with
      | none => simp [e3] at hf
      | some ri =>
        simp only [e3, Option.bind_some] at hf
        split at hf
        · rename_i l i ht hi
          cases e4 : ixN l.length i with
          | none => simp [e4] at hf
          | some j =>
            simp only [e4, Option.map_some, Option.some.injEq] at hf
            subst hf
            refine tE_esc e1 S fun v H1 ow1 S1 fr1 r1 => ⟨mu, ow1, re.2, ro.1, ro.2, S1, e2, fun x H2 ow2 S2 fr2 r2 => ⟨mu, ow2, ro.2, ri.1, ri.2, S2, e3, fun y H3 ow3 S3 fr3 r3 => ?_⟩⟩
            obtain ⟨va, ha, hv⟩ := fzE_some e2
            rw [hv] at r2 ht
            obtain ⟨p, rfl, ⟨vs, h1, h3, hll⟩, ch⟩ := S3.change (r2.carry fr3 (H0' := H3)) ht
            have r1' := r1.mono (fr2.trans fr3).sub
            have rI : y = .int i := by
              have q := (VR.res S3 r3 hi).up cut_sub
              cases q; rfl
            subst rI
            refine ⟨p, vs, i, j, rfl, rfl, h1, by rw [h3.length]; exact e4, ?_⟩
            obtain ⟨S4, fr4⟩ := ch _ _ (show ObjR _ _ _ p (.lst (l.set j re.1)) from ⟨vs.set j v, upd_same, RpAll.set r1' j h3, by rw [List.length_set]; exact hll⟩)
            exact k σ _ ow3 (by rw [hv]; exact S4) (((fr1.trans fr2).trans fr3).trans fr4)
        · cases hf
def slots0 (ds : List D) (N : Nat) : List Sl := ds.map .d ++ List.replicate (N - ds.length) .no
def finV (o : Out) : Option (Val × List MO) := match o with
  | .nx ε => some (.d .non, ε.M)
  | .rt (.d x) ε => some (.d x, ε.M)
  | .rt (.new m) ε => some (.new m, ε.M)
  | .rt (.old i) ε => match ε.sl[i]? with
    | some (.own m) => some (.new m, ε.M)
    | some (.d x) => some (.d x, ε.M)
    | _ => none
  | _ => none
def runF (n N : Nat) (f : SM) : FM := fun ds M => if ds.length = n then (f ⟨slots0 ds N, M⟩).bind finV else none
theorem runF_len {n N : Nat} {f : SM} {ds : List D} {M : List MO} {o : Val × List MO} (h : runF n N f ds M = some o) : ds.length = n := by
  unfold runF at h
  split at h
  · assumption
  · cases h
theorem sim_start {ow : OwF} {N : List Str} {vs : List V} {ds : List D} {M : List MO} {H : Hp} (hN : vs.length ≤ N.length) (r : RpAll Γ (cut H ow) vs ds) (m : MSim Γ ow M H) : Sim Γ ow ⟨slots0 ds N.length, M⟩ (L2.start N vs) H := by
  have hl := r.length
  refine ⟨?_, fun i d h => ?_, fun i mm h => ?_, m⟩
  · show (L2.start N vs).length = (slots0 ds N.length).length
    unfold L2.start slots0
    simp [hl]
  · have h' : (ds.map Sl.d ++ List.replicate (N.length - ds.length) Sl.no)[i]? = some (.d d) := h
    unfold L2.start
    by_cases hi : i < ds.length
    · rw [List.getElem?_append_left (by simpa using hi), List.getElem?_map] at h'
      rw [List.getElem?_append_left (by simpa [hl] using hi), List.getElem?_map]
      cases e : ds[i]? with
      | none => rw [e] at h'; cases h'
      | some x =>
        rw [e] at h'
        cases h'
        obtain ⟨v, q1, q2⟩ := r.get e
        exact ⟨v, by rw [q1]; rfl, q2⟩
    · rw [List.getElem?_append_right (by simpa using hi), List.getElem?_replicate] at h'
      split at h' <;> cases h'
  · have h' : (ds.map Sl.d ++ List.replicate (N.length - ds.length) Sl.no)[i]? = some (.own mm) := h
    by_cases hi : i < ds.length
    · rw [List.getElem?_append_left (by simpa using hi), List.getElem?_map] at h'
      cases e : ds[i]? with
      | none => rw [e] at h'; cases h'
      | some x => rw [e] at h'; cases h'
    · rw [List.getElem?_append_right (by simpa using hi), List.getElem?_replicate] at h'
      split at h' <;> cases h'
theorem finV_post {K : PySem.W.Frag} {mu : Nat → Option Addr} {ow : OwF} {H : Hp} {Q : VK} {out : Out} {r : Val × List MO} (hno : NoLoc ow) (hf : finV out = some r)
    (k : ∀ v H' ow', MSim ⟨K, ct, mu⟩ ow' r.2 H' → Fr ow H ow' H' → VRf ⟨K, ct, mu⟩ ow' H H' v r.1 → Q v H') : PostS K ct W mu ow H { nx := fun _ H' => Q .non H', rt := Q } out := by
  cases out with
  | nx ε => cases hf; exact fun σ' H' ow' S' fr => k _ H' ow' S'.mo fr .non
  | bk ε => cases hf
  | ct ε => cases hf
  | ex x ε => cases hf
  | rt val ε =>
    cases val with
    | ex x => cases hf
    | d x => cases hf; exact fun v σ' H' ow' S' fr r => k v H' ow' S'.mo fr r
    | new m => cases hf; exact fun v σ' H' ow' S' fr r => k v H' ow' S'.mo fr r
    | old i =>
      have hf' : (match ε.sl[i]? with | some (.own m) => some (Val.new m, ε.M) | some (.d x) => some (.d x, ε.M) | _ => none) = some r := hf
      split at hf'
      · rename_i m hm
        cases hf'
        intro v σ' H' ow' S' fr rv
        obtain ⟨p, h1, h2, h3⟩ := S'.so i m hm
        have rv' : σ'[i]? = some (some v) := rv
        rw [h1] at rv'
        cases rv'
        have hp : H p = none := by
          cases q : H p with
          | none => rfl
          | some o =>
            cases q2 : ow p with
            | none => have := (fr.fz p o q q2).1; rw [h2] at this; cases this
            | some w =>
              rcases hno p w q2 with rfl | ⟨n, rfl⟩
              · have := (fr.ke p o _ q q2 (.inr rfl)).1; rw [h2] at this; cases this
              · have := fr.ob p o n q q2; rw [h2] at this; cases this
        have hc : cut H' (setO ow' p (some .tmp)) = cut H' ow' := by
          funext a
          by_cases ha : a = p
          · subst ha; unfold cut; rw [setO_same, h2]
          · unfold cut; rw [setO_ne ha]
        have ne : ∀ a o, H a = some o → a ≠ p := fun a o h => ne_of_none h hp
        refine k _ H' (setO ow' p (some .tmp)) (fun n mm hmm => ?_) ⟨fun a o h e => by rw [setO_ne (ne a o h)]; exact fr.fz a o h e, fun a o w h e q => by rw [setO_ne (ne a o h)]; exact fr.ke a o w h e q, fr.tr, fun a o n h e => by rw [setO_ne (ne a o h)]; exact fr.ob a o n h e⟩ ⟨p, rfl, setO_same, hp, by rw [hc]; exact h3⟩
        obtain ⟨q, q1, q2, q3⟩ := S'.mo n mm hmm
        have n' : q ≠ p := by rintro rfl; rw [h2] at q2; cases q2
        exact ⟨q, q1, by rw [setO_ne n']; exact q2, by rw [hc]; exact q3⟩
      · rename_i x hx
        cases hf'
        intro v σ' H' ow' S' fr rv
        obtain ⟨v', h1, h2⟩ := S'.sd i x hx
        have rv' : σ'[i]? = some (some v) := rv
        rw [h1] at rv'
        cases rv'
        exact k v H' ow' S'.mo fr h2
      · cases hf'
theorem fnS_start {K : PySem.W.Frag} {N ps : List Str} {fm : SM} {vs : List V} {H : Hp} {Q : VK} {E : XK} (hpl : ps.length ≤ N.length) (h : FnS K ct ps.length (runF ps.length N.length fm) vs H Q E) :
    tS K ct fm { nx := fun _ H' => Q .non H', rt := Q } (L2.start N vs) H := by
  obtain ⟨hn, mu, ow, ds, M, r, hno, ra, hM, hf, k⟩ := h
  unfold runF at hf
  have hdl : ds.length = ps.length := by rw [← ra.length]; exact hn
  rw [if_pos hdl] at hf
  cases e : fm ⟨slots0 ds N.length, M⟩ with
  | none => simp [e] at hf
  | some out =>
    simp only [e, Option.bind_some] at hf
    exact ⟨mu, ow, _, out, sim_start (by omega) ra hM, e, finV_post hno hf k⟩
end
end KD

set_option maxHeartbeats 4000000
namespace KD
open PySem PySem.Spec PyProof.Rows L2 HT
section
variable {X : Cx}
theorem newTup {pins : List (Addr × Obj)} {σ : L2.St} {H : Hp} {s : Shared} {xs : List V} {its : List Value} {Q : VK} (I : Inv X pins σ H s) (r : Vals xs its) (hz : xs.length ≤ sizeLine)
    (q : ∀ p o, H p = none → o.dict = none → Q (.ref p) (upd H p (.frz o (.tup xs)))) : EP X pins σ Q (.ref s.heap.objs.size) { s with heap := s.heap.push { cls := .type "tuple", data := .seq its.toArray } } := by
  refine ⟨.ref s.heap.objs.size, _, I.laid (t' := s.toks) (o := .frz { cls := .type "tuple", data := .seq its.toArray } (.tup xs)) (fun b ob q => Heap.get?_push_of_some _ q) (Nat.le_refl _) ?_, rfl, q _ _ (I.hok.fresh (Nat.le_refl _)) rfl⟩
  exact ⟨Heap.get?_push_size _ rfl, hz, its, r, IsTup.new _ _⟩
def rCatF (K : PySem.W.Frag) : R2 := fun x y H Q => ∃ a b xs ys, x = .ref a ∧ y = .ref b ∧ SqT K H a xs ∧ SqT K H b ys ∧ xs.length + ys.length ≤ sizeLine ∧
  (xs = [] → Q (.ref b) H) ∧ (xs ≠ [] → ys = [] → Q (.ref a) H) ∧ (xs ≠ [] → ys ≠ [] → ∀ p o, H p = none → o.dict = none → Q (.ref p) (upd H p (.frz o (.tup (xs ++ ys)))))
theorem op_catF : OpR X (binaryOp .Add) (rCatF X.K) := by
  intro pins s σ H x y v u Q I rx ry h
  obtain ⟨a, b, xs, ys, rfl, rfl, ha, hb, hz, q0, q1, q2⟩ := h
  cases rx
  cases ry
  obtain ⟨its, r1, p1, _⟩ := I.tuple ha
  obtain ⟨its2, r2, p2, _⟩ := I.tuple hb
  by_cases hx : xs = []
  · subst hx
    cases r1
    exact cat_tup0 p1 p2 ⟨.ref b, H, I, rfl, q0 rfl⟩
  · refine HT.cat_tup p1 p2 (fun z => hx (r1.nil_iff.mp z)) (fun z => ⟨.ref a, H, I, rfl, q1 hx (r2.nil_iff.mp z)⟩) (fun z => ?_) (by rw [← r1.length, ← r2.length]; exact hz)
    exact newTup I (r1.append r2) (by rw [List.length_append]; exact hz) (q2 hx (fun w => z (r2.nil_iff.mpr w)))
def rSlF (K : PySem.W.Frag) : V → Option Int → Option Int → Hp → VK → Prop := fun x lo hi H Q => ∃ a xs, x = .ref a ∧ SqT K H a xs ∧
  (HT.sIx xs.length 0 lo = 0 ∧ HT.sIx xs.length xs.length hi = xs.length → Q (.ref a) H) ∧ (¬ (HT.sIx xs.length 0 lo = 0 ∧ HT.sIx xs.length xs.length hi = xs.length) → ∀ p o, H p = none → o.dict = none → Q (.ref p) (upd H p (.frz o (.tup (cutV xs lo hi)))))
theorem sl_tupF : SlR X (rSlF X.K) := by
  intro pins s σ H x v vl vu lo hi sl Q I rx hs pl pu h
  obtain ⟨a, xs, rfl, hx, q1, q2⟩ := h
  cases rx
  obtain ⟨its, r, ht, hz⟩ := I.tuple hx
  have hlen : its.toArray.size = xs.length := by rw [List.size_toArray]; exact r.length.symm
  refine ⟨"tuple", _, PyProof.Rows.slot_tuple_getitem.lookup, ht.typeIs, ?_⟩
  by_cases hw : HT.sIx xs.length 0 lo = 0 ∧ HT.sIx xs.length xs.length hi = xs.length
  · exact getItem_tuple_whole ht hs pl pu (by rw [hlen]; exact hw) ⟨.ref a, H, I, rfl, q1 hw⟩
  · refine HT.getItem_tuple_cut ht hs pl pu (by rw [hlen]; exact hw) ?_ (by rw [hlen]; exact hz)
    rw [hlen]
    exact newTup I ((r.drop (HT.sIx xs.length 0 lo)).take (HT.sIx xs.length xs.length hi - HT.sIx xs.length 0 lo)) (Nat.le_trans (cutV_length xs lo hi) hz) (q2 hw)
end
end KD

set_option maxHeartbeats 4000000
namespace KD
open PySem L2
section
variable {K : PySem.W.Frag} {ct : Nat → Addr} {X : Cx} {Γ : Gam}
theorem sz16 {n : Nat} (h : n ≤ 16777216) : n ≤ sizeLine := sz_line h
theorem sOk_append {a b : Str} (ha : sOk a = true) (hb : sOk b = true) (h : a.length + b.length ≤ 16777216) : sOk (a ++ b) = true := by
  unfold sOk at ha hb ⊢
  rw [Bool.and_eq_true] at ha hb ⊢
  have e : (a ++ b).cps = a.cps ++ b.cps := rfl
  rw [e]
  refine ⟨?_, ?_⟩
  · rw [Array.all_append, ha.1, hb.1]; rfl
  · rw [Array.size_append]; exact decide_eq_true h
theorem sOk_len {a : Str} (h : sOk a = true) : a.length ≤ 16777216 := of_decide_eq_true (Bool.and_eq_true_iff.mp h).2
theorem RpO.lst {F H : Hp} {v : V} {l : List D} (h : RpO Γ F H v (.lst l)) (sb : Sub F H) : ∃ a vs, v = .ref a ∧ H a = some (.lst vs) ∧ RpAll Γ F vs l ∧ l.length ≤ 16777216 := by
  rcases h with h | ⟨p, m, rfl, ho, hm⟩
  · cases h with | lst hs ra hl => exact ⟨_, _, rfl, sb _ _ hs, ra, hl⟩
  · cases m with
    | lst _ => cases hm; obtain ⟨vs, h1, h2, h3⟩ := ho; exact ⟨_, _, rfl, h1, h2, h3⟩
    | ins _ _ _ => cases hm
    | dct _ _ => cases hm
    | tab _ _ => cases hm
theorem RpO.tup {F H : Hp} {v : V} {l : List D} (h : RpO Γ F H v (.tup l)) : ∃ a vs, v = .ref a ∧ TupR Γ.K F a vs ∧ RpAll Γ F vs l ∧ l.length ≤ 16777216 := by
  rcases h with h | ⟨p, m, rfl, ho, hm⟩
  · cases h with | tup hs ra hl => exact ⟨_, _, rfl, hs, ra, hl⟩
  · cases m <;> cases hm
theorem RpO.scr {F H : Hp} {v : V} {l : List Int} (h : RpO Γ F H v (.scr l)) : ∃ a, v = .ref a ∧ SqL Γ.K F a (l.map V.int) ∧ l.length ≤ 16777216 := by
  rcases h with h | ⟨p, m, rfl, ho, hm⟩
  · cases h with | scr hs hl => exact ⟨_, rfl, hs, hl⟩
  · cases m <;> cases hm
theorem RpO.str {F H : Hp} {v : V} {s : Str} (h : RpO Γ F H v (.str s)) : v = .str s ∧ sOk s = true := by
  rcases h with h | ⟨p, m, rfl, ho, hm⟩
  · cases h with | str _ hs => exact ⟨rfl, hs⟩
  · cases m <;> cases hm
theorem RpO.int {F H : Hp} {v : V} {i : Int} (h : RpO Γ F H v (.int i)) : v = .int i := by
  rcases h with h | ⟨p, m, rfl, ho, hm⟩
  · cases h; rfl
  · cases m <;> cases hm
theorem RpO.bl {F H : Hp} {v : V} {i : Bool} (h : RpO Γ F H v (.bl i)) : v = .bl i := by
  rcases h with h | ⟨p, m, rfl, ho, hm⟩
  · cases h; rfl
  · cases m <;> cases hm
theorem RpO.non {F H : Hp} {v : V} (h : RpO Γ F H v .non) : v = .non := by
  rcases h with h | ⟨p, m, rfl, ho, hm⟩
  · cases h; rfl
  · cases m <;> cases hm

def addD : D → D → Option Val
  | .int i, .int j => some (.d (.int (i + j)))
  | .str a, .str b => if a.length + b.length ≤ 16777216 then some (.d (.str (a ++ b))) else none
  | .lst a, .lst b => if a.length + b.length ≤ 16777216 then some (.new (.lst (a ++ b))) else none
  | .tup a, .tup b => if a.length + b.length ≤ 16777216 then some (.d (.tup (a ++ b))) else none
  | _, _ => none
def rAddU (K : PySem.W.Frag) : R2 := fun x y H Q => rI0 (fun i j => .int (i + j)) x y H Q ∨ (∃ i j, x = .str i ∧ y = .str j ∧ i.length + j.length ≤ sizeLine ∧ Q (.str (i ++ j)) H) ∨ rCat x y H Q ∨ rCatF K x y H Q
theorem op_addU : OpR X (binaryOp .Add) (rAddU X.K) := op_add.or (op_add_str.or (op_cat.or op_catF))
theorem os_add : OpS K ct (rAddU K) addD := fun mu F H x y d e val Q sb rx ry h k => by
  cases d <;> cases e <;> first | (cases h; done) | skip
  · cases h
    rw [rx.int, ry.int]
    exact .inl ⟨_, _, rfl, rfl, k _ _ (.same (.int _))⟩
  · rename_i a b
    have h' : (if a.length + b.length ≤ 16777216 then some (Val.d (.str (a ++ b))) else none) = some val := h
    by_cases hl : a.length + b.length ≤ 16777216
    · rw [if_pos hl] at h'
      cases h'
      obtain ⟨rfl, h1⟩ := rx.str
      obtain ⟨rfl, h2⟩ := ry.str
      exact .inr (.inl ⟨a, b, rfl, rfl, sz16 hl, k _ _ (.same (.str _ (sOk_append h1 h2 hl)))⟩)
    · rw [if_neg hl] at h'; cases h'
  · rename_i a b
    have h' : (if a.length + b.length ≤ 16777216 then some (Val.d (.tup (a ++ b))) else none) = some val := h
    by_cases hl : a.length + b.length ≤ 16777216
    · rw [if_pos hl] at h'
      cases h'
      obtain ⟨p, vs, rfl, h1, h2, h3⟩ := rx.tup
      obtain ⟨q, us, rfl, h4, h5, h6⟩ := ry.tup
      have e1 := h2.length
      have e2 := h5.length
      refine .inr (.inr (.inr ⟨p, q, vs, us, rfl, rfl, (sb.tupR h1).sqt, (sb.tupR h4).sqt, sz16 (by omega), fun z => ?_, fun _ z => ?_, fun _ _ r o hr ho => k _ _ (.tup hr ho (h2.append h5) (by rw [List.length_append]; exact hl))⟩))
      · subst z
        cases h2
        exact k _ _ (.same (.tup h4 h5 h6))
      · subst z
        cases h5
        rw [List.append_nil] at k
        exact k _ _ (.same (.tup h1 h2 h3))
    · rw [if_neg hl] at h'; cases h'
  · rename_i a b
    have h' : (if a.length + b.length ≤ 16777216 then some (Val.new (.lst (a ++ b))) else none) = some val := h
    by_cases hl : a.length + b.length ≤ 16777216
    · rw [if_pos hl] at h'
      cases h'
      obtain ⟨p, vs, rfl, h1, h2, h3⟩ := rx.lst sb
      obtain ⟨q, us, rfl, h4, h5, h6⟩ := ry.lst sb
      have e1 := h2.length
      have e2 := h5.length
      exact .inr (.inr (.inl ⟨p, q, vs, us, rfl, rfl, h1, h4, sz16 (by omega), fun r hr => k _ _ (.lst hr (h2.append h5) (by rw [List.length_append]; exact hl))⟩))
    · rw [if_neg hl] at h'; cases h'
def intOp (C : Int → Int → Bool) (g : Int → Int → Int) : D → D → Option Val
  | .int i, .int j => if C i j = true then some (.d (.int (g i j))) else none
  | _, _ => none
theorem os_int {C : Int → Int → Bool} {P : Int → Int → Prop} {g : Int → Int → Int} (hc : ∀ i j, C i j = true → P i j) : OpS K ct (rI P fun i j => .int (g i j)) (intOp C g) := fun mu F H x y d e val Q sb rx ry h k => by
  cases d <;> cases e <;> first | (cases h; done) | skip
  rename_i i j
  have h' : (if C i j = true then some (Val.d (.int (g i j))) else none) = some val := h
  by_cases hl : C i j = true
  · rw [if_pos hl] at h'
    cases h'
    rw [rx.int, ry.int]
    exact ⟨i, j, rfl, rfl, hc i j hl, k _ _ (.same (.int _))⟩
  · rw [if_neg hl] at h'; cases h'
def subD : D → D → Option Val
  | .int i, .int j => some (.d (.int (i - j)))
  | _, _ => none
noncomputable def wid (i : Int) : Bool := @decide (-18446744073709551616 < i ∧ i < 18446744073709551616) (Classical.propDecidable _)
theorem wid_of {i : Int} (h : wid i = true) : -(2 ^ 64) < i ∧ i < 2 ^ 64 := by
  unfold wid at h
  exact @of_decide_eq_true _ (Classical.propDecidable _) h
def repL (k : Int) (l : List D) : List D := (List.replicate k.toNat l).flatten
noncomputable def mulD : D → D → Option Val
  | .int i, .int j => if (wid i || wid j) = true then some (.d (.int (i * j))) else none
  | .lst l, .int k => if bnd k = true ∧ l.length * k.toNat ≤ 16777216 then some (.new (.lst (repL k l))) else none
  | _, _ => none
theorem rp_rep {F : Hp} {vs : List V} {l : List D} (h : RpAll Γ F vs l) : ∀ n : Nat, RpAll Γ F (List.replicate n vs).flatten (List.replicate n l).flatten
  | 0 => .nil
  | n + 1 => by
    rw [List.replicate_succ, List.replicate_succ, List.flatten_cons, List.flatten_cons]
    exact h.append (rp_rep h n)
theorem len_rep {l : List D} (n : Nat) : (List.replicate n l).flatten.length = n * l.length := by simp
def rMulU (K : PySem.W.Frag) : R2 := fun x y H Q => rI CMul (fun i j => .int (i * j)) x y H Q ∨ rRep x y H Q
theorem op_mulU : OpR X (binaryOp .Mult) (rMulU X.K) := op_mul.or op_rep
theorem os_mul : OpS K ct (rMulU K) mulD := fun mu F H x y d e val Q sb rx ry h k => by
  cases d <;> cases e <;> first | (cases h; done) | skip
  · rename_i i j
    have h' : (if (wid i || wid j) = true then some (Val.d (.int (i * j))) else none) = some val := h
    by_cases hl : (wid i || wid j) = true
    · rw [if_pos hl] at h'
      cases h'
      rw [rx.int, ry.int]
      refine .inl ⟨i, j, rfl, rfl, ?_, k _ _ (.same (.int _))⟩
      rw [Bool.or_eq_true] at hl
      exact hl.imp wid_of wid_of
    · rw [if_neg hl] at h'; cases h'
  · rename_i l j
    have h' : (if bnd j = true ∧ l.length * j.toNat ≤ 16777216 then some (Val.new (.lst (repL j l))) else none) = some val := h
    by_cases hl : bnd j = true ∧ l.length * j.toNat ≤ 16777216
    · rw [if_pos hl] at h'
      cases h'
      obtain ⟨p, vs, rfl, h1, h2, h3⟩ := rx.lst sb
      rw [ry.int]
      have e1 := h2.length
      have b := bnd_of hl.1
      refine .inr ⟨p, j, vs, rfl, rfl, h1, by omega, by omega, sz16 (by rw [e1]; exact hl.2), fun r hr => k _ _ (.lst hr (rp_rep h2 _) ?_)⟩
      unfold repL; rw [len_rep, Nat.mul_comm]; exact hl.2
    · rw [if_neg hl] at h'; cases h'
def modD : D → D → Option Val := intOp (fun _ j => decide (0 < j)) fun i j => i % j
theorem os_mod : OpS K ct (rI (fun _ j => 0 < j) fun i j => .int (i % j)) modD := os_int fun i j h => of_decide_eq_true h
def fdivD : D → D → Option Val := intOp (fun _ j => decide (0 < j) && decide (j < 1073741824)) fun i j => i / j
theorem os_fdiv : OpS K ct (rI CDiv fun i j => .int (i / j)) fdivD := os_int fun i j h => by
  rw [Bool.and_eq_true, decide_eq_true_eq, decide_eq_true_eq] at h
  exact h
noncomputable def powD : D → D → Option Val := intOp (fun i j => decide (0 ≤ j) && decide (j ≤ 1000) && wid i) fun i j => i ^ j.toNat
theorem os_pow : OpS K ct (rI CPow fun i j => .int (i ^ j.toNat)) powD := os_int fun i j h => by
  rw [Bool.and_eq_true, Bool.and_eq_true, decide_eq_true_eq, decide_eq_true_eq] at h
  have w := wid_of h.2
  refine ⟨h.1.1, by omega, ?_⟩
  have : (2 : Nat) ^ 64 = 18446744073709551616 := by decide
  rw [this]
  omega
def negE (f : EM) : EM := fun ε => (fzE f ε).bind fun r => (r.1.res r.2).bind fun d => match d with | .int i => some (.d (.int (-i)), r.2) | _ => none
theorem de_neg {a : Expr} {pos : Pos} {f : EM} (h : PE X a (tE X.K ct f)) : PE X (.UnaryOp .USub a pos) (tE X.K ct (negE f)) := (pe_un un_neg (de_fz h)).imp fun σ H Q ⟨mu, ow, ε, val, ε', S, hf, k⟩ => by
  unfold negE at hf
  cases e : fzE f ε with
  | none => simp [e] at hf
  | some r =>
    simp only [e, Option.bind_some] at hf
    cases e2 : r.1.res r.2 with
    | none => simp [e2] at hf
    | some d =>
      simp only [e2, Option.bind_some] at hf
      split at hf
      · cases hf
        exact ⟨mu, ow, ε, r.1, r.2, S, e, fun v H1 ow1 S1 fr1 r1 => ⟨_, (VR.res S1 r1 e2).int, k _ H1 ow1 S1 fr1 (.int _)⟩⟩
      · cases hf
def cmpD (gi : Int → Int → Bool) (gs : List Nat → List Nat → Bool) : D → D → Option Val
  | .int i, .int j => some (.d (.bl (gi i j)))
  | .str a, .str b => some (.d (.bl (gs a.cps.toList b.cps.toList)))
  | _, _ => none
theorem os_cmp {gi : Int → Int → Bool} {gs : List Nat → List Nat → Bool} : OpS K ct (fun x y H Q => rI0 (fun i j => .bl (gi i j)) x y H Q ∨ ∃ i j, x = .str i ∧ y = .str j ∧ Q (.bl (gs i.cps.toList j.cps.toList)) H) (cmpD gi gs) := fun mu F H x y d e val Q sb rx ry h k => by
  cases d <;> cases e <;> first | (cases h; done) | skip
  · cases h
    rw [rx.int, ry.int]
    exact .inl ⟨_, _, rfl, rfl, k _ _ (.same (.bl _))⟩
  · cases h
    rw [rx.str.1, ry.str.1]
    exact .inr ⟨_, _, rfl, rfl, k _ _ (.same (.bl _))⟩
def ltD := cmpD (fun i j => decide (i < j)) fun a b => decide (a < b)
def leD := cmpD (fun i j => decide (i ≤ j)) fun a b => !decide (b < a)
def gtD := cmpD (fun i j => decide (j < i)) fun a b => decide (b < a)
def geD := cmpD (fun i j => decide (j ≤ i)) fun a b => !decide (a < b)
theorem op_ltU : OpR X (compareOp .Lt) (fun x y H Q => rI0 (fun i j => .bl (decide (i < j))) x y H Q ∨ ∃ i j, x = .str i ∧ y = .str j ∧ Q (.bl (decide (i.cps.toList < j.cps.toList))) H) := op_lt.or op_lt_str
theorem op_leU : OpR X (compareOp .LtE) (fun x y H Q => rI0 (fun i j => .bl (decide (i ≤ j))) x y H Q ∨ ∃ i j, x = .str i ∧ y = .str j ∧ Q (.bl (!decide (j.cps.toList < i.cps.toList))) H) := op_le.or op_le_str
theorem op_gtU : OpR X (compareOp .Gt) (fun x y H Q => rI0 (fun i j => .bl (decide (j < i))) x y H Q ∨ ∃ i j, x = .str i ∧ y = .str j ∧ Q (.bl (decide (j.cps.toList < i.cps.toList))) H) := op_gt.or op_gt_str
theorem op_geU : OpR X (compareOp .GtE) (fun x y H Q => rI0 (fun i j => .bl (decide (j ≤ i))) x y H Q ∨ ∃ i j, x = .str i ∧ y = .str j ∧ Q (.bl (!decide (i.cps.toList < j.cps.toList))) H) := op_ge.or op_ge_str
theorem os_lt : OpS K ct (fun x y H Q => rI0 (fun i j => .bl (decide (i < j))) x y H Q ∨ ∃ i j, x = .str i ∧ y = .str j ∧ Q (.bl (decide (i.cps.toList < j.cps.toList))) H) ltD := os_cmp
theorem os_le : OpS K ct (fun x y H Q => rI0 (fun i j => .bl (decide (i ≤ j))) x y H Q ∨ ∃ i j, x = .str i ∧ y = .str j ∧ Q (.bl (!decide (j.cps.toList < i.cps.toList))) H) leD := os_cmp (gs := fun a b => !decide (b < a))
theorem os_gt : OpS K ct (fun x y H Q => rI0 (fun i j => .bl (decide (j < i))) x y H Q ∨ ∃ i j, x = .str i ∧ y = .str j ∧ Q (.bl (decide (j.cps.toList < i.cps.toList))) H) gtD := os_cmp (gi := fun i j => decide (j < i)) (gs := fun a b => decide (b < a))
theorem os_ge : OpS K ct (fun x y H Q => rI0 (fun i j => .bl (decide (j ≤ i))) x y H Q ∨ ∃ i j, x = .str i ∧ y = .str j ∧ Q (.bl (!decide (i.cps.toList < j.cps.toList))) H) geD := os_cmp (gi := fun i j => decide (j ≤ i)) (gs := fun a b => !decide (a < b))
def intsD : List D → Option (List Int)
  | [] => some []
  | .int i :: l => (intsD l).map fun r => i :: r
  | _ => none
def lexLe (ns ms : List Int) : Bool := Ob.lexAt (fun j => decide (ns.getD j 0 = ms.getD j 0)) (fun j => decide (ns.getD j 0 ≤ ms.getD j 0)) (decide (ns.length ≤ ms.length)) 0 (min ns.length ms.length)
def leTD : D → D → Option Val
  | .tup a, .tup b => (intsD a).bind fun ns => (intsD b).map fun ms => .d (.bl (lexLe ns ms))
  | _, _ => none
end
end KD

set_option maxHeartbeats 4000000
namespace KD
open PySem L2
section
variable {K : PySem.W.Frag} {ct : Nat → Addr} {X : Cx} {Γ : Gam}
mutual
def toPy : D → PyData
  | .non => .none
  | .bl b => .bool b
  | .int i => .int i
  | .str s => .str s
  | .tup l => .tuple (toPyL l)
  | .lst l => .list (toPyL l)
  | .scr l => .list (l.map .int)
  | _ => .dict []
def toPyL : List D → List PyData
  | [] => []
  | d :: l => toPy d :: toPyL l
end
mutual
def plain : D → Bool
  | .non => true
  | .bl _ => true
  | .int _ => true
  | .str _ => true
  | .tup l => plainL l
  | .lst l => plainL l
  | .scr _ => true
  | _ => false
def plainL : List D → Bool
  | [] => true
  | d :: l => plain d && plainL l
end
def okD (d : D) : Bool := plain d && decide ((toPy d).depth ≤ 64)
theorem dpAll_ints {H : Hp} : ∀ l : List Int, DpAll K H (l.map V.int) (l.map PyData.int)
  | [] => .nil
  | i :: l => .cons (.int i) (dpAll_ints l)
mutual
theorem Rp.dp {F : Hp} : ∀ {v : V} {d : D}, Rp Γ F v d → plain d = true → Dp Γ.K F v (toPy d)
  | _, _, .non, _ => .non
  | _, _, .bl b, _ => .bl b
  | _, _, .int b, _ => .int b
  | _, _, .str b _, _ => .str b
  | _, _, .tup h r _, q => .tup h.sqt (RpAll.dp r q)
  | _, _, .lst h r _, q => .lst (.of h) (RpAll.dp r q)
  | _, _, .scr h _, q => .lst h (dpAll_ints _)
  | _, _, .pair _ _, q => by cases q
  | _, _, .ins _ _ _, q => by cases q
  | _, _, .dct _ _ _, q => by cases q
  | _, _, .dcl _ _ _, q => by cases q
  | _, _, .ptr _, q => by cases q
  | _, _, .cls _, q => by cases q
  | _, _, .rng _, q => by cases q
  | _, _, .exc _ _ _ _, q => by cases q
  | _, _, .tab _ _, q => by cases q
theorem RpAll.dp {F : Hp} : ∀ {vs : List V} {ds : List D}, RpAll Γ F vs ds → plainL ds = true → DpAll Γ.K F vs (toPyL ds)
  | _, _, .nil, _ => .nil
  | _, _, .cons h r, q => by
    have q' := Bool.and_eq_true_iff.mp (show (plain _ && plainL _) = true from q)
    exact .cons (Rp.dp h q'.1) (RpAll.dp r q'.2)
end
theorem canLay_ints : ∀ l : List Int, PyData.canLayAll0 (l.map PyData.int) = true
  | [] => rfl
  | i :: l => by show (true && PyData.canLayAll0 (l.map PyData.int)) = true; rw [canLay_ints l]; rfl
theorem strOk_of {s : Str} (h : sOk s = true) : PyData.canLay0 (.str s) = true := by
  have h1 := (Bool.and_eq_true_iff.mp h).1
  show s.cps.all (· < 0x110000) = true
  exact h1
mutual
theorem Rp.lay {F : Hp} : ∀ {v : V} {d : D}, Rp Γ F v d → plain d = true → PyData.canLay0 (toPy d) = true
  | _, _, .non, _ => rfl
  | _, _, .bl b, _ => rfl
  | _, _, .int b, _ => rfl
  | _, _, .str b h, _ => strOk_of h
  | _, _, .tup h r _, q => RpAll.lay r q
  | _, _, .lst h r _, q => RpAll.lay r q
  | _, _, .scr h _, q => canLay_ints _
  | _, _, .pair _ _, q => by cases q
  | _, _, .ins _ _ _, q => by cases q
  | _, _, .dct _ _ _, q => by cases q
  | _, _, .dcl _ _ _, q => by cases q
  | _, _, .ptr _, q => by cases q
  | _, _, .cls _, q => by cases q
  | _, _, .rng _, q => by cases q
  | _, _, .exc _ _ _ _, q => by cases q
  | _, _, .tab _ _, q => by cases q
theorem RpAll.lay {F : Hp} : ∀ {vs : List V} {ds : List D}, RpAll Γ F vs ds → plainL ds = true → PyData.canLayAll0 (toPyL ds) = true
  | _, _, .nil, _ => rfl
  | _, _, .cons h r, q => by
    have q' := Bool.and_eq_true_iff.mp (show (plain _ && plainL _) = true from q)
    show (PyData.canLay0 _ && PyData.canLayAll0 _) = true
    rw [Rp.lay h q'.1, RpAll.lay r q'.2]; rfl
end
theorem okD_shaped {F : Hp} {v : V} {d : D} (h : Rp Γ F v d) (q : okD d = true) : Dp Γ.K F v (toPy d) ∧ SeqAt.shaped (toPy d) = true := by
  have q' := Bool.and_eq_true_iff.mp q
  refine ⟨h.dp q'.1, ?_⟩
  show ((toPy d).canLay0 && decide ((toPy d).depth ≤ 64)) = true
  rw [h.lay q'.1, q'.2]; rfl
def eqd (a b : D) : Bool := PyData.eqv (toPy a) (toPy b)
def isFlat : D → Bool
  | .non => true
  | .bl _ => true
  | .int _ => true
  | .str _ => true
  | _ => false
theorem okD_flat {d : D} (h : isFlat d = true) : okD d = true := by cases d <;> first | rfl | cases h
def eqD (a b : D) : Option Val := if (okD a && okD b) = true then some (.d (.bl (eqd a b))) else none
def neD (a b : D) : Option Val := if (okD a && okD b) = true then some (.d (.bl (!eqd a b))) else none
theorem os_eq : OpS K ct (rEqD K) eqD := fun mu F H x y d e val Q sb rx ry h k => by
  unfold eqD at h
  split at h
  · rename_i hk
    cases h
    have hk' := Bool.and_eq_true_iff.mp hk
    obtain ⟨q1, q2⟩ := okD_shaped (rx.up sb) hk'.1
    obtain ⟨q3, q4⟩ := okD_shaped (ry.up sb) hk'.2
    exact ⟨_, _, q1, q3, q2, q4, k _ _ (.same (.bl _))⟩
  · cases h
theorem os_ne : OpS K ct (rNeD K) neD := fun mu F H x y d e val Q sb rx ry h k => by
  unfold neD at h
  split at h
  · rename_i hk
    cases h
    have hk' := Bool.and_eq_true_iff.mp hk
    obtain ⟨q1, q2⟩ := okD_shaped (rx.up sb) hk'.1
    obtain ⟨q3, q4⟩ := okD_shaped (ry.up sb) hk'.2
    exact ⟨_, _, q1, q3, q2, q4, k _ _ (.same (.bl _))⟩
  · cases h
def isND : D → D → Option Val
  | .non, .non => some (.d (.bl true))
  | _, .non => some (.d (.bl false))
  | _, _ => none
def notND : D → D → Option Val
  | .non, .non => some (.d (.bl false))
  | _, .non => some (.d (.bl true))
  | _, _ => none
theorem RpO.isNon {F H : Hp} {v : V} {d : D} (h : RpO Γ F H v d) : decide (v = .non) = (match d with | .non => true | _ => false) := by
  rcases h with h | ⟨p, m, rfl, ho, rfl⟩
  · cases h <;> rfl
  · cases m <;> rfl
def flatAll : List D → Bool
  | [] => true
  | d :: l => isFlat d && flatAll l
def inL (d : D) : List D → Bool
  | [] => false
  | e :: l => eqd e d || inL d l
def inD : D → D → Option Bool
  | d, .lst l => if (isFlat d && flatAll l) = true then some (inL d l) else if (okD d && okD (.lst l)) = true then some (inL d l) else none
  | d, .tup l => if (isFlat d && flatAll l) = true then some (inL d l) else none
  | .str a, .str b => some (!(Builtin.Str.occurrences b a 0 b.length 1).isEmpty)
  | _, _ => none
theorem flat_v {F : Hp} {v : V} {d : D} (h : Rp Γ F v d) (q : isFlat d = true) : flatV v = true := by cases h <;> first | rfl | cases q
theorem flat_eq {F : Hp} {v w : V} {d e : D} (h : Rp Γ F v d) (h2 : Rp Γ F w e) (q : isFlat d = true) (q2 : isFlat e = true) : eqV v w = eqd d e := by
  cases h <;> first | (cases q; done) | skip
  all_goals (cases h2 <;> first | (cases q2; done) | rfl)
theorem flat_all {F : Hp} : ∀ {vs : List V} {ds : List D}, RpAll Γ F vs ds → flatAll ds = true → vs.all flatV = true
  | _, _, .nil, _ => rfl
  | _, _, .cons h r, q => by
    have q' := Bool.and_eq_true_iff.mp (show (isFlat _ && flatAll _) = true from q)
    rw [List.all_cons, flat_v h q'.1, flat_all r q'.2]; rfl
theorem inV_eq {F : Hp} {x : V} {d : D} (hx : Rp Γ F x d) (qx : isFlat d = true) : ∀ {vs : List V} {ds : List D}, RpAll Γ F vs ds → flatAll ds = true → inV x vs = inL d ds
  | _, _, .nil, _ => rfl
  | _, _, .cons h r, q => by
    have q' := Bool.and_eq_true_iff.mp (show (isFlat _ && flatAll _) = true from q)
    have ih := inV_eq hx qx r q'.2
    unfold inV at ih ⊢
    rw [List.any_cons, ih, flat_eq h hx q'.1 qx]
    rfl
theorem any_eq {d : D} : ∀ l : List D, ((toPyL l).any fun z => PyData.eqv z (toPy d)) = inL d l
  | [] => rfl
  | e :: l => by
    show (PyData.eqv (toPy e) (toPy d) || (toPyL l).any fun z => PyData.eqv z (toPy d)) = _
    rw [any_eq l]; rfl
def rInU (K : PySem.W.Frag) : R2 := fun x y H Q => rIn K false x y H Q ∨ rInD K x y H Q ∨ ∃ i j, x = .str i ∧ y = .str j ∧ Q (.bl (!(Builtin.Str.occurrences j i 0 j.length 1).isEmpty)) H
theorem op_inU (hu : X.A.units + 65 < cLine) : OpR X (compareOp .In) (rInU X.K) := op_in_seq.or ((op_inD hu).or op_in_str)
def inV1 (d e : D) : Option Val := (inD d e).map fun b => .d (.bl b)
def ninV1 (d e : D) : Option Val := (inD d e).map fun b => .d (.bl (!b))
theorem in_core {F H : Hp} {x y : V} {d e : D} {b : Bool} {Q : VK} {neg : Bool} (sb : Sub F H) (rx : RpO Γ F H x d) (ry : RpO Γ F H y e) (h : inD d e = some b) (k : Q (.bl (if neg then !b else b)) H) :
    rIn Γ.K neg x y H Q ∨ (∃ d' ds, Dp Γ.K H x d' ∧ Dp Γ.K H y (.list ds) ∧ SeqAt.shaped d' = true ∧ SeqAt.shaped (.list ds) = true ∧ Q (.bl (if neg then !(ds.any fun z => PyData.eqv z d') else (ds.any fun z => PyData.eqv z d'))) H) ∨
      ∃ i j, x = .str i ∧ y = .str j ∧ Q (.bl (if neg then !(!(Builtin.Str.occurrences j i 0 j.length 1).isEmpty) else (!(Builtin.Str.occurrences j i 0 j.length 1).isEmpty))) H := by
  cases e with
  | lst l =>
    have h' : (if (isFlat d && flatAll l) = true then some (inL d l) else if (okD d && okD (.lst l)) = true then some (inL d l) else none) = some b := by cases d <;> exact h
    obtain ⟨p, vs, rfl, h1, h2, h3⟩ := ry.lst sb
    by_cases hf : (isFlat d && flatAll l) = true
    · rw [if_pos hf] at h'
      cases h'
      have hf' := Bool.and_eq_true_iff.mp hf
      have rx' := rx.up sb
      have h2' := h2.mono sb
      exact .inl ⟨p, vs, rfl, .inl (.of h1), flat_v rx' hf'.1, flat_all h2' hf'.2, by rw [inV_eq rx' hf'.1 h2' hf'.2]; exact k⟩
    · rw [if_neg hf] at h'
      by_cases hk : (okD d && okD (.lst l)) = true
      · rw [if_pos hk] at h'
        cases h'
        have hk' := Bool.and_eq_true_iff.mp hk
        obtain ⟨q1, q2⟩ := okD_shaped (rx.up sb) hk'.1
        obtain ⟨q3, q4⟩ := okD_shaped (ry.up sb) hk'.2
        exact .inr (.inl ⟨_, toPyL l, q1, q3, q2, q4, by rw [any_eq]; exact k⟩)
      · rw [if_neg hk] at h'; cases h'
  | tup l =>
    have h' : (if (isFlat d && flatAll l) = true then some (inL d l) else none) = some b := by cases d <;> exact h
    obtain ⟨p, vs, rfl, h1, h2, h3⟩ := ry.tup
    by_cases hf : (isFlat d && flatAll l) = true
    · rw [if_pos hf] at h'
      cases h'
      have hf' := Bool.and_eq_true_iff.mp hf
      have rx' := rx.up sb
      have h2' := h2.mono sb
      exact .inl ⟨p, vs, rfl, .inr (sb.sqt h1.sqt), flat_v rx' hf'.1, flat_all h2' hf'.2, by rw [inV_eq rx' hf'.1 h2' hf'.2]; exact k⟩
    · rw [if_neg hf] at h'; cases h'
  | str t =>
    cases d <;> first | (cases h; done) | skip
    cases h
    exact .inr (.inr ⟨_, _, rx.str.1, ry.str.1, k⟩)
  | _ => cases d <;> cases h
theorem os_in : OpS K ct (rInU K) inV1 := fun mu F H x y d e val Q sb rx ry h k => by
  unfold inV1 at h
  cases e1 : inD d e with
  | none => rw [e1] at h; cases h
  | some b =>
    rw [e1] at h
    cases h
    exact in_core (neg := false) sb rx ry e1 (k _ _ (.same (.bl _)))
def ixD : D → D → Option Val
  | .lst l, .int i => (atI l i).map .d
  | .tup l, .int i => (atI l i).map .d
  | .scr l, .int i => (atI l i).map fun n => .d (.int n)
  | .str s, .int i => (atI s.cps.toList i).map fun c => .d (chD c)
  | _, _ => none
theorem RpAll.atI {F : Hp} {vs : List V} {l : List D} {i : Int} {d : D} (r : RpAll Γ F vs l) (h : L2.atI l i = some d) : ∃ v, L2.atI vs i = some v ∧ Rp Γ F v d := by
  unfold L2.atI at h ⊢
  rw [r.length]
  cases e : ixN l.length i with
  | none => rw [e] at h; cases h
  | some j =>
    rw [e] at h
    obtain ⟨v, q1, q2⟩ := r.get (show l[j]? = some d from h)
    exact ⟨v, q1, q2⟩
theorem os_ix : OpS K ct (rIx K) ixD := fun mu F H x y d e val Q sb rx ry h k => by
  cases e <;> first | (cases d <;> (cases h; done)) | skip
  rename_i i
  rw [ry.int]
  cases d <;> first | (cases h; done) | skip
  · rename_i s
    have h' : ((L2.atI s.cps.toList i).map fun c => Val.d (chD c)) = some val := h
    cases e1 : L2.atI s.cps.toList i with
    | none => rw [e1] at h'; cases h'
    | some c =>
      rw [e1] at h'
      cases h'
      obtain ⟨rfl, hs⟩ := rx.str
      have hc : c ∈ s.cps.toList := by
        obtain ⟨j, _, hj, _⟩ := atI_get e1
        exact List.mem_of_getElem? hj
      exact .inr (.inr ⟨s, i, c, rfl, rfl, sz16 (sOk_len hs), e1, k _ _ (.same (.str _ (sOk_ch ((sOk_all hs).1 c hc))))⟩)
  · rename_i l
    have h' : ((L2.atI l i).map Val.d) = some val := h
    cases e1 : L2.atI l i with
    | none => rw [e1] at h'; cases h'
    | some z =>
      rw [e1] at h'
      cases h'
      obtain ⟨p, vs, rfl, h1, h2, h3⟩ := rx.tup
      obtain ⟨v, q1, q2⟩ := h2.atI e1
      exact .inr (.inl ⟨p, vs, i, v, rfl, rfl, (sb.tupR h1).sqt, q1, k _ _ (.same q2)⟩)
  · rename_i l
    have h' : ((L2.atI l i).map Val.d) = some val := h
    cases e1 : L2.atI l i with
    | none => rw [e1] at h'; cases h'
    | some z =>
      rw [e1] at h'
      cases h'
      obtain ⟨p, vs, rfl, h1, h2, h3⟩ := rx.lst sb
      obtain ⟨v, q1, q2⟩ := h2.atI e1
      exact .inl ⟨p, vs, i, v, rfl, rfl, .of h1, q1, k _ _ (.same q2)⟩
  · rename_i l
    have h' : ((L2.atI l i).map fun n => Val.d (.int n)) = some val := h
    cases e1 : L2.atI l i with
    | none => rw [e1] at h'; cases h'
    | some z =>
      rw [e1] at h'
      cases h'
      obtain ⟨p, rfl, h1, h3⟩ := rx.scr
      have q1 : L2.atI (l.map V.int) i = some (.int z) := by
        unfold L2.atI at e1 ⊢
        rw [List.length_map]
        cases e2 : ixN l.length i with
        | none => rw [e2] at e1; cases e1
        | some j =>
          rw [e2] at e1
          have e3 : l[j]? = some z := e1
          show (l.map V.int)[j]? = _
          rw [List.getElem?_map, e3]; rfl
      exact .inl ⟨p, _, i, .int z, rfl, rfl, sb.sql h1, q1, k _ _ (.same (.int _))⟩
def cutD (l : List D) (lo hi : Option Int) : List D := (l.drop (HT.sIx l.length 0 lo)).take (HT.sIx l.length l.length hi - HT.sIx l.length 0 lo)
def sliceD (d : D) (lo hi : Option Int) : Option Val := match d with
  | .lst l => some (.new (.lst (cutD l lo hi)))
  | .tup l => some (.d (.tup (cutD l lo hi)))
  | .str s => some (.d (.str (cutS s lo hi)))
  | .scr l => some (.new (.lst (cutD (l.map .int) lo hi)))
  | _ => none
theorem cutD_len {l : List D} {lo hi : Option Int} : (cutD l lo hi).length ≤ l.length := by
  unfold cutD
  rw [List.length_take, List.length_drop]
  omega
theorem rp_cut {F : Hp} {vs : List V} {l : List D} (r : RpAll Γ F vs l) (lo hi : Option Int) : RpAll Γ F (cutV vs lo hi) (cutD l lo hi) := by
  unfold cutV cutD
  rw [r.length]
  exact (r.drop _).take _
theorem sOk_cut {s : Str} (h : sOk s = true) (lo hi : Option Int) : sOk (cutS s lo hi) = true := by
  obtain ⟨h1, h2⟩ := sOk_all h
  unfold sOk cutS
  rw [Bool.and_eq_true]
  refine ⟨?_, decide_eq_true ?_⟩
  · rw [List.all_toArray, List.all_eq_true]
    intro c hc
    exact decide_eq_true (h1 c (List.mem_of_mem_drop (List.mem_of_mem_take hc)))
  · simp only [List.size_toArray, List.length_take, List.length_drop]
    omega
def rSlU (K : PySem.W.Frag) : V → Option Int → Option Int → Hp → VK → Prop := fun x lo hi H Q => rSlL K x lo hi H Q ∨ rSlF K x lo hi H Q ∨ rSlS x lo hi H Q
theorem sl_U : SlR X (rSlU X.K) := sl_list.or (sl_tupF.or sl_str)
theorem slice_core {F H : Hp} {x : V} {d : D} {lo hi : Option Int} {val : Val} {Q : VK} (sb : Sub F H) (rx : RpO Γ F H x d) (h : sliceD d lo hi = some val) (k : ∀ v H', Fresh Γ F H v H' val → Q v H') : rSlU Γ.K x lo hi H Q := by
  cases d <;> first | (cases h; done) | skip
  · cases h
    obtain ⟨rfl, hs⟩ := rx.str
    exact .inr (.inr ⟨_, rfl, sz16 (sOk_len hs), k _ _ (.same (.str _ (sOk_cut hs lo hi)))⟩)
  · rename_i l
    cases h
    obtain ⟨p, vs, rfl, h1, h2, h3⟩ := rx.tup
    have e := h2.length
    refine .inr (.inl ⟨p, vs, rfl, (sb.tupR h1).sqt, fun z => k _ _ (.same ?_), fun _ q o hq ho => k _ _ (.tup hq ho (rp_cut h2 lo hi) (Nat.le_trans cutD_len h3))⟩)
    have : cutD l lo hi = l := by
      unfold cutD
      rw [← e, z.1, z.2, List.drop_zero, Nat.sub_zero]
      exact List.take_of_length_le (Nat.le_of_eq e.symm)
    rw [this]
    exact .tup h1 h2 h3
  · cases h
    obtain ⟨p, vs, rfl, h1, h2, h3⟩ := rx.lst sb
    exact .inl ⟨p, vs, rfl, .of h1, fun q hq => k _ _ (.lst hq (rp_cut h2 lo hi) (Nat.le_trans cutD_len h3))⟩
  · rename_i l
    cases h
    obtain ⟨p, rfl, h1, h3⟩ := rx.scr
    exact .inl ⟨p, _, rfl, sb.sql h1, fun q hq => k _ _ (.lst hq (rp_cut (rp_ints l) lo hi) (Nat.le_trans cutD_len (by rw [List.length_map]; exact h3)))⟩
abbrev OM := SE → Option (Option Int × SE)
def tO (K : PySem.W.Frag) (ct : Nat → Addr) (f : OM) : TO := fun σ H Q => ∃ mu ow ε o ε', Sim ⟨K, ct, mu⟩ ow ε σ H ∧ f ε = some (o, ε') ∧ ∀ H' ow', Sim ⟨K, ct, mu⟩ ow' ε' σ H' → Fr ow H ow' H' → Q o H'
def oNone : OM := fun ε => some (none, ε)
def oSome (f : EM) : OM := fun ε => (fzE f ε).bind fun r => (r.1.res r.2).bind fun d => match d with | .int i => some (some i, r.2) | _ => none
theorem _root_.L2.PO.imp {e : Option Expr} {t t' : TO} (h : PO X e t) (i : ∀ σ H Q, t' σ H Q → t σ H Q) : PO X e t' := ⟨fun pins s σ H Q I q => h.run pins s σ H Q I (i σ H Q q)⟩
theorem do_none : PO X none (tO X.K ct oNone) := po_none.imp fun σ H Q ⟨mu, ow, ε, o, ε', S, hf, k⟩ => by
  cases hf
  exact k H ow S Fr.refl
theorem do_some {e : Expr} {f : EM} (h : PE X e (tE X.K ct f)) : PO X (some e) (tO X.K ct (oSome f)) := (po_some (de_fz h)).imp fun σ H Q ⟨mu, ow, ε, o, ε', S, hf, k⟩ => by
  unfold oSome at hf
  cases e1 : fzE f ε with
  | none => simp [e1] at hf
  | some r =>
    simp only [e1, Option.bind_some] at hf
    cases e2 : r.1.res r.2 with
    | none => simp [e2] at hf
    | some d =>
      simp only [e2, Option.bind_some] at hf
      split at hf
      · cases hf
        exact ⟨mu, ow, ε, r.1, r.2, S, e1, fun v H1 ow1 S1 fr1 r1 => ⟨_, (VR.res S1 r1 e2).int, k H1 ow1 S1 fr1⟩⟩
      · cases hf
def eSlice (fe : EM) (fl fh : OM) : EM := fun ε => (fzE fe ε).bind fun r => (fl r.2).bind fun l => (fh l.2).bind fun h => (r.1.res h.2).bind fun d => (sliceD d l.1 h.1).map fun v => (v, h.2)
theorem de_slice {e : Expr} {lo hi : Option Expr} {p2 pos : Pos} {fe : EM} {fl fh : OM} (h : PE X e (tE X.K ct fe)) (hl : PO X lo (tO X.K ct fl)) (hh : PO X hi (tO X.K ct fh)) : PE X (.Subscript e (.Slice lo hi none p2) pos) (tE X.K ct (eSlice fe fl fh)) :=
  (pe_slice sl_U (de_fz h) hl hh).imp fun σ H Q ⟨mu, ow, ε, val, ε', S, hf, k⟩ => by
    unfold eSlice at hf
    cases e1 : fzE fe ε with
    | none => simp [e1] at hf
    | some r =>
      simp only [e1, Option.bind_some] at hf
      cases e2 : fl r.2 with
      | none => simp [e2] at hf
      | some l =>
        simp only [e2, Option.bind_some] at hf
        cases e3 : fh l.2 with
        | none => simp [e3] at hf
        | some h =>
          simp only [e3, Option.bind_some] at hf
          cases e4 : r.1.res h.2 with
          | none => simp [e4] at hf
          | some d =>
            simp only [e4, Option.bind_some] at hf
            cases e5 : sliceD d l.1 h.1 with
            | none => simp [e5] at hf
            | some v =>
              simp only [e5, Option.map_some, Option.some.injEq, Prod.mk.injEq] at hf
              obtain ⟨rfl, rfl⟩ := hf
              refine ⟨mu, ow, ε, r.1, r.2, S, e1, fun x H1 ow1 S1 fr1 r1 => ⟨mu, ow1, r.2, l.1, l.2, S1, e2, fun H2 ow2 S2 fr2 => ⟨mu, ow2, l.2, h.1, h.2, S2, e3, fun H3 ow3 S3 fr3 => ?_⟩⟩⟩
              obtain ⟨va, ha, hv⟩ := fzE_some e1
              have r1' : VR ⟨X.K, ct, mu⟩ ow3 H3 σ H3 x r.1 := by
                rw [hv] at r1 ⊢
                exact r1.carry (fr2.trans fr3)
              refine slice_core (Γ := ⟨X.K, ct, mu⟩) cut_sub (VR.res S3 r1' e4) e5 fun w H' hw => ?_
              obtain ⟨ow4, S4, fr4, v4⟩ := Fresh.sim S3 hw
              exact k w H' ow4 S4 (((fr1.trans fr2).trans fr3).trans fr4) (v4.back fun p hp => ((fr1.trans fr2).trans fr3).none hp)
end
end KD

set_option maxHeartbeats 4000000
namespace KD
open PySem PySem.Spec PyProof.Rows L2
structure FnG (P : Program) (w : World) (K : PySem.W.Frag) (mg : Str → Option Value) (base : Heap) (k : Nat) (f : Addr) (fd : FuncData) (ps : List Str) (sp : Sp) : Prop where
  len : ∀ vs H Q E, sp vs H Q E → vs.length = ps.length
  run : ∀ (A : Around) (outer : List Env) (s : Shared) (H : Hp) (args : Args) (us : List Value) (vs : List V) (Q : VK) (E : XK), A.guards = some [] → Room k A → Env0 P w K mg base A outer s H → BindsTo s fd args (ps.zip us) → Vals vs us → sp vs H Q E →
    codeAny (model P w) A (.call (.ref f) args) (CR CX0 outer P w H s Q E) s
theorem FnG.of {P : Program} {w : World} {K : PySem.W.Frag} {mg : Str → Option Value} {base : Heap} {k : Nat} {f : Addr} {fd : FuncData} {ps : List Str} {sp : Sp} (F : FnOk P w K mg base CX0 k f fd ps sp) : FnG P w K mg base k f fd ps sp :=
  ⟨F.len, fun A outer s H args us vs Q E _ hr => F.run A outer s H args us vs Q E hr⟩
section
variable {X : Cx} {k : Nat} {f : Addr} {fd : FuncData} {ps : List Str} {sp : Sp} {dvs : List V} {ds : List Value} {E : XK} {x : Str} {p pos : Pos} {e : Expr} {es : List Expr} {t : TA}
theorem run_fnG {pins : List (Addr × Obj)} {σ : L2.St} {H : Hp} {s : Shared} {Q : VK} {us : List Value} {vs : List V} (F : FnG X.prog X.w X.K X.mg X.base k f fd ps sp) (hgd : X.A.guards = some []) (hr : Room k X.A) (hb : Binds X.K fd ps ds) (hd : Vals dvs ds)
    (I : L2.Inv X pins σ H s) (r : Vals vs us) (h : sp (vs ++ dvs) H Q E) : wpAny (model X.prog X.w) X.A (call (.ref f) us) (EP X pins σ Q) X.xe s := by
  have r2 : Vals (vs ++ dvs) (us ++ ds) := r.append hd
  have hl : (us ++ ds).length = ps.length := r2.length.symm.trans (F.len _ _ _ _ h)
  refine wpAny_call (codeAny_mono (F.run X.A X.stack s H ⟨us, []⟩ (us ++ ds) (vs ++ dvs) Q E hgd hr I.env0 (hb s us I.kIn hl) r2 h) fun res s' hq => ?_)
  match res, hq with
  | .ok (.ret u), hq => exact I.after hq
theorem pe_callG (F : FnG X.prog X.w X.K X.mg X.base k f fd ps sp) (hgd : X.A.guards = some []) (hr : Room k X.A) (hg : Gl X x) (hm : X.mg x = some (.ref f)) (hk : PySem.W.keepIn X.K (.ref f) = true) (hb : Binds X.K fd ps ds) (hd : Vals dvs ds)
    (ha : PA X (e :: es) t) (hdb : (x == ("__debug__" : Str)) = false := by decide) (he : starEach (e :: es) X.env = (false, eval e X.env) :: starEach es X.env := by rfl) (hpl : (backTo pos (starEach es X.env)).any (·.1) = false := by rfl) :
    PE X (.Call (.Name x p) (e :: es) [] pos) (tCall sp dvs E t) :=
  ⟨fun pins s σ H Q I h => wpAny_Call_Name_kw (ld_glob I hg hm (PySem.W.callWith_K (h₀ := X.base) I.ok.mod.kin hk (thn (ha.run pos pins s σ H _ I h) fun _ _ ⟨_, _, I1, r, q⟩ => ⟨I1.kIn, run_fnG F hgd hr hb hd I1 r q⟩) he hpl) hdb)⟩
end
end KD

set_option maxHeartbeats 4000000
namespace KD
open PySem PySem.Spec PyProof.Rows L2
section
variable {X : Cx} {ct : Nat → Addr} {Γ : Gam} {K : PySem.W.Frag}
def lenD : List D → Option Val
  | [.lst l] => some (.d (.int (l.length : Nat)))
  | [.tup l] => some (.d (.int (l.length : Nat)))
  | [.scr l] => some (.d (.int (l.length : Nat)))
  | [.str s] => some (.d (.int (s.length : Nat)))
  | _ => none
theorem pair1 {α β : Type} {R : α → β → Prop} {xs : List α} {d : β} (h : Paired R xs [d]) : ∃ x, xs = [x] ∧ R x d := by
  cases h with
  | cons h t => cases t; exact ⟨_, rfl, h⟩
theorem pair2 {α β : Type} {R : α → β → Prop} {xs : List α} {d e : β} (h : Paired R xs [d, e]) : ∃ x y, xs = [x, y] ∧ R x d ∧ R y e := by
  cases h with
  | cons h t => cases t with
    | cons h2 t => cases t; exact ⟨_, _, rfl, h, h2⟩
theorem sOk_len' {s : Str} (h : sOk s = true) : s.length ≤ sizeLine := sz16 (sOk_len h)
theorem cs_len : CallS K ct (fun xs H Q => ∃ x n, xs = [x] ∧ LenV K x H n ∧ Q (.int n) H) lenD := fun mu F H xs ds val Q sb r h k => by
  unfold lenD at h
  split at h
  · rename_i l
    cases h
    obtain ⟨x, rfl, rx⟩ := pair1 r
    obtain ⟨a, vs, rfl, h1, h2, h3⟩ := rx.lst sb
    exact ⟨_, l.length, rfl, .inl ⟨vs, .of h1, h2.length.symm⟩, k _ _ (.same (.int _))⟩
  · rename_i l
    cases h
    obtain ⟨x, rfl, rx⟩ := pair1 r
    obtain ⟨a, vs, rfl, h1, h2, h3⟩ := rx.tup
    exact ⟨_, l.length, rfl, .inr ⟨vs, (sb.tupR h1).sqt, h2.length.symm⟩, k _ _ (.same (.int _))⟩
  · rename_i l
    cases h
    obtain ⟨x, rfl, rx⟩ := pair1 r
    obtain ⟨a, rfl, h1, h3⟩ := rx.scr
    exact ⟨_, l.length, rfl, .inl ⟨_, sb.sql h1, by rw [List.length_map]⟩, k _ _ (.same (.int _))⟩
  · rename_i s
    cases h
    obtain ⟨x, rfl, rx⟩ := pair1 r
    obtain ⟨rfl, hs⟩ := rx.str
    exact ⟨_, s.length, rfl, ⟨sOk_len' hs, rfl⟩, k _ _ (.same (.int _))⟩
  · cases h
def intD : List D → Option Val
  | [.int i] => some (.d (.int i))
  | [.bl b] => some (.d (.int (if b then 1 else 0)))
  | _ => none
def absD : List D → Option Val
  | [.int i] => some (.d (.int (if i < 0 then -i else i)))
  | _ => none
theorem cs_abs : CallS K ct (fun xs H Q => ∃ i, xs = [.int i] ∧ Q (.int (if i < 0 then -i else i)) H) absD := fun mu F H xs ds val Q sb r h k => by
  unfold absD at h
  split at h
  · cases h
    obtain ⟨x, rfl, rx⟩ := pair1 r
    rw [rx.int]
    exact ⟨_, rfl, k _ _ (.same (.int _))⟩
  · cases h
def max2D : List D → Option Val
  | [.int i, .int j] => some (.d (.int (if j > i then j else i)))
  | _ => none
theorem cs_max2 : CallS K ct (fun xs H Q => ∃ i j, xs = [.int i, .int j] ∧ Q (.int (if j > i then j else i)) H) max2D := fun mu F H xs ds val Q sb r h k => by
  unfold max2D at h
  split at h
  · cases h
    obtain ⟨x, y, rfl, rx, ry⟩ := pair2 r
    rw [rx.int, ry.int]
    exact ⟨_, _, rfl, k _ _ (.same (.int _))⟩
  · cases h
def min2D : List D → Option Val
  | [.int i, .int j] => some (.d (.int (if j < i then j else i)))
  | _ => none
theorem cs_min2 : CallS K ct (fun xs H Q => ∃ i j, xs = [.int i, .int j] ∧ Q (.int (if j < i then j else i)) H) min2D := fun mu F H xs ds val Q sb r h k => by
  unfold min2D at h
  split at h
  · cases h
    obtain ⟨x, y, rfl, rx, ry⟩ := pair2 r
    rw [rx.int, ry.int]
    exact ⟨_, _, rfl, k _ _ (.same (.int _))⟩
  · cases h

def listD : List D → Option Val
  | [d] => (seqD d).map fun l => .new (.lst l)
  | _ => none
def tupD : List D → Option Val
  | [.tup l] => some (.d (.tup l))
  | [.lst l] => some (.d (.tup l))
  | [.scr l] => some (.d (.tup (l.map .int)))
  | [.str s] => some (.d (.tup (s.cps.toList.map chD)))
  | _ => none
def blsD : List D → Option (List Bool)
  | [] => some []
  | .bl b :: r => (blsD r).map fun l => b :: l
  | _ => none
theorem blsD_map : ∀ {l : List D} {r : List Bool}, blsD l = some r → l = r.map .bl
  | [], r, h => by cases h; rfl
  | .bl b :: l, r, h => by
    have h' : ((blsD l).map fun l => b :: l) = some r := h
    cases e : blsD l with
    | none => rw [e] at h'; cases h'
    | some r' => rw [e] at h'; cases h'; rw [blsD_map e]; rfl
  | .non :: _, _, h => by cases h
  | .int _ :: _, _, h => by cases h
  | .str _ :: _, _, h => by cases h
  | .tup _ :: _, _, h => by cases h
  | .pair _ :: _, _, h => by cases h
  | .lst _ :: _, _, h => by cases h
  | .scr _ :: _, _, h => by cases h
  | .ins _ _ _ :: _, _, h => by cases h
  | .dct _ _ :: _, _, h => by cases h
  | .dcl _ _ :: _, _, h => by cases h
  | .ptr _ :: _, _, h => by cases h
  | .cls _ :: _, _, h => by cases h
  | .rng _ _ :: _, _, h => by cases h
  | .exc _ _ _ :: _, _, h => by cases h
  | .tab _ _ :: _, _, h => by cases h
theorem rp_blsV {F : Hp} : ∀ {r : List Bool} {vs : List V}, RpAll Γ F vs (r.map D.bl) → vs = r.map V.bl
  | [], _, .nil => rfl
  | b :: r, _, .cons h t => by cases h; rw [rp_blsV t]; rfl
def allD : List D → Option Val
  | [.lst l] => (blsD l).map fun b => .d (.bl (b.all id))
  | _ => none
def anyD : List D → Option Val
  | [.lst l] => (blsD l).map fun b => .d (.bl (b.any id))
  | _ => none
theorem cs_all : CallS K ct (rAll K) allD := fun mu F H xs ds val Q sb r h k => by
  unfold allD at h
  split at h
  · rename_i l
    cases e : blsD l with
    | none => rw [e] at h; cases h
    | some b =>
      rw [e] at h
      cases h
      obtain ⟨x, rfl, rx⟩ := pair1 r
      obtain ⟨a, vs, rfl, h1, h2, h3⟩ := rx.lst sb
      rw [blsD_map e] at h2
      rw [rp_blsV h2] at h1
      exact ⟨a, b, rfl, .of h1, k _ _ (.same (.bl _))⟩
  · cases h
def isL : MO → Bool
  | .lst _ => true
  | _ => false
def appM : MO → List D → Option (MO × D)
  | .lst l, [d] => if l.length < 16777216 then some (.lst (l ++ [d]), .non) else none
  | _, _ => none
noncomputable def popM : MO → List D → Option (MO × D)
  | .lst l, [.int i] => if bnd i = true then (ixN l.length i).bind fun j => (l[j]?).map fun x => (.lst (l.eraseIdx j), x) else none
  | .lst l, [] => (l[l.length - 1]?).map fun x => (.lst l.dropLast, x)
  | _, _ => none
theorem RpAll.dropLast {F : Hp} : ∀ {vs : List V} {ds : List D}, RpAll Γ F vs ds → RpAll Γ F vs.dropLast ds.dropLast
  | _, _, .nil => .nil
  | _, _, .cons h .nil => .nil
  | _, _, .cons h (.cons h2 r) => .cons h (RpAll.dropLast (.cons h2 r))
end
end KD

set_option maxHeartbeats 4000000
namespace KD
open PySem PySem.Spec PyProof.Rows L2
section
variable {X : Cx} {ct : Nat → Addr} {Γ : Gam} {K : PySem.W.Frag}
def rRepr (K : PySem.W.Frag) : List V → Hp → VK → Prop := fun xs H Q => (∃ a d, xs = [.ref a] ∧ Dp K H (.ref a) d ∧ d.showable = true ∧ d.hasDict = false ∧ d.depth ≤ 64 ∧ d.shown.length ≤ sizeLine ∧ Q (.str d.shown) H) ∨
  ∃ i, xs = [.int i] ∧ i.natAbs.log2 < 1920 ∧ Q (.str (toString i)) H
theorem call_reprU (hg : X.A.guards = some []) (hu : X.A.units + 80 < cLine) : CallR X (.builtin "repr") (rRepr X.K) := by
  intro pins s σ H xs us Q I r h
  rcases h with ⟨a, d, rfl, hd, h1, h2, h3, h4, q⟩ | h
  · obtain ⟨u, rfl, rx⟩ := vals1 r
    obtain ⟨as, rd⟩ := Dp.reads I d _ _ hd rx
    cases rx
    exact repr_of_reads' rd h1 (PySem.PyData.noDict_hsm h2) hg (by omega) (fun _ _ e => e) (fun h' u tk hk => ⟨.str _, H, I.kept hk, ⟨u, rfl⟩, q⟩) h4
  · exact SkE.call_repr_int pins s σ H xs us Q I r h
def okR (d : D) : Bool := okD d && (toPy d).showable && sOk (toPy d).shown
def reprD : List D → Option Val
  | [.int i] => if i.natAbs.log2 < 1920 ∧ sOk (toString i) = true then some (.d (.str (toString i))) else none
  | [.lst l] => if okR (.lst l) = true then some (.d (.str (toPy (.lst l)).shown)) else none
  | [.tup l] => if okR (.tup l) = true then some (.d (.str (toPy (.tup l)).shown)) else none
  | _ => none
theorem repr_core {F H : Hp} {v : V} {d : D} {Q : VK} (sb : Sub F H) (rx : RpO Γ F H v d) (h : okR d = true) (hr : ∀ w, Rp Γ H v d → v = w → ∃ a, w = .ref a) (k : Q (.str (toPy d).shown) H) : rRepr Γ.K [v] H Q := by
  unfold okR at h
  rw [Bool.and_eq_true, Bool.and_eq_true] at h
  obtain ⟨⟨h1, h2⟩, h3⟩ := h
  have rx' := rx.up sb
  have hp : plain d = true := by unfold okD at h1; rw [Bool.and_eq_true] at h1; exact h1.1
  have hdp : (toPy d).depth ≤ 64 := by unfold okD at h1; rw [Bool.and_eq_true] at h1; exact of_decide_eq_true h1.2
  obtain ⟨a, rfl⟩ := hr v rx' rfl
  exact .inl ⟨a, toPy d, rfl, rx'.dp hp, h2, PySem.PyData.hasDict_of_canLay _ (rx'.lay hp), hdp, sOk_len' h3, k⟩
theorem cs_repr : CallS K ct (rRepr K) reprD := fun mu F H xs ds val Q sb r h k => by
  unfold reprD at h
  split at h
  · rename_i i
    split at h
    · rename_i hz
      cases h
      obtain ⟨x, rfl, rx⟩ := pair1 r
      rw [rx.int]
      exact .inr ⟨i, rfl, hz.1, k _ _ (.same (.str _ hz.2))⟩
    · cases h
  · rename_i l
    split at h
    · rename_i hz
      cases h
      obtain ⟨x, rfl, rx⟩ := pair1 r
      have hs : sOk (toPy (.lst l)).shown = true := by unfold okR at hz; rw [Bool.and_eq_true] at hz; exact hz.2
      exact repr_core sb rx hz (fun w r e => by subst e; cases r; exact ⟨_, rfl⟩) (k _ _ (.same (.str _ hs)))
    · cases h
  · rename_i l
    split at h
    · rename_i hz
      cases h
      obtain ⟨x, rfl, rx⟩ := pair1 r
      have hs : sOk (toPy (.tup l)).shown = true := by unfold okR at hz; rw [Bool.and_eq_true] at hz; exact hz.2
      exact repr_core sb rx hz (fun w r e => by subst e; cases r; exact ⟨_, rfl⟩) (k _ _ (.same (.str _ hs)))
    · cases h
  · cases h

inductive Kd | ty (n : String) | cl (c : Nat)
def kindM : MO → Option Kd
  | .lst _ => some (.ty "list")
  | .ins c _ _ => some (.cl c)
  | .dct _ _ => some (.ty "dict")
  | .tab _ _ => none
def kindD (ε : SE) : D → Option Kd
  | .non => some (.ty "NoneType")
  | .bl _ => some (.ty "bool")
  | .int _ => some (.ty "int")
  | .str _ => some (.ty "str")
  | .tup _ => some (.ty "tuple")
  | .pair _ => some (.ty "tuple")
  | .lst _ => some (.ty "list")
  | .scr _ => some (.ty "list")
  | .dct _ _ => some (.ty "dict")
  | .dcl _ _ => none
  | .cls _ => none
  | .rng _ _ => none
  | .exc _ _ _ => none
  | .tab _ _ => none
  | .ins c _ _ => some (.cl c)
  | .ptr n => (ε.M[n]?).bind kindM
def eIsi (tab : Kd → Option Bool) (fe : EM) : EM := fun ε => (fzE fe ε).bind fun r => (r.1.res r.2).bind fun d => (kindD r.2 d).bind fun kd => (tab kd).map fun b => (.d (.bl b), r.2)
def tyNames : List String := ["NoneType", "bool", "int", "str", "tuple", "list", "dict"]
def isTy (T n : String) : Bool := n == T || (T == "int" && n == "bool")
def tabT (T : String) : Kd → Option Bool
  | .ty n => if tyNames.contains n = true then some (isTy T n) else none
  | .cl _ => none
def tabC (l : List (Nat × Bool)) : Kd → Option Bool
  | .ty n => if tyNames.contains n = true then some false else none
  | .cl c => l.lookup c
theorem lookup_memL {β : Type} {c : Nat} {b : β} : ∀ {l : List (Nat × β)}, l.lookup c = some b → (c, b) ∈ l
  | (x, y) :: l, h => by
    rw [List.lookup_cons] at h
    by_cases e : (c == x) = true
    · rw [e] at h
      cases h
      rw [beq_iff_eq.mp e]
      exact List.mem_cons_self
    · rw [Bool.not_eq_true] at e
      rw [e] at h
      exact List.mem_cons_of_mem _ (lookup_memL h)
def isTupD : D → Bool
  | .tup _ => true
  | _ => false
end
end KD

set_option maxHeartbeats 4000000
namespace KD
open PySem PySem.Spec PyProof.Rows L2
section
variable {P : Program} {w : World} {K : PySem.W.Frag} {mg : Str → Option Value} {base : Heap} {ct : Nat → Addr}
theorem pre_le {N ps : List Str} {sc : Scope} (S : FnScope N ps sc) : ps.length ≤ N.length := by
  have := congrArg List.length S.pre
  rw [List.length_take] at this
  omega
theorem fd_ok {x qual : Str} {params : Arguments} {body : List Stmt} {scope : Scope} {dvs : List V} {kws : List (Str × V)} {f : Addr} {fd : FuncData} {N ps : List Str} {k : Nat} {fm : SM} (F : FunD K x qual params body scope dvs kws f fd) (S : FnScope N ps scope)
    (hb : ∀ cdv A outer s H E, Room k (A.deeper (envOfC qual scope s.heap.objs.size f cdv)) → PSs (cxOf CX0 P w K mg base N qual scope f cdv A outer s H E).nox body (tS K ct fm)) :
    FnOk P w K mg base CX0 (k + 1) f fd ps (FnS K ct ps.length (runF ps.length N.length fm)) :=
  F.ok S (fun vs H Q E h => h.1) fun cdv A outer s H vs Q E hr h => ⟨tS K ct fm, (hb cdv A outer s H E hr).nox, fnS_start (pre_le S) h⟩
theorem fd_okG {x qual : Str} {params : Arguments} {body : List Stmt} {scope : Scope} {kws : List (Str × V)} {f : Addr} {fd : FuncData} {N ps : List Str} {k : Nat} {fm : SM} {dvs : List V} (F : FunD K x qual params body scope dvs kws f fd) (S : FnScope N ps scope)
    (hb : ∀ cdv A outer s H E, A.guards = some [] → Room k (A.deeper (envOfC qual scope s.heap.objs.size f cdv)) → PSs (cxOf CX0 P w K mg base N qual scope f cdv A outer s H E).nox body (tS K ct fm)) :
    FnG P w K mg base (k + 1) f fd ps (FnS K ct ps.length (runF ps.length N.length fm)) := by
  obtain ⟨oc, od, dV, kV, doc, pm, an, cdv, ct', osl, rfl, lk, hcd, _, _⟩ := F.ex
  refine ⟨fun vs H Q E h => h.1, fun A outer s H args us vs Q E hgd hr e0 hb' r hsp => ?_⟩
  have old : ∀ b o, base.get? b = some o → s.heap.get? b = some o := fun b o e => (e0.bs b o e).1
  have KX : K.In s.heap := e0.mod.kin.keeps old
  refine codeAny_call_function hr.depth (KX _ _ lk) rfl S.co S.gen rfl (PySem.W.codeRec_of KX hcd) (hb' _ _ _ _ ?_)
  refine wpAny_newFunctionEnv_cells S.kind (fun y hy => (S.par y.1 (List.of_mem_zip hy).1).imp id fun q => ⟨q, PySem.W.cellsFrom_some _ _ _ (.inl q)⟩) fun env he s1 x => ?_
  subst he
  refine ⟨(e0.mod.nolimit.keeps old).keeps x.toInCall.keep, codeAny_func ?_⟩
  have I := inv_start (CX := CX0) (E := E) S hr.hd e0 hsp.1 r x
  refine wpAny_mono ((hb cdv A outer s H E hgd (hr.deeper _)).nox.run [] s1 (L2.start N vs) H { nx := fun _ H' => Q .non H', rt := Q } I (fnS_start (pre_le S) hsp)) (fun fl s' hs => ?_) fun _ _ hs => hs
  match fl, hs with
  | .ret u, ⟨v, σ', H', J, rv, q⟩ => exact ⟨v, H', J.os, J.bare, J.base, J.hok, rv, q⟩
  | .next, ⟨σ', H', J, q⟩ => exact ⟨V.non, H', J.os, J.bare, J.base, J.hok, rfl, q⟩
  | .brk, ⟨_, _, _, q⟩ => exact q.elim
  | .cont, ⟨_, _, _, q⟩ => exact q.elim
end
section
variable {X : Cx} {ct : Nat → Addr} {k n : Nat} {f : Addr} {fd : FuncData} {ps : List Str} {fm : FM} {dvs : List V} {dd : List D} {ds : List Value} {E : XK} {x : Str} {p pos : Pos} {e : Expr} {es : List Expr} {fa : AM}
def eBag (fm : FM) (dd : List D) (ge : EM) (fa : AM) : EM := fun ε => (ge ε).bind fun g => match g.1 with
  | .new m => (fa g.2).bind fun r => (escL r.2 r.1).bind fun q => if noPM q.2.M.length m = true ∧ noPL q.2.M.length (q.1 ++ dd) = true ∧ q.2.M.all (noPM q.2.M.length) = true then
      (fm (.ptr q.2.M.length :: (q.1 ++ dd)) (q.2.M ++ [m])).bind fun o => match o.1 with
        | .d x => if noP q.2.M.length x = true ∧ o.2.length = q.2.M.length + 1 ∧ (o.2.take q.2.M.length).all (noPM q.2.M.length) = true then some (.d x, { q.2 with M := o.2.take q.2.M.length }) else none
        | _ => none
      else none
  | _ => none
theorem eBag_some {ge : EM} {ε : SE} {r : Val × SE} (h : eBag fm dd ge fa ε = some r) :
    ∃ m ε1 ra q x o, ge ε = some (.new m, ε1) ∧ fa ε1 = some ra ∧ escL ra.2 ra.1 = some q ∧ noPM q.2.M.length m = true ∧ noPL q.2.M.length (q.1 ++ dd) = true ∧ q.2.M.all (noPM q.2.M.length) = true ∧
      fm (.ptr q.2.M.length :: (q.1 ++ dd)) (q.2.M ++ [m]) = some (.d x, o) ∧ noP q.2.M.length x = true ∧ o.length = q.2.M.length + 1 ∧ (o.take q.2.M.length).all (noPM q.2.M.length) = true ∧ r = (.d x, { q.2 with M := o.take q.2.M.length }) := by
  unfold eBag at h
  cases e1 : ge ε with
  | none => simp [e1] at h
  | some g =>
    obtain ⟨g1, ε1⟩ := g
    simp only [e1, Option.bind_some] at h
    cases g1 with
    | d _ => cases h
    | old _ => cases h
    | ex _ => cases h
    | new m =>
      dsimp only at h
      cases e2 : fa ε1 with
      | none => simp [e2] at h
      | some ra =>
        simp only [e2, Option.bind_some] at h
        cases e3 : escL ra.2 ra.1 with
        | none => simp [e3] at h
        | some q =>
          simp only [e3, Option.bind_some] at h
          split at h
          · rename_i hc
            cases e4 : fm (.ptr q.2.M.length :: (q.1 ++ dd)) (q.2.M ++ [m]) with
            | none => simp [e4] at h
            | some o =>
              obtain ⟨o1, o2⟩ := o
              simp only [e4, Option.bind_some] at h
              cases o1 with
              | new _ => cases h
              | old _ => cases h
              | ex _ => cases h
              | d x =>
                dsimp only at h
                split at h
                · rename_i hc2
                  cases h
                  exact ⟨m, ε1, ra, q, x, o2, rfl, e2, e3, hc.1, hc.2.1, hc.2.2, e4, hc2.1, hc2.2.1, hc2.2.2, rfl⟩
                · cases h
          · cases h
theorem bag_imp {K : PySem.W.Frag} {ge : EM} (hd : ∀ mu F, RpAll ⟨K, ct, mu⟩ F dvs dd) (hn : ∀ ds M o, fm ds M = some o → ds.length = n) (σ : L2.St) (H : Hp) (Q : VK)
    (h : tE K ct (eBag fm dd ge fa) σ H Q) : tCall (FnS K ct n fm) dvs E (tCons (tE K ct ge) (tA K ct fa)) σ H Q := by
  obtain ⟨mu, ow, ε, val, ε', S, hf, k⟩ := h
  obtain ⟨m, ε1, ra, q, xd, o, e1, e2, e3, e4, e5, e6, e7, e8, e9, e10, e11⟩ := eBag_some hf
  cases e11
  refine ⟨mu, ow, ε, .new m, ε1, S, e1, fun v H1 ow1 S1 fr1 r1 => ⟨mu, ow1, ε1, ra.1, ra.2, S1, e2, fun vs H2 ow2 S2 fr2 r2 => ?_⟩⟩
  obtain ⟨a, rfl, ht1, h0, ho1⟩ := r1
  obtain ⟨oa, hoa⟩ := ObjR.has ho1
  obtain ⟨ht2, hoa2⟩ := fr2.ke a oa _ hoa ht1 (.inl rfl)
  obtain ⟨ow3, S3, fr3, r3⟩ := VRs.esc S2 r2 e3
  obtain ⟨ht3, _⟩ := fr3.ke a oa _ hoa2 ht2 (.inl rfl)
  have ho3 : ObjR ⟨K, ct, mu⟩ (cut H2 ow3) H2 a m := ObjR.mono ho1 (fr2.trans fr3).sub fun o' e => by rw [hoa] at e; cases e; exact hoa2
  let nn := q.2.M.length
  let ow4 : OwF := setO ow3 a (some (.obj nn))
  have c4 : cut H2 ow4 = cut H2 ow3 := by
    funext b
    by_cases hb : b = a
    · subst hb
      unfold cut
      rw [show ow4 b = some (.obj nn) from setO_same, ht3]
    · unfold cut
      rw [show ow4 b = ow3 b from setO_ne hb]
  have S4 : Sim ⟨K, ct, mu⟩ ow4 q.2 σ H2 := S3.move (by rw [c4]; exact Sub.refl _) fun b o' w hb ew hw => by
    have nb : b ≠ a := by
      rintro rfl
      rw [ht3] at ew; cases ew
      rcases hw with ⟨_, z⟩ | ⟨_, z⟩ <;> cases z
    exact ⟨by rw [show ow4 b = ow3 b from setO_ne nb]; exact ew, hb⟩
  have r4 : RpAll ⟨K, ct, mu⟩ (cut H2 ow3) (vs ++ dvs) (q.1 ++ dd) := RpAll.sub0 hd r3
  let mu' : Nat → Option Addr := fun j => if j = nn then some a else mu j
  have hmu : ∀ j, j ≠ nn → mu j = mu' j := fun j hj => by show mu j = if j = nn then some a else mu j; rw [if_neg hj]
  have hmu2 : ∀ j, j ≠ nn → mu' j = mu j := fun j hj => (hmu j hj).symm
  have hmn : mu' nn = some a := if_pos rfl
  have frA : Fr ow H ow4 H2 := by
    have fr := (fr1.trans fr2).trans fr3
    have ne : ∀ b o', H b = some o' → ow4 b = ow3 b := fun b o' hb => setO_ne (ne_of_none hb h0)
    exact ⟨fun b o' hb e => by rw [ne b o' hb]; exact fr.fz b o' hb e, fun b o' w hb e z => by rw [ne b o' hb]; exact fr.ke b o' w hb e z, fr.tr, fun b o' j hb e => by rw [ne b o' hb]; exact fr.ob b o' j hb e⟩
  have e7' := hn _ _ _ e7
  refine ⟨?_, mu', extO ow4, .ptr nn :: (q.1 ++ dd), q.2.M ++ [m], (.d xd, o), extO_noLoc _, ?_, ?_, e7, fun v H' ow' M' fr rv => ?_⟩
  · rw [List.length_cons] at e7'
    rw [List.cons_append, List.length_cons, r4.length]; exact e7'
  · rw [cut_ext, c4]
    exact .cons (.ptr hmn) (r4.mu hmu e5)
  · intro j mm hj
    by_cases hjl : j < q.2.M.length
    · rw [List.getElem?_append_left hjl] at hj
      obtain ⟨p', h1, h2, h3⟩ := S4.mo j mm hj
      have hjn : j ≠ nn := Nat.ne_of_lt hjl
      refine ⟨p', (hmu j hjn).symm.trans h1, extO_obj.mpr h2, ?_⟩
      rw [cut_ext]
      exact ObjR.mu hmu h3 (List.all_eq_true.mp e6 mm (List.mem_of_getElem? hj))
    · rw [List.getElem?_append_right (by omega)] at hj
      have hj0 : j = nn := by
        have := (List.getElem?_eq_some_iff.mp hj).1
        simp only [List.length_singleton] at this
        omega
      subst hj0
      simp only [nn, Nat.sub_self, List.getElem?_cons_zero, Option.some.injEq] at hj
      subst hj
      refine ⟨a, hmn, extO_obj.mpr setO_same, ?_⟩
      rw [cut_ext, c4]
      exact ObjR.mu hmu ho3 e4
  · have M5 : MSim ⟨K, ct, mu⟩ ow' (o.take nn) H' := fun j mm hj => by
      have hjl : j < nn := by
        have := (List.getElem?_eq_some_iff.mp hj).1
        rw [List.length_take] at this
        omega
      have hj2 : o[j]? = some mm := by rw [List.getElem?_take_of_lt hjl] at hj; exact hj
      obtain ⟨p', h1, h2, h3⟩ := M' j mm hj2
      exact ⟨p', (hmu j (Nat.ne_of_lt hjl)).trans h1, h2, ObjR.mu hmu2 h3 (List.all_eq_true.mp e10 mm (List.mem_of_getElem? hj))⟩
    obtain ⟨S6, fr6, s6⟩ := call_back S4 (by rw [List.length_take]; omega) M5 fr
    exact k v H' _ S6 (frA.trans fr6) (Rp.mono s6 (Rp.mu hmu2 rv e8))
theorem de_bagG {ge : EM} (F : FnG X.prog X.w X.K X.mg X.base k f fd ps (FnS X.K ct n fm)) (hgd : X.A.guards = some []) (hr : Room k X.A) (hm : X.mg x = some (.ref f)) (hk : PySem.W.keepIn X.K (.ref f) = true) (hb : Binds X.K fd ps ds) (hd : Vals dvs ds)
    (hdd : ∀ mu F, RpAll ⟨X.K, ct, mu⟩ F dvs dd) (hn : ∀ ds M o, fm ds M = some o → ds.length = n) (hge : PE X e (tE X.K ct ge)) (ha : PA X es (tA X.K ct fa)) (hg : Gl X x := by rfl)
    (hdb : (x == ("__debug__" : Str)) = false := by decide) (he : starEach (e :: es) X.env = (false, eval e X.env) :: starEach es X.env := by rfl) (hpl : (backTo pos (starEach es X.env)).any (·.1) = false := by rfl) :
    PE X (.Call (.Name x p) (e :: es) [] pos) (tE X.K ct (eBag fm dd ge fa)) := (pe_callG (E := E0) F hgd hr hg hm hk hb hd (pa_cons hge ha he) hdb he hpl).imp (bag_imp hdd hn)
end
end KD

set_option maxHeartbeats 4000000
namespace KD
open PySem PySem.Spec PyProof.Rows L2
def pick {α : Type} (is : List Nat) (l : List α) : List α := is.filterMap fun i => l[i]?
theorem RpAll.pick {Γ : Gam} {F : Hp} {vs : List V} {ds : List D} (r : RpAll Γ F vs ds) : ∀ is : List Nat, RpAll Γ F (KD.pick is vs) (KD.pick is ds)
  | [] => .nil
  | i :: is => by
    unfold KD.pick
    cases e : ds[i]? with
    | none =>
      have e2 : vs[i]? = none := by rw [List.getElem?_eq_none_iff] at e ⊢; rw [r.length]; exact e
      rw [List.filterMap_cons_none e2, List.filterMap_cons_none e]
      exact RpAll.pick r is
    | some d =>
      obtain ⟨v, q1, q2⟩ := r.get e
      rw [List.filterMap_cons_some q1, List.filterMap_cons_some e]
      exact .cons q2 (RpAll.pick r is)
theorem vals_at : ∀ {vs : List V} {us : List Value} (i : Nat), Vals vs us → (vs[i]? = none ∧ us[i]? = none) ∨ ∃ v u, vs[i]? = some v ∧ us[i]? = some u ∧ RelV v u
  | _, _, _, .nil => .inl ⟨rfl, rfl⟩
  | _, _, 0, .cons r _ => .inr ⟨_, _, rfl, rfl, r⟩
  | _, _, i + 1, .cons _ t => by simpa using vals_at i t
theorem vals_pick {vs : List V} {us : List Value} (r : Vals vs us) : ∀ is : List Nat, Vals (KD.pick is vs) (KD.pick is us)
  | [] => .nil
  | i :: is => by
    unfold KD.pick
    rcases vals_at i r with ⟨q1, q2⟩ | ⟨v, u, q1, q2, q3⟩
    · rw [List.filterMap_cons_none q1, List.filterMap_cons_none q2]
      exact vals_pick r is
    · rw [List.filterMap_cons_some q1, List.filterMap_cons_some q2]
      exact .cons q3 (vals_pick r is)
section
variable {X : Cx} {ct : Nat → Addr} {Γ : Gam}
theorem _root_.L2.PK.imp {kws : List Keyword} {t t' : TA} (h : PK X kws t) (i : ∀ σ H Q, t' σ H Q → t σ H Q) : PK X kws t' := ⟨fun pos pins s σ H Q I q => h.run pos pins s σ H Q I (i σ H Q q)⟩
theorem dk_nil : PK X [] (tA X.K ct aNil) := pk_nil.imp fun σ H Q h => tA_nil_imp σ H Q h
theorem cons_imp {K : PySem.W.Frag} {f : EM} {g : AM} (σ : L2.St) (H : Hp) (Q : List V → Hp → Prop) (h : tA K ct (aCons f g) σ H Q) : tCons (tE K ct (fzE f)) (tA K ct g) σ H Q := by
  obtain ⟨mu, ow, ε, vals, ε', S, hf, k⟩ := h
  obtain ⟨ra, rb, e1, e2, e3⟩ := aCons_some hf
  cases e3
  refine ⟨mu, ow, ε, ra.1, ra.2, S, e1, fun x H1 ow1 S1 fr1 r1 => ⟨mu, ow1, ra.2, rb.1, rb.2, S1, e2, fun xs H2 ow2 S2 fr2 r2 => k (x :: xs) H2 ow2 S2 (fr1.trans fr2) ⟨?_, r2⟩⟩⟩
  obtain ⟨va, ha, hv⟩ := fzE_some e1
  rw [hv] at r1 ⊢
  rw [fzv_fzv]
  exact r1.carry fr2
theorem dk_cons {nm : Option Str} {kpos : Pos} {e : Expr} {kws : List Keyword} {f : EM} {g : AM} (h : PE X e (tE X.K ct f)) (h2 : PK X kws (tA X.K ct g)) : PK X (⟨nm, e, kpos⟩ :: kws) (tA X.K ct (aCons f g)) := (pk_cons (de_fz h) h2).imp cons_imp
def eKw (n m : Nat) (is : List Nat) (fm : FM) (dd : List D) (fa fk : AM) : EM := fun ε => (fa ε).bind fun r => (fk r.2).bind fun q => if r.1.length = n ∧ q.1.length = m then
  (escL q.2 (r.1 ++ q.1)).bind fun z => (fm (pick is (z.1 ++ dd)) z.2.M).bind fun o => if o.2.length = z.2.M.length then some (o.1, { z.2 with M := o.2 }) else none else none
theorem VRs.append {ow : OwF} {σ : L2.St} {H H0 : Hp} : ∀ {vs zs : List V} {as bs : List Val}, VRs Γ ow H0 σ H vs as → VRs Γ ow H0 σ H zs bs → VRs Γ ow H0 σ H (vs ++ zs) (as ++ bs)
  | [], _, [], _, _, h => h
  | _ :: _, _, _ :: _, _, h, q => ⟨h.1, VRs.append h.2 q⟩
  | [], _, _ :: _, _, h, _ => h.elim
  | _ :: _, _, [], _, h, _ => h.elim
theorem VRs.len {ow : OwF} {σ : L2.St} {H H0 : Hp} : ∀ {vs : List V} {as : List Val}, VRs Γ ow H0 σ H vs as → vs.length = as.length
  | [], [], _ => rfl
  | _ :: _, _ :: _, h => congrArg Nat.succ (VRs.len h.2)
  | [], _ :: _, h => h.elim
  | _ :: _, [], h => h.elim
section
variable {CX : CXT} {k n j : Nat} {f : Addr} {fd : FuncData} {ps ks : List Str} {fm : FM} {dvs : List V} {dd : List D} {ds : List Value} {E : XK} {x : Str} {p pos : Pos} {e : Expr} {es : List Expr} {kws : List Keyword} {fa fk : AM} {is : List Nat}
def KB (K : PySem.W.Frag) (fd : FuncData) (ps : List Str) (n : Nat) (ks : List Str) (is : List Nat) (ds : List Value) (dvs : List V) : Prop := KBn K fd ps n ks (fun us ws => pick is (us ++ ws ++ ds)) (fun vs zs => pick is (vs ++ zs ++ dvs))
theorem kb_of {K : PySem.W.Frag} (hd : Vals dvs ds) (h : ∀ (s : Shared) (us ws : List Value), K.In s.heap → us.length = n → ws.length = ks.length → BindsTo s fd ⟨us, ks.zip ws⟩ (ps.zip (pick is (us ++ ws ++ ds)))) : KB K fd ps n ks is ds dvs :=
  ⟨h, fun r q => vals_pick ((r.append q).append hd) is⟩
end
end

section
variable {P : Program} {w : World} {K : PySem.W.Frag} {mg mb : Str → Option Value} {k : Nat} {fa a : Addr} {fd : FuncData} {x : Str} {sp : Sp} {s1 : Shared} {vs : List Value} {ns : List Int}
def scrH (K : PySem.W.Frag) (a : Addr) (vs : List Value) (ns : List Int) : Hp := fun b => if b = a ∧ K.lookup a = none then some (.frz { cls := .type "list", data := .seq vs.toArray } (.lst (ns.map V.int))) else none
theorem scrH_some {b : Addr} {u : HO} (h : scrH K a vs ns b = some u) : b = a ∧ K.lookup a = none ∧ u = .frz { cls := .type "list", data := .seq vs.toArray } (.lst (ns.map V.int)) := by
  unfold scrH at h
  split at h
  · rename_i z; cases h; exact ⟨z.1, z.2, rfl⟩
  · cases h
theorem law_endG (KX : K.In s1.heap) (hns : s1.heap.Ns mainGlobals mg) (hb : s1.heap.Ns builtinsNs mb) (hbb : ∀ x : Str, x ≠ "__name__" → mb x = bootBuiltins x) (hlim : s1.heap.NoLimit) (hg : s1.gens = #[])
    (ha : s1.heap.get? a = some { cls := .type "list", data := .seq vs.toArray }) (hi : IntsAre vs ns) (hl : ns.length ≤ sizeLine) (hr : Room k callerA)
    (F : ∀ base : Heap, K.In base → base.Ns mainGlobals mg → FnG P w K mg base k fa fd [x] sp) (hbind : ∀ (s : Shared) (u : Value), BindsTo s fd ⟨[u], []⟩ [(x, u)])
    (hsp : ∀ H : Hp, Only H → SqL K H a (ns.map V.int) → sp [.ref a] H (fun v _ => v = .bl true) E0) :
    codeAny (model P w) callerA (.call (.ref fa) ⟨[.ref a], []⟩) (fun r s' => r = .ok (.ret (.bool true)) ∧ OldK s1.heap s'.heap ∧ s'.os = s1.os ∧ AllBare s'.gens) s1 := by
  have rv := vals_ints hi
  have lenV := hi.length
  let H : Hp := scrH K a vs ns
  have onlyH : Only H := fun b => by
    cases q : H b with
    | none => exact .inl rfl
    | some u => exact .inr ⟨_, _, congrArg some (scrH_some q).2.2⟩
  have seqH : SqL K H a (ns.map V.int) := by
    cases q : K.lookup a with
    | some o =>
      have e := KX a o q
      rw [ha] at e
      cases e
      exact .inr ⟨_, vs.toArray, _, q, rfl, rfl, rfl, by rw [List.size_toArray, lenV]; exact hl, by simpa using rv⟩
    | none => exact .inl (.inr ⟨_, if_pos ⟨rfl, q⟩⟩)
  have okH : HOk P w H s1.heap := fun b u q => by
    obtain ⟨rfl, _, rfl⟩ := scrH_some q
    exact ⟨ha, by rw [List.length_map]; exact hl, vs, _, rv, ha⟩
  have hid : ∀ {b : Addr} {o : Obj}, s1.heap.get? b = some o → (b = a → K.lookup a ≠ none ∨ ∃ es ep, o.data = .dict es ep) → (hidT s1.heap H).get? b = some o := fun {b o} e n => hidT_get e (by
    cases q : H b with
    | none => rfl
    | some u =>
      obtain ⟨rfl, z, _⟩ := scrH_some q
      rcases n rfl with n | ⟨es, ep, d⟩
      · exact absurd z n
      · rw [ha] at e
        cases e
        cases d)
  have ns' : ∀ {b : Addr} {m : Str → Option Value}, s1.heap.Ns b m → (hidT s1.heap H).Ns b m := fun ⟨o, es, ep, e, d, r⟩ => ⟨o, es, ep, hid e fun _ => .inr ⟨es, ep, d⟩, d, r⟩
  have kIn' : K.In (hidT s1.heap H) := fun b o e => hid (KX b o e) fun z => .inl (by rw [← z, e]; simp)
  have e0 : Env0 P w K mg (hidT s1.heap H) callerA [] s1 H := ⟨rfl, ⟨kIn', ns' hns, ⟨mb, ns' hb, hbb⟩, hlim.elim fun mc h => ⟨mc, ns' h.1, h.2⟩⟩, fun b o e => of_hidT e, Nat.le_of_eq (hidT_size _ _), trivial, fun b z => (nomatch (show b ∈ ([] : List Addr) from z)), okH, .of_eq hg⟩
  refine codeAny_mono ((F _ kIn' (ns' hns)).run callerA [] s1 H ⟨[.ref a], []⟩ [.ref a] [.ref a] _ _ rfl hr e0 (hbind s1 (.ref a)) (.cons rfl .nil) (hsp H onlyH seqH)) fun r s' h => ?_
  match r, h with
  | .ok (.ret u), ⟨v, H', os, bare, un, hok', r', q⟩ =>
    cases (show v = .bl true from q)
    cases (show u = Value.bool true from r')
    refine ⟨rfl, OldK.of_keep fun b o e => ?_, os, bare⟩
    cases z : H b with
    | none => exact un.keep b o e z (fun y => (nomatch (show b ∈ ([] : List Addr) from y))) (by simp)
    | some u =>
      obtain ⟨rfl, _, rfl⟩ := scrH_some z
      obtain ⟨e1, _⟩ := okH b _ z
      obtain ⟨e2, _⟩ := hok' b _ (un.frzs b _ _ z)
      rw [e] at e1
      cases e1
      exact e2
end
theorem walk_endG {l : PySem.W.OpenLaw} {n k : Nat} {q : Program} {loose : List Str} {XP : (Str → Option Value) → Heap → Prop} {YP : World → Heap → Prop} {d : DefRec} {x : Str} (hn : l.most = some n) (hn2 : n ≤ sizeLine) (hdf : d.params.defaults = []) (hr : Room k callerA)
    (F : ∀ (w : World) (mg : Str → Option Value) (fa : Addr) (h : Heap), YP w h → h.Ns mainGlobals mg → mg d.name = some (.ref fa) →
      ∃ (K : PySem.W.Frag) (fd : FuncData) (sp : Sp), K.In h ∧ (∀ (s : Shared) (u : Value), BindsTo s fd ⟨[u], []⟩ [(x, u)]) ∧
        (∀ (H : Hp) (a : Addr) (ns : List Int), ns.length ≤ n → Only H → SqL K H a (ns.map V.int) → sp [.ref a] H (fun v _ => v = .bl true) E0) ∧
        ∀ base : Heap, K.In base → base.Ns mainGlobals mg → FnG l.prog w K mg base k fa fd [x] sp) :
    PySem.W.WalkO q loose XP YP l.row.toRowW d [] (fun f vs => PySem.call f vs) := Att.attach_call hn hdf fun w s₀ s1 mg mb fa o pm cd doc a vs ns G Y ho hd hcd hmg hobj hints hlen hg => by
  obtain ⟨K, fd, sp, KX, hb, hsp, hF⟩ := F w mg fa _ Y G.T.g hmg
  exact law_endG KX G.T.g G.T.b G.T.builtins G.T.nolimit hg hobj hints (Nat.le_trans hlen hn2) hr hF hb fun H hO hS => hsp H a ns hlen hO hS
theorem law_sp {K : PySem.W.Frag} {ct : Nat → Addr} {fm : FM} {H : Hp} {a : Addr} {ns : List Int} (hl : ns.length ≤ 63) (hS : SqL K H a (ns.map V.int)) (h : fm [.scr ns] [] = some (.d (.bl true), [])) :
    FnS K ct 1 fm [.ref a] H (fun v _ => v = .bl true) E0 := by
  refine ⟨rfl, fun _ => none, fun _ => none, [.scr ns], [], _, (fun a w z => by cases z), .cons (.scr ?_ (by omega)) .nil, (fun n m z => by simp at z), h, fun v H' ow' M' fr rv => ?_⟩
  · have e : cut H (fun _ => none) = H := by funext b; rfl
    rw [e]; exact hS
  · cases rv; rfl
end KD

set_option maxHeartbeats 4000000
namespace KD
open PySem PySem.Spec PyProof.Rows L2
section
variable {X : Cx} {ct : Nat → Addr} {Γ : Gam} {K : PySem.W.Frag}
theorem yes_imp (σ : L2.St) (H : Hp) (Q : Bool → Hp → Prop) (h : tT K ct yesB σ H Q) : tYes σ H Q := by
  obtain ⟨mu, ow, ε, b, ε', S, hf, k⟩ := h
  cases hf
  exact k H ow S Fr.refl
theorem _root_.L2.PTs.imp {X : Cx} {e : List Expr} {t t' : TT} (h : PTs X e t) (i : ∀ σ H Q, t' σ H Q → t σ H Q) : PTs X e t' :=
  ⟨fun pins s σ H Q I q => h.run pins s σ H Q I (i σ H Q q)⟩
theorem dts_nil : PTs X [] (tT X.K ct yesB) := pts_nil.imp yes_imp
theorem de_lc {elt tg iter : Expr} {ifs : List Expr} {scope : Scope} {own : List (Str × Nat)} {pos : Pos} {us : List Nat} {fi : IM} {g : TG} {gD : GM} {tt : BM} {te : EM} (hc : X.calm = true) (hN : X.N.Nodup) (hi : PI X tg iter (tI X.K ct fi)) (ok : BlkOk X.N X.env.scope scope own)
    (ht0 : TgS X.K ct us g gD) (hus : ∀ i ∈ us, i ∈ own.map (·.2))
    (hg : ∀ (s : Shared) (H : Hp) (C : Addr) (cl : List (Str × Addr)) (fp : List Addr), PG (X.blk s H scope (compEnvC scope cl C X.env) fp) tg g) (ht : ∀ (s : Shared) (H : Hp) (C : Addr) (cl : List (Str × Addr)) (fp : List Addr), PTs (X.blk s H scope (compEnvC scope cl C X.env) fp) ifs (tT X.K ct tt))
    (he : ∀ (s : Shared) (H : Hp) (C : Addr) (cl : List (Str × Addr)) (fp : List Addr), PE (X.blk s H scope (compEnvC scope cl C X.env) fp) elt (tE X.K ct te)) (hs : ∀ x, foldedSetIterable iter X.env x = pure x := by intro _; rfl) :
    PE X (.ListComp elt [⟨tg, iter, ifs, 0⟩] scope pos) (tE X.K ct (eLc fi gD tt te (own.map (·.2)))) :=
  (pe_lc hc hN hi ok hg ht (fun s H C cl fp => de_fz (X := X.blk s H scope (compEnvC scope cl C X.env) fp) (he s H C cl fp)) hs).imp (lc_imp ht0 hus)
end
section
variable {fa : List He.Fa} {fn : List He.DefD} {ts : List He.Tab} {tf : List He.Defn} {ex : PySem.W.Frag → Bool} {w : World} {h : Heap} {K : PySem.W.Frag} {mg : Str → Option Value}
noncomputable def fdOf (K : PySem.W.Frag) (d : He.DefD) : FuncData := open Classical in
  if e : ∃ fd, FunD K d.name d.qual d.params d.body d.scope (d.dvs K) (d.kws K) (He.fAd K d.at_) fd then e.choose else PySem.W.fnOf d.name d.qual d.params d.body d.scope .none .none .none .none none .none .none
theorem sx_def (c : He.SaysX fa fn ts tf ex w h K) {d : He.DefD} (hd : d ∈ fn) : FunD K d.name d.qual d.params d.body d.scope (d.dvs K) (d.kws K) (He.fAd K d.at_) (fdOf K d) := by
  have e := c.t.d.defs hd
  unfold fdOf
  rw [dif_pos e]
  exact e.choose_spec
end
end KD

set_option maxHeartbeats 4000000
namespace KD
open PySem PySem.Spec PyProof.Rows L2
section
variable {K : PySem.W.Frag}
theorem fd_kb {x qual : Str} {params : Arguments} {body : List Stmt} {scope : Scope} {kws : List (Str × V)} {f : Addr} {fd : FuncData} {ps ks : List Str} {n : Nat} {is : List Nat} (F : FunD K x qual params body scope [] kws f fd)
    (h : ∀ (kV doc pm : Value) (an : Option Addr) (cdv ct : Value) (us ws : List Value), us.length = n → ws.length = ks.length → bindArgs (PySem.W.fnOf x qual params body scope .none kV doc pm an cdv ct) ⟨us, ks.zip ws⟩ = pure (ps.zip (pick is (us ++ ws ++ [])))) : KB K fd ps n ks is [] [] := by
  obtain ⟨oc, od, dV, kV, doc, pm, an, cdv, ct, osl, rfl, lk, hcd, hD, hK⟩ := F.ex
  rcases hD with ⟨_, rfl⟩ | ⟨e, _⟩
  · exact kb_of .nil fun s us ws X hu hw => .of_eq (h kV doc pm an cdv ct us ws hu hw)
  · exact absurd rfl e
end
end KD
namespace KD
open PySem PySem.Spec PyProof.Rows L2
def blkB (N : List Str) (sc scope : Scope) (own : List (Str × Nat)) : Bool := (match scope.kind with | .function => true | _ => false) && (scope.names.all (fun y => decide (scope.names.lookup y.1 = some y.2)) && (own.all (fun p => decide (N[p.2]? = some p.1)) &&
  (scope.names.all (fun y => !decide (y.2 = .free) || (decide (sc.names.lookup y.1 = some .cell) || decide (sc.names.lookup y.1 = some .free))) && scope.names.all (fun y => !(decide (y.2 = .local) || decide (y.2 = .cell)) || ((own.map (·.1)).contains y.1 || !N.contains y.1)))))
theorem blk_of {N : List Str} {sc scope : Scope} {own : List (Str × Nat)} (h : blkB N sc scope own = true) : BlkOk N sc scope own := by
  unfold blkB at h
  simp only [Bool.and_eq_true, List.all_eq_true, Bool.or_eq_true, Bool.not_eq_true', decide_eq_true_eq, decide_eq_false_iff_not, Bool.or_eq_false_iff] at h
  obtain ⟨h1, h2, h3, h4, h5⟩ := h
  refine ⟨?_, h2, h3, fun y hy e => (h4 y hy).elim (fun z => absurd e z) id, fun y hy e => ?_⟩
  · cases z : scope.kind <;> first | rfl | (rw [z] at h1; cases h1)
  · rcases h5 y hy with z | z | z
    · rcases e with e | e
      · exact absurd e z.1
      · exact absurd e z.2
    · exact .inl (by simpa using z)
    · exact .inr (by simpa using z)
end KD

set_option maxHeartbeats 4000000
namespace KD
open PySem PySem.Spec PyProof.Rows L2
section
variable {X : Cx} {ct : Nat → Addr} {Γ : Gam} {K : PySem.W.Frag}
def blV : Val → Option Bool
  | .d (.bl b) => some b
  | _ => none
theorem blV_some {v : Val} {b : Bool} (h : blV v = some b) : v = .d (.bl b) := by
  cases v with
  | d x => cases x <;> first | (cases h; rfl) | cases h
  | _ => cases h
def eChain (g g' : D → D → Option Val) (fa fb fc : EM) : EM := fun ε => (fzE fa ε).bind fun ra => (fzE fb ra.2).bind fun rb => (ra.1.res rb.2).bind fun d => (rb.1.res rb.2).bind fun e => (g d e).bind fun v => (blV v).bind fun k =>
  if k = true then (fzE fc rb.2).bind fun rc => (rb.1.res rc.2).bind fun e' => (rc.1.res rc.2).bind fun f => (g' e' f).map fun r => (r, rc.2) else some (.d (.bl false), rb.2)
theorem eChain_some {g g' : D → D → Option Val} {fa fb fc : EM} {ε : SE} {r : Val × SE} (h : eChain g g' fa fb fc ε = some r) : ∃ ra rb d e k, fzE fa ε = some ra ∧ fzE fb ra.2 = some rb ∧ ra.1.res rb.2 = some d ∧ rb.1.res rb.2 = some e ∧ g d e = some (.d (.bl k)) ∧
    ((k = true ∧ ∃ rc e' f, fzE fc rb.2 = some rc ∧ rb.1.res rc.2 = some e' ∧ rc.1.res rc.2 = some f ∧ g' e' f = some r.1 ∧ r.2 = rc.2) ∨ (k = false ∧ r = (.d (.bl false), rb.2))) := by
  unfold eChain at h
  cases e1 : fzE fa ε with
  | none => simp [e1] at h
  | some ra =>
    simp only [e1, Option.bind_some] at h
    cases e2 : fzE fb ra.2 with
    | none => simp [e2] at h
    | some rb =>
      simp only [e2, Option.bind_some] at h
      cases e3 : ra.1.res rb.2 with
      | none => simp [e3] at h
      | some d =>
        simp only [e3, Option.bind_some] at h
        cases e4 : rb.1.res rb.2 with
        | none => simp [e4] at h
        | some e =>
          simp only [e4, Option.bind_some] at h
          cases e5 : g d e with
          | none => simp [e5] at h
          | some v =>
            simp only [e5, Option.bind_some] at h
            cases e6 : blV v with
            | none => simp [e6] at h
            | some k =>
              have := blV_some e6
              subst this
              simp only [e6, Option.bind_some] at h
              refine ⟨ra, rb, d, e, k, rfl, e2, e3, e4, e5, ?_⟩
              cases k with
              | false =>
                rw [if_neg Bool.false_ne_true] at h
                exact .inr ⟨rfl, (Option.some.inj h).symm⟩
              | true =>
                rw [if_pos rfl] at h
                refine .inl ⟨rfl, ?_⟩
                cases e7 : fzE fc rb.2 with
                | none => simp [e7] at h
                | some rc =>
                  simp only [e7, Option.bind_some] at h
                  cases e8 : rb.1.res rc.2 with
                  | none => simp [e8] at h
                  | some e' =>
                    simp only [e8, Option.bind_some] at h
                    cases e9 : rc.1.res rc.2 with
                    | none => simp [e9] at h
                    | some f =>
                      simp only [e9, Option.bind_some] at h
                      cases e10 : g' e' f with
                      | none => simp [e10] at h
                      | some w =>
                        simp only [e10, Option.map_some, Option.some.injEq] at h
                        exact ⟨rc, e', f, rfl, e8, e9, by rw [← h]; exact e10, by rw [← h]⟩
theorem fresh_bl {F H H' : Hp} {v : V} {b : Bool} (h : Fresh Γ F H v H' (.d (.bl b))) : v = .bl b ∧ H' = H := by
  cases h with
  | same r => cases r; exact ⟨rfl, rfl⟩
theorem chain_imp {r r' : R2} {g g' : D → D → Option Val} (hs : OpS K ct r g) (hs' : OpS K ct r' g') {fa fb fc : EM} (σ : L2.St) (H : Hp) (Q : VK) (h : tE K ct (eChain g g' fa fb fc) σ H Q) :
    tChain r r' (tE K ct (fzE fa)) (tE K ct (fzE fb)) (tE K ct (fzE fc)) σ H Q := by
  obtain ⟨mu, ow, ε, val, ε', S, hf, k⟩ := h
  obtain ⟨ra, rb, d, e, b, e1, e2, e3, e4, e5, e6⟩ := eChain_some hf
  refine ⟨mu, ow, ε, ra.1, ra.2, S, e1, fun x H1 ow1 S1 fr1 r1 => ⟨mu, ow1, ra.2, rb.1, rb.2, S1, e2, fun y H2 ow2 S2 fr2 r2 => ?_⟩⟩
  obtain ⟨va, ha, hv⟩ := fzE_some e1
  obtain ⟨vb, hb, hvb⟩ := fzE_some e2
  have r1' : VR ⟨K, ct, mu⟩ ow2 H1 σ H2 x ra.1 := by
    rw [hv] at r1 ⊢
    exact r1.carry fr2
  refine hs mu (cut H2 ow2) H2 x y d e _ _ cut_sub (VR.res S2 r1' e3) (VR.res S2 r2 e4) e5 fun z H3 hz => ?_
  obtain ⟨rfl, eH⟩ := fresh_bl hz
  have eH' := eH.symm
  subst eH'
  refine ⟨b, rfl, ?_⟩
  rcases e6 with ⟨rfl, rc, e', f, e7, e8, e9, e10, e11⟩ | ⟨rfl, e7⟩
  · rw [if_pos rfl]
    dsimp only at e10 e11
    subst e11
    refine ⟨mu, ow2, rb.2, rc.1, rc.2, S2, e7, fun u H4 ow4 S4 fr4 r4 => ?_⟩
    have r2' : VR ⟨K, ct, mu⟩ ow4 H2 σ H4 y rb.1 := by
      rw [hvb] at r2 ⊢
      exact r2.carry fr4
    refine hs' mu (cut H4 ow4) H4 y u e' f val Q cut_sub (VR.res S4 r2' e8) (VR.res S4 r4 e9) e10 fun v H' hv' => ?_
    obtain ⟨ow5, S5, fr5, v5⟩ := Fresh.sim S4 hv'
    exact k v H' ow5 S5 (((fr1.trans fr2).trans fr4).trans fr5) (v5.back fun p hp => ((fr1.trans fr2).trans fr4).none hp)
  · rw [if_neg Bool.false_ne_true]
    cases e7
    exact k _ H2 ow2 S2 (fr1.trans fr2) (.bl false)
theorem de_chain {op op' : CmpOp} {r r' : R2} {g g' : D → D → Option Val} {a b c : Expr} {pos : Pos} {fa fb fc : EM} (ho : OpR X (compareOp op) r) (hs : OpS X.K ct r g) (ho' : OpR X (compareOp op') r') (hs' : OpS X.K ct r' g') (ha : PE X a (tE X.K ct fa)) (hb : PE X b (tE X.K ct fb)) (hc : PE X c (tE X.K ct fc))
    (hm : lastMarks [op, op'] [b, c] = false := by with_unfolding_all rfl) : PE X (.Compare a [op, op'] [b, c] pos) (tE X.K ct (eChain g g' fa fb fc)) := (pe_chain ho ho' (de_fz ha) (de_fz hb) (de_fz hc) hm).imp (chain_imp hs hs')
def isStrD : D → Bool
  | .str _ => true
  | _ => false
def extM : MO → List D → Option (MO × D)
  | .lst l, [.lst m] => if l.length + m.length ≤ 16777216 then some (.lst (l ++ m), .non) else none
  | _, _ => none
end
end KD

set_option maxHeartbeats 4000000
namespace KD
open PySem PySem.Spec PyProof.Rows L2
section
variable {X : Cx} {ct : Nat → Addr} {Γ : Gam} {K : PySem.W.Frag}
def rIntU : List V → Hp → VK → Prop := fun xs H Q => ((∃ i, xs = [.int i] ∧ Q (.int i) H) ∨ ∃ k, xs = [.bl k] ∧ Q (.int (if k then 1 else 0)) H) ∨ ∃ x n, xs = [.str x] ∧ PySem.intText? x = some n ∧ x.length ≤ 640 ∧ Q (.int n) H
theorem call_intU : CallR X (.type "int") rIntU := by
  intro pins s σ H xs us Q I r h
  rcases h with h | ⟨x, n, rfl, hn, hl, q⟩
  · exact call_int1 pins s σ H xs us Q I r h
  · obtain ⟨u, rfl, t, rfl⟩ := vals1 r
    exact PySem.W.KIN.call_text hn hl ⟨.int n, H, I.tok _, ⟨_, rfl⟩, q⟩
def intD' : List D → Option Val
  | [.int i] => some (.d (.int i))
  | [.bl b] => some (.d (.int (if b then 1 else 0)))
  | [.str s] => if s.length ≤ 640 then (PySem.intText? s).map fun n => .d (.int n) else none
  | _ => none
theorem cs_intU : CallS K ct rIntU intD' := fun mu F H xs ds val Q sb r h k => by
  unfold intD' at h
  split at h
  · cases h
    obtain ⟨x, rfl, rx⟩ := pair1 r
    rw [rx.int]
    exact .inl (.inl ⟨_, rfl, k _ _ (.same (.int _))⟩)
  · cases h
    obtain ⟨x, rfl, rx⟩ := pair1 r
    rw [rx.bl]
    exact .inl (.inr ⟨_, rfl, k _ _ (.same (.int _))⟩)
  · split at h
    · rename_i s hl
      cases e : PySem.intText? s with
      | none => rw [e] at h; cases h
      | some n =>
        rw [e] at h
        cases h
        obtain ⟨x, rfl, rx⟩ := pair1 r
        obtain ⟨rfl, hs⟩ := rx.str
        exact .inr ⟨_, n, rfl, e, hl, k _ _ (.same (.int _))⟩
    · cases h
  · cases h
end
end KD

set_option maxHeartbeats 4000000
namespace KD
open PySem PySem.Spec PyProof.Rows L2
section
variable {X : Cx} {ct : Nat → Addr} {Γ : Gam}
end
end KD

set_option maxHeartbeats 4000000
namespace KD
open PySem PySem.Spec PyProof.Rows L2
section
variable {X : Cx} {ct : Nat → Addr} {Γ : Gam} {K : PySem.W.Frag}
end
end KD

set_option maxHeartbeats 4000000
namespace KD
open PySem L2
section
variable {prog : Program} {w : World} {A : Around} {E : Value → Shared → Prop} {s : Shared} {zp tI tO T j1 j2 : Addr} {fp1 fp2 : List Addr} {n1 n2 i : Nat} {P1 P2 : Nat → Value → Prop} {St1 St2 : Nat → Heap → Prop}
end
end KD

set_option maxHeartbeats 4000000
namespace KD
open PySem L2
def keyD : D → Option L2.Key
  | .int i => some (.inl i)
  | .str s => some (.inr s)
  | _ => none
def putD (ps : List (L2.Key × D)) (k : L2.Key) (d : D) : List (L2.Key × D) := if (ps.any fun q => decide (q.1 = k)) = true then ps.map (fun q => if q.1 = k then (q.1, d) else q) else ps ++ [(k, d)]
def valD (ps : List (L2.Key × D)) (k : L2.Key) : Option D := (ps.find? fun q => decide (q.1 = k)).map (·.2)
def dctM (ps : List (L2.Key × D)) : MO := .dct (ps.map (·.1)) (ps.map (·.2))
abbrev KR (Γ : Gam) (F : Hp) : List (L2.Key × V) → List (L2.Key × D) → Prop := Paired fun a b => a.1 = b.1 ∧ Rp Γ F a.2 b.2
section
variable {Γ : Gam} {F F' : Hp}
theorem KR.mono (s : Sub F F') : ∀ {a : List (L2.Key × V)} {b : List (L2.Key × D)}, KR Γ F a b → KR Γ F' a b
  | [], [], .nil => .nil
  | _ :: _, _ :: _, .cons h t => .cons ⟨h.1, h.2.mono s⟩ (KR.mono s t)
theorem KR.any (k : L2.Key) : ∀ {a : List (L2.Key × V)} {b : List (L2.Key × D)}, KR Γ F a b → (a.any fun q => decide (q.1 = k)) = b.any fun q => decide (q.1 = k)
  | [], [], .nil => rfl
  | _ :: _, _ :: _, .cons h t => by
    rw [List.any_cons, List.any_cons, h.1, KR.any k t]
theorem KR.repl (k : L2.Key) {y : V} {d : D} (r : Rp Γ F y d) : ∀ {a : List (L2.Key × V)} {b : List (L2.Key × D)}, KR Γ F a b → KR Γ F (a.map fun q => if q.1 = k then (q.1, y) else q) (b.map fun q => if q.1 = k then (q.1, d) else q)
  | [], [], .nil => .nil
  | (a1, a2) :: _, (b1, b2) :: _, .cons h t => by
    obtain ⟨h1, h2⟩ := h
    have h1' : a1 = b1 := h1
    subst h1'
    rw [List.map_cons, List.map_cons]
    by_cases e : a1 = k
    · rw [if_pos e, if_pos e]; exact .cons ⟨rfl, r⟩ (KR.repl k r t)
    · rw [if_neg e, if_neg e]; exact .cons ⟨rfl, h2⟩ (KR.repl k r t)
theorem KR.snoc {a1 : L2.Key × V} {b1 : L2.Key × D} (r : a1.1 = b1.1 ∧ Rp Γ F a1.2 b1.2) : ∀ {a : List (L2.Key × V)} {b : List (L2.Key × D)}, KR Γ F a b → KR Γ F (a ++ [a1]) (b ++ [b1])
  | [], [], .nil => .cons r .nil
  | _ :: _, _ :: _, .cons h t => .cons h (KR.snoc r t)
theorem KR.put {a : List (L2.Key × V)} {b : List (L2.Key × D)} (h : KR Γ F a b) (k : L2.Key) {y : V} {d : D} (r : Rp Γ F y d) : KR Γ F (putK a k y) (putD b k d) := by
  unfold putK putD
  rw [h.any k]
  split
  · exact h.repl k r
  · exact h.snoc ⟨rfl, r⟩
theorem KR.val (k : L2.Key) : ∀ {a : List (L2.Key × V)} {b : List (L2.Key × D)}, KR Γ F a b → (valV a k = none ∧ valD b k = none) ∨ ∃ y d, valV a k = some y ∧ valD b k = some d ∧ Rp Γ F y d
  | [], [], .nil => .inl ⟨rfl, rfl⟩
  | (a1, a2) :: ra, (b1, b2) :: rb, .cons h t => by
    obtain ⟨h1, h2⟩ := h
    have h1' : a1 = b1 := h1
    subst h1'
    by_cases e : a1 = k
    · exact .inr ⟨a2, b2, valV_pos e, by unfold valD; rw [List.find?_cons, decide_eq_true e]; rfl, h2⟩
    · rcases KR.val k t with ⟨q1, q2⟩ | ⟨y, d, q1, q2, q3⟩
      · exact .inl ⟨by rw [valV_neg e]; exact q1, by unfold valD; rw [List.find?_cons, decide_eq_false e]; exact q2⟩
      · exact .inr ⟨y, d, by rw [valV_neg e]; exact q1, by unfold valD; rw [List.find?_cons, decide_eq_false e]; exact q2, q3⟩
theorem KR.len : ∀ {a : List (L2.Key × V)} {b : List (L2.Key × D)}, KR Γ F a b → a.length = b.length
  | [], [], .nil => rfl
  | _ :: _, _ :: _, .cons _ t => by rw [List.length_cons, List.length_cons, KR.len t]
theorem KR.split : ∀ {a : List (L2.Key × V)} {b : List (L2.Key × D)}, KR Γ F a b → a = (b.map (·.1)).zip (a.map (·.2)) ∧ RpAll Γ F (a.map (·.2)) (b.map (·.2)) ∧ (a.map (·.2)).length = (b.map (·.1)).length
  | [], [], .nil => ⟨rfl, .nil, rfl⟩
  | (a1, a2) :: ra, (b1, b2) :: rb, .cons h t => by
    obtain ⟨h1, h2⟩ := h
    obtain ⟨q1, q2, q3⟩ := KR.split t
    have h1' : a1 = b1 := h1
    subst h1'
    refine ⟨?_, .cons h2 q2, by simpa using q3⟩
    show (a1, a2) :: ra = (a1, a2) :: (rb.map (·.1)).zip (ra.map (·.2))
    exact congrArg _ q1
theorem KR.of : ∀ {ks : List L2.Key} {vs : List V} {ds : List D}, vs.length = ks.length → RpAll Γ F vs ds → KR Γ F (ks.zip vs) (ks.zip ds)
  | [], [], [], _, .nil => .nil
  | _ :: _, _ :: _, _ :: _, hl, .cons h t => .cons ⟨rfl, h⟩ (KR.of (by simpa using hl) t)
  | [], _ :: _, _, hl, _ => by simp at hl
  | _ :: _, [], _, hl, _ => by simp at hl
end
section
variable {X : Cx} {pins : List (Addr × Obj)} {σ : L2.St} {H : Hp} {s : Shared} {K : PySem.W.Frag} {ct : Nat → Addr}
end
end KD

set_option maxHeartbeats 4000000
namespace KD
open PySem PySem.Spec PyProof.Rows L2
section
variable {X : Cx} {ct : Nat → Addr} {Γ : Gam} {K : PySem.W.Frag}
theorem RpO.dct {F H : Hp} {v : V} {ks : List L2.Key} {l : List D} (h : RpO Γ F H v (.dct ks l)) (sb : Sub F H) : ∃ a vs, v = .ref a ∧ H a = some (.dK (ks.zip vs)) ∧ KR Γ F (ks.zip vs) (ks.zip l) ∧ vs.length = ks.length ∧ RpAll Γ F vs l := by
  rcases h with h | ⟨p, m, rfl, h, e⟩
  · cases h with
    | dct h1 h2 h3 => exact ⟨_, _, rfl, sb _ _ h1, KR.of h2 h3, h2, h3⟩
  · cases m with
    | dct ks' l' => 
      cases e
      obtain ⟨vs, h1, h2, h3⟩ := h
      exact ⟨p, vs, rfl, h1, KR.of h2 h3, h2, h3⟩
    | lst _ => cases e
    | ins _ _ _ => cases e
    | tab _ _ => cases e
theorem RpO.dcl {F H : Hp} {v : V} {ks : List L2.Key} {l : List D} (h : RpO Γ F H v (.dcl ks l)) (sb : Sub F H) : ∃ a o vs, v = .ref a ∧ H a = some (.frz o (.dK (ks.zip vs))) ∧ KR Γ F (ks.zip vs) (ks.zip l) ∧ vs.length = ks.length ∧ RpAll Γ F vs l := by
  rcases h with h | ⟨p, m, rfl, h, e⟩
  · cases h with
    | dcl h1 h2 h3 => exact ⟨_, _, _, rfl, sb _ _ h1, KR.of h2 h3, h2, h3⟩
  · cases m <;> cases e
end
end KD

set_option maxHeartbeats 4000000
namespace PySem.AutoSeq1
open PySem PySem.Spec PyProof PyProof.Rows
end PySem.AutoSeq1
namespace L2
open PySem PySem.Spec PySem.Calls PyProof PyProof.Rows
section
variable {X : Cx}
end
end L2
namespace KD
open PySem PySem.Spec PyProof.Rows L2
section
variable {X : Cx} {K : PySem.W.Frag} {ct : Nat → Addr}
def extUM : MO → List D → Option (MO × D)
  | .lst l, [.lst m] => if l.length + m.length ≤ 16777216 then some (.lst (l ++ m), .non) else none
  | .lst l, [.tup m] => if l.length + m.length ≤ 16777216 then some (.lst (l ++ m), .non) else none
  | _, _ => none
end
end KD

set_option maxHeartbeats 4000000
namespace KD
open PySem PySem.Spec PyProof.Rows L2
section
variable {X : Cx} {ct : Nat → Addr} {Γ : Gam} {K : PySem.W.Frag}
def iadd2 : D → D → Option D
  | .int i, .int j => some (.int (i + j))
  | .str a, .str b => if a.length + b.length ≤ 16777216 then some (.str (a ++ b)) else none
  | _, _ => none
end
end KD

set_option maxHeartbeats 4000000
namespace KD
open PySem PySem.Spec PyProof.Rows L2
section
variable {X : Cx} {ct : Nat → Addr} {Γ : Gam} {K : PySem.W.Frag}
def rRepr2 (K : PySem.W.Frag) : List V → Hp → VK → Prop := fun xs H Q => rRepr K xs H Q ∨ (∃ s, xs = [.str s] ∧ (reprText s).length ≤ sizeLine ∧ Q (.str (reprText s)) H) ∨
  (∃ b, xs = [.bl b] ∧ Q (.str (if b then "True" else "False")) H) ∨ (xs = [.non] ∧ Q (.str "None") H)
theorem call_repr2U (hg : X.A.guards = some []) (hu : X.A.units + 80 < cLine) : CallR X (.builtin "repr") (rRepr2 X.K) := by
  intro pins s σ H xs us Q I r h
  rcases h with h | ⟨a, rfl, hz, q⟩ | ⟨b, rfl, q⟩ | ⟨rfl, q⟩
  · exact call_reprU hg hu pins s σ H xs us Q I r h
  · obtain ⟨u, rfl, t, rfl⟩ := vals1 r
    exact PySem.P.repr_of_str ⟨.str _, H, I.tok _, ⟨_, rfl⟩, q⟩ hz
  · obtain ⟨u, rfl, ru⟩ := vals1 r
    cases ru
    exact PySem.P.repr_of_bool ⟨.str _, H, I.tok _, ⟨_, rfl⟩, q⟩
  · obtain ⟨u, rfl, ru⟩ := vals1 r
    cases ru
    exact PySem.P.repr_of_none ⟨.str _, H, I.tok _, ⟨_, rfl⟩, q⟩
def repr2D : List D → Option Val
  | [.str s] => if okR (.str s) = true then some (.d (.str (toPy (.str s)).shown)) else none
  | [.bl b] => some (.d (.str (if b then "True" else "False")))
  | [.non] => some (.d (.str "None"))
  | l => reprD l
theorem cs_repr2 : CallS K ct (rRepr2 K) repr2D := fun mu F H xs ds val Q sb r h k => by
  unfold repr2D at h
  split at h
  · rename_i s
    split at h
    · rename_i hz
      cases h
      obtain ⟨x, rfl, rx⟩ := pair1 r
      obtain ⟨rfl, h2⟩ := rx.str
      have hs : sOk (toPy (.str s)).shown = true := by unfold okR at hz; rw [Bool.and_eq_true] at hz; exact hz.2
      exact .inr (.inl ⟨s, rfl, sOk_len' hs, k _ _ (.same (.str _ hs))⟩)
    · cases h
  · rename_i b
    cases h
    obtain ⟨x, rfl, rx⟩ := pair1 r
    have : x = .bl b := by
      have q := rx.up sb
      cases q; rfl
    subst this
    exact .inr (.inr (.inl ⟨b, rfl, k _ _ (.same (.str _ (by cases b <;> decide +kernel)))⟩))
  · cases h
    obtain ⟨x, rfl, rx⟩ := pair1 r
    have : x = .non := by
      have q := rx.up sb
      cases q; rfl
    subst this
    exact .inr (.inr (.inr ⟨rfl, k _ _ (.same (.str _ (by decide +kernel)))⟩))
  · exact .inl (cs_repr mu F H xs ds val Q sb r h k)
end
end KD

set_option maxHeartbeats 4000000
namespace KD
open PySem PySem.Spec PyProof.Rows L2
section
variable {X : Cx} {ct : Nat → Addr} {Γ : Gam} {K : PySem.W.Frag}
end
end KD

set_option maxHeartbeats 4000000
namespace KD
open PySem PySem.Spec PyProof.Rows L2
section
variable {X : Cx} {ct : Nat → Addr} {Γ : Gam} {K : PySem.W.Frag} {W : WX}
end
end KD

set_option maxHeartbeats 4000000
namespace KD
open PySem PySem.Spec PyProof.Rows L2
section
variable {X : Cx} {ct : Nat → Addr} {Γ : Gam} {K : PySem.W.Frag}
end
end KD

set_option maxHeartbeats 4000000
namespace KD
open PySem PySem.Spec PyProof.Rows L2
section
variable {X : Cx} {ct : Nat → Addr} {Γ : Gam} {K : PySem.W.Frag} {W : WX}
def eDnew : EM := fun ε => some (.new (.dct [] []), ε)
theorem de_dnew {pos : Pos} : PE X (.Dict [] [] pos) (tE X.K ct eDnew) := pe_dnewK.imp fun σ H Q ⟨mu, ow, ε, val, ε', S, hf, k⟩ => by
  cases hf
  intro p hp
  obtain ⟨ow3, S3, fr3, v3⟩ := Fresh.sim S (.dct (ks := []) (vs := []) (ds := []) hp rfl .nil)
  exact k _ _ ow3 S3 fr3 v3
def eDisp1 (fk fv : EM) : EM := fun ε => (escE fk ε).bind fun k => (keyD k.1).bind fun key => (escE fv k.2).map fun y => (.new (.dct [key] [y.1]), y.2)
def putR (d : D) (v : Val) (ε : SE) : Option MO → Option L2.Key → Option Out
  | some (.dct ks l), some key => if ks.length < 16777216 then some (.nx (put ε (dctM (putD (ks.zip l) key d)) v)) else none
  | _, _ => none
def sDput (fo fi fe : EM) : SM := fun ε => (escE fe ε).bind fun re => (fzE fo re.2).bind fun ro => (fzE fi ro.2).bind fun ri => putR re.1 ro.1 ri.2 (tgt ri.2 ro.1) ((ri.1.res ri.2).bind keyD)
def isDct : D → Bool
  | .dct _ _ => true
  | _ => false
def dgetO : D → D → Option (Option D)
  | .dct ks l, i => (keyD i).map fun k => valD (ks.zip l) k
  | _, _ => none
def eDget2 (fo fk fx : EM) : EM := fun ε => (fzE fo ε).bind fun ro => (ro.1.res ro.2).bind fun d0 => if isDct d0 = true then (fzE fk ro.2).bind fun rk => (escE fx rk.2).bind fun rx => (ro.1.res rx.2).bind fun d => (rk.1.res rx.2).bind fun i => (dgetO d i).map fun o => (.d (o.getD rx.1), rx.2) else none
end
end KD

set_option maxHeartbeats 4000000
namespace KD
open PySem PySem.Spec PyProof.Rows L2
section
variable {X : Cx} {ct : Nat → Addr} {Γ : Gam}
theorem SE.ext {a b : SE} (h1 : a.sl = b.sl) (h2 : a.M = b.M) : a = b := by cases a; cases b; simp only [SE.mk.injEq]; exact ⟨h1, h2⟩
end
end KD

set_option maxHeartbeats 4000000
namespace KD
open PySem PySem.Spec PyProof.Rows L2
section
variable {X : Cx} {ct : Nat → Addr} {Γ : Gam} {K : PySem.W.Frag} {W : WX}
end
end KD

set_option maxHeartbeats 4000000
namespace KD
open PySem PySem.Spec PyProof.Rows L2
section
variable {X : Cx} {ct : Nat → Addr} {Γ : Gam} {K : PySem.W.Frag}
end
end KD

set_option maxHeartbeats 4000000
namespace KD
open PySem PySem.Spec PyProof.Rows L2
section
variable {prog : Program} {w : World} {A : Around} {E : Value → Shared → Prop} {s : Shared}
end
section
variable {X : Cx} {ct : Nat → Addr} {Γ : Gam} {K : PySem.W.Frag} {e st : Expr} {te : TE} {ts : TO} {pos p2 : Pos}
theorem RpAll.reverse {F : Hp} : ∀ {vs : List V} {ds : List D}, RpAll Γ F vs ds → RpAll Γ F vs.reverse ds.reverse := by
  intro vs
  induction vs with
  | nil => intro ds r; cases r; exact .nil
  | cons v vs ih =>
    intro ds r
    cases r with
    | cons r1 r2 =>
      rw [List.reverse_cons, List.reverse_cons]
      exact (ih r2).append (.cons r1 .nil)
def revD (d : D) : Option Val := match d with
  | .lst l => some (.new (.lst l.reverse))
  | .tup l => some (.d (.tup l.reverse))
  | .scr l => some (.new (.lst (l.map D.int).reverse))
  | _ => none
def eRev (fe : EM) (fs : OM) : EM := fun ε => (fzE fe ε).bind fun r => (fs r.2).bind fun l => (r.1.res l.2).bind fun d => if l.1 = some (-1) then (revD d).map fun v => (v, l.2) else none
end
end KD

set_option maxHeartbeats 4000000
namespace KD
open PySem PySem.Spec PyProof.Rows L2
section
variable {X : Cx} {ct : Nat → Addr} {Γ : Gam} {K : PySem.W.Frag}
end
end KD

set_option maxHeartbeats 4000000
namespace KD
open PySem PySem.Spec PyProof.Rows L2
section
variable {X : Cx} {ct : Nat → Addr} {Γ : Gam} {K : PySem.W.Frag}
end
end KD

set_option maxHeartbeats 4000000
namespace KD
open PySem PySem.Spec PyProof.Rows L2
section
variable {X : Cx} {CX : CXT} {k : Nat} {f C : Addr} {fd : FuncData} {ps : List Str} {sp : Sp} {E : XK}
end
end KD

set_option maxHeartbeats 4000000
namespace GQ
open PySem PySem.SeqAt PySem.Calls PyProof.Rows
open AutoSeq1 (wpAny_loadPart')
open MeetsSeq MeetsSeq2 MeetsSeq3 SeqRoads2
section
variable {prog : Program} {w : World} {A : Around} {E : Value → Shared → Prop} {s : Shared} {K : PySem.W.Frag} {x C L f : Addr} {h₀ : Heap} {m : PySem.Str → Option Value} {ox : Obj} {od : Option Obj} {b tb : Value}
end
section
variable {prog : Program} {w : World} {A : Around} {R : Result → Shared → Prop}
end
section
variable {prog : Program} {w : World} {A : Around} {E : Value → Shared → Prop} {s : Shared}
end
end GQ

set_option maxHeartbeats 4000000
namespace KD
open PySem PySem.Spec PyProof.Rows L2
section
variable {X : Cx} {CX : CXT} {ct : Nat → Addr} {Γ : Gam} {k n c : Nat} {f : Addr} {fd : FuncData} {ps : List Str} {fm : FM} {E : XK}
def ownV (c : Nat) (f : FM) (p : Val → Bool) (o : SE → List D → Bool) : List D × SE → Option (Val × SE)
  | (d :: rest, ε) => match insD ε d with
    | some (c', _, _) => if c' = c ∧ o ε rest = true then (f (d :: rest) ε.M).bind fun r => if r.2.length = ε.M.length ∧ p r.1 = true then some (r.1, { ε with M := r.2 }) else none else none
    | none => none
  | ([], _) => none
def eOwn (c : Nat) (f : FM) (p : Val → Bool) (o : SE → List D → Bool) (fa : AM) : EM := fun ε => (fa ε).bind fun r => (escL r.2 r.1).bind fun q => ownV c f p o q
theorem FnS.mono {K : PySem.W.Frag} {vs : List V} {H : Hp} {Q Q' : VK} {E' : XK} (h : FnS K ct n fm vs H Q E) (q : ∀ v H', Q v H' → Q' v H') : FnS K ct n fm vs H Q' E' :=
  let ⟨l, mu, ow, ds, M, r, h1, h2, h3, h4, h5⟩ := h
  ⟨l, mu, ow, ds, M, r, h1, h2, h3, h4, fun v H' ow' m fr vr => q v H' (h5 v H' ow' m fr vr)⟩
def strOk : Val → Bool
  | .d (.str _) => true
  | _ => false
def blOk : Val → Bool
  | .d (.bl _) => true
  | _ => false
def anyO : SE → List D → Bool := fun _ l => l.isEmpty
def othD (c : Nat) (ε : SE) : D → Bool
  | .str _ => true
  | .lst _ => true
  | .tup _ => true
  | d => match insD ε d with | some (c', _, _) => c' == c | none => false
def othO (c : Nat) (ε : SE) : List D → Bool
  | [d] => othD c ε d
  | _ => false
section
variable (F : FnOk X.prog X.w X.K X.mg X.base CX k f fd ps (FnS X.K ct n fm))
include F
end
end
end KD

set_option maxHeartbeats 4000000
namespace KD
open PySem PySem.Spec PyProof.Rows L2
section
variable {X : Cx} {CX : CXT} {ct : Nat → Addr} {Γ : Gam} {k n c : Nat} {f : Addr} {fd : FuncData} {ps : List Str} {fm : FM} {E : XK}
def nutE (g : EM) : EM := fun ε => (g ε).bind fun r => match r.1 with | .d (.bl b) => some (.d (.bl (!b)), r.2) | _ => none
section
variable (F : FnOk X.prog X.w X.K X.mg X.base CX k f fd ps (FnS X.K ct n fm))
include F
end
section
variable (F : FnOk X.prog X.w X.K X.mg X.base CX k f fd ps (FnS X.K ct n fm))
include F
end
def eqT (f : FM) (d e : D) : Bool := match f [d, e] [] with
  | some (.d (.bl true), []) => true
  | _ => false
def isInsD (c : Nat) : D → Bool
  | .ins c' _ _ => c' == c
  | _ => false
def pairT (c : Nat) (f : FM) : List D → List D → Bool
  | [], [] => true
  | d :: l, e :: m => isInsD c d && isInsD c e && eqT f d e && pairT c f l m
  | _, _ => false
def neLO (c : Nat) (f : FM) (d e : D) : Option Val := match d, e with
  | .lst l, .lst m => if pairT c f l m = true then some (.d (.bl false)) else none
  | _, _ => none
end
end KD

set_option maxHeartbeats 4000000
namespace KD
open PySem PySem.Spec PyProof.Rows L2
section
variable {X : Cx} {CX : CXT} {ct : Nat → Addr} {Γ : Gam} {K : PySem.W.Frag}
def consCls (c : Nat) (fa : AM) : AM := fun ε => (fa ε).map fun r => (.d (.cls c) :: r.1, r.2)
def clsAt (ε : SE) (i : Nat) : Option Nat := match ε.sl[i]? with
  | some (.d (.cls c)) => some c
  | _ => none
def eMakeL (i c : Nat) (f : FM) (dd : List D) (fa : AM) : EM := fun ε => if clsAt ε i = some c then eMake c f dd fa ε else none
end
end KD

set_option maxHeartbeats 4000000
namespace KD
open PySem PySem.Spec PyProof.Rows L2
open He in
structure SaysY (fa : List Fa) (fn : List DefD) (ts : List Tab) (tf : List Defn) (da : List He5.DefA) (ex : PySem.W.Frag → Bool) (w : World) (h : Heap) (K : PySem.W.Frag) : Prop where
  x : SaysX fa fn ts tf ex w h K
  da : ∀ d ∈ da, ∃ fd, FunD K d.name d.qual d.params d.body d.scope (d.dvs K) (d.kws K) (d.at_ K) fd
theorem SaysY.t {fa : List He.Fa} {fn : List He.DefD} {ts : List He.Tab} {tf : List He.Defn} {da : List He5.DefA} {ex : PySem.W.Frag → Bool} {w : World} {h : Heap} {K : PySem.W.Frag} (c : SaysY fa fn ts tf da ex w h K) : He.SaysT fa fn ts w K := c.x.t
theorem SaysY.more {fa : List He.Fa} {fn : List He.DefD} {ts : List He.Tab} {tf : List He.Defn} {da : List He5.DefA} {ex : PySem.W.Frag → Bool} {w : World} {h : Heap} {K : PySem.W.Frag} (c : SaysY fa fn ts tf da ex w h K) : ex K = true := c.x.more
section
open He
abbrev AlY : Type := AlX × AlD
def valY (fn : List DefD) (ts : List Tab) (da : List He5.DefA) (w : World) : AlY := ((valT fn ts w, true), (true, da.map He5.DefA.val))
end
end KD
namespace KD
open PySem L2
end KD

set_option maxHeartbeats 4000000
namespace KD
open PySem PySem.Spec PyProof.Rows L2
section
variable {X : Cx} {CX : CXT} {ct : Nat → Addr} {Γ : Gam} {K : PySem.W.Frag}
theorem VRs.pick {ow : OwF} {σ : L2.St} {H H0 : Hp} {vs : List V} {as : List Val} (r : VRs Γ ow H0 σ H vs as) : ∀ is : List Nat, VRs Γ ow H0 σ H (KD.pick is vs) (KD.pick is as)
  | [] => trivial
  | i :: is => by
    have at_ : ∀ {vs : List V} {as : List Val} (i : Nat), VRs Γ ow H0 σ H vs as → (vs[i]? = none ∧ as[i]? = none) ∨ ∃ v a, vs[i]? = some v ∧ as[i]? = some a ∧ VR Γ ow H0 σ H v (fzv a) := by
      intro vs
      induction vs with
      | nil => intro as i h; cases as with
        | nil => exact .inl ⟨rfl, rfl⟩
        | cons _ _ => exact h.elim
      | cons v vs ih => intro as i h; cases as with
        | nil => exact h.elim
        | cons a as => cases i with
          | zero => exact .inr ⟨v, a, rfl, rfl, h.1⟩
          | succ i => simpa using ih i h.2
    unfold KD.pick
    rcases at_ i r with ⟨q1, q2⟩ | ⟨v, u, q1, q2, q3⟩
    · rw [List.filterMap_cons_none q1, List.filterMap_cons_none q2]
      exact VRs.pick r is
    · rw [List.filterMap_cons_some q1, List.filterMap_cons_some q2]
      exact ⟨q3, VRs.pick r is⟩
section
variable {k n c m : Nat} {f : Addr} {fd : FuncData} {ps ks : List Str} {fm : FM} {E : XK} {x nm : Str} {p pos apos : Pos} {kws : List Keyword} {fk : AM} {is : List Nat}
end
end
end KD
namespace KD
open PySem PySem.Spec PyProof.Rows L2
end KD
namespace KD
open PySem PySem.Spec PyProof.Rows L2
end KD

set_option maxHeartbeats 4000000
namespace GQ
open PySem PySem.SeqAt PySem.Calls PyProof.Rows
section
variable {prog : Program} {w : World} {A : Around} {E : Value → Shared → Prop} {s : Shared}
end
end GQ
namespace KD
open PySem PySem.Spec PyProof.Rows L2
section
variable {X : Cx} {ct : Nat → Addr} {K : PySem.W.Frag}
def gT2 (gs : GsM) : GM := fun d ε => match d with
  | .str z => if z.cps.size = 2 then gs (z.cps.toList.map chD) ε else none
  | d => gT 2 gs d ε
end
end KD

set_option maxHeartbeats 4000000
namespace GQ
open PySem PySem.SeqAt PySem.Calls PyProof.Rows PySem.W
section
variable {prog : Program} {w : World} {A : Around} {E : Value → Shared → Prop} {s : Shared} {K : Frag} {x C L f : Addr} {h₀ : Heap} {m : PySem.Str → Option Value} {ox : Obj} {od : Option Obj}
end
end GQ
namespace KD
open PySem PySem.Spec PyProof.Rows L2
section
variable {X : Cx} {CX : CXT} {ct : Nat → Addr} {k n c : Nat} {f C : Addr} {fd : FuncData} {ps : List Str} {sp : Sp} {fm : FM} {E : XK}
def eB0 (g : EM) : EM := fun ε => (g ε).bind fun r => match r.1 with | .d (.int i) => some (.d (.bl (i != 0)), r.2) | _ => none
end
end KD

set_option maxHeartbeats 4000000
namespace KD
open PySem PySem.Spec PyProof.Rows L2
section
variable {X : Cx} {ct : Nat → Addr} {Γ : Gam}
section
variable {F F' : Hp} {p : Addr} {us : List V} (mn : ∀ a u, a ≠ p → F a = some u → F' a = some u) (mp : ∀ u, F p = some u → u = .lst us)
include mn mp
end
end
end KD

set_option maxHeartbeats 4000000
namespace KD
open PySem PySem.Spec PyProof.Rows L2
section
variable {X : Cx} {ct : Nat → Addr} {Γ : Gam}
end
end KD

set_option maxHeartbeats 4000000
namespace KD
open PySem PySem.Spec PyProof.Rows L2
section
variable {X : Cx} {ct : Nat → Addr} {Γ : Gam}
end
end KD

set_option maxHeartbeats 4000000
namespace KD
open PySem PySem.Spec PyProof.Rows L2
section
variable {X : Cx} {ct : Nat → Addr} {Γ : Gam}
end
end KD

set_option maxHeartbeats 4000000
namespace KD
open PySem PySem.Spec PyProof.Rows L2
def upTo (tl : List Value) : List Value → Bool
  | .ref _ :: r => upTo tl r
  | l => l == tl
theorem upTo_or (tl : List Value) : ∀ l : List Value, upTo tl l = true → (∃ c r, l = .ref c :: r ∧ upTo tl r = true) ∨ l = tl := by
  intro l h
  cases l with
  | nil => exact .inr (beq_iff_eq.mp h)
  | cons x r =>
    cases x with
    | ref c => exact .inl ⟨c, r, rfl, h⟩
    | _ => exact .inr (beq_iff_eq.mp h)
structure BaseX (tl : List Value) (B nw it : String) : Prop where
  eb : ExcBaseFacts B nw it tl
  st : StoreFacts B tl "object.__setattr__" "object"
  ob : tl.contains (.type "object") = true
theorem upTo_pass {tl : List Value} {B nw it : String} (F : BaseX tl B nw it) (self : Value) : ∀ l : List Value, upTo tl l = true → refuseLoop self "__setattr__" l = pure ()
  | [], h => by
    rcases upTo_or tl [] h with ⟨_, _, e, _⟩ | e
    · cases e
    · rw [e]; exact F.st.passes self
  | x :: r, h => by
    rcases upTo_or tl (x :: r) h with ⟨c, r', e, h'⟩ | e
    · cases e
      exact (refuseLoop_ref ..).trans (upTo_pass F self r h')
    · rw [e]; exact F.st.passes self
theorem upTo_has {tl : List Value} (Y : String) : ∀ l : List Value, upTo tl l = true → l.contains (.type Y) = tl.contains (.type Y)
  | [], h => by
    rcases upTo_or tl [] h with ⟨_, _, e, _⟩ | e
    · cases e
    · rw [e]
  | x :: r, h => by
    rcases upTo_or tl (x :: r) h with ⟨c, r', e, h'⟩ | e
    · cases e
      rw [List.contains_cons, upTo_has Y r h']; rfl
    · rw [e]
theorem base_VE : BaseX [.type "ValueError", .type "Exception", .type "BaseException", .type "object"] "ValueError" "ValueError.__new__" "ValueError.__init__" := ⟨F.excBase_ValueError, F.store_ValueError, by decide +kernel⟩
theorem base_LE : BaseX [.type "LookupError", .type "Exception", .type "BaseException", .type "object"] "LookupError" "LookupError.__new__" "LookupError.__init__" := ⟨F.excBase_LookupError, F.store_LookupError, by decide +kernel⟩
theorem base_AE : BaseX [.type "ArithmeticError", .type "Exception", .type "BaseException", .type "object"] "ArithmeticError" "ArithmeticError.__new__" "ArithmeticError.__init__" := ⟨F.excBase_ArithmeticError, F.store_ArithmeticError, by decide +kernel⟩
end KD

set_option maxHeartbeats 4000000
namespace KD
open PySem PySem.Spec PyProof.Rows L2
section
open Builtin Builtin.ObjectAttr
variable {pr : Program} {w : World} {A : Around} {E : Value → Shared → Prop} {R : Result → Shared → Prop} {hp : Heap} {g : Array GenState} {dr : Drawn} {tn : Nat} {os : OsState}
theorem osa1 {tl : List Value} {B nw it : String} (F : BaseX tl B nw it) {K : PySem.W.Frag} {f : Str} {tk : Tok} {y : Value} {x C : Addr} {fv : Array Value} {cd : ClassData} (KI : K.In hp) (hx : hp.get? x = some { cls := .ref C, data := .fields fv })
    (hc : PySem.W.clsIn K C = some cd) (hm : upTo tl cd.mro = true) (hd : cd.hasDict = true) (hf : PySem.W.findIn K (.ref C) f = some none)
    (k : ∀ h' tk' dx, (∀ b o, b ≠ x → hp.get? b = some o → h'.get? b = some o) → hp.objs.size ≤ dx → dx ≠ x → h'.get? x = some { cls := .ref C, dict := some dx, data := .fields fv } → h'.Ns1 dx (fun z => if z = f then some y else none) → R (.ok (.ret .none)) ⟨h', g, dr, tk', os⟩) :
    codeAny (model pr w) A (.call (.builtin "object.__setattr__") ⟨[.ref x, .str f tk, y], []⟩) R ⟨hp, g, dr, tn, os⟩ := by
  have J : PySem.W.InstAt hp x { cls := .ref C, data := .fields fv } C none := ⟨hx, rfl, rfl, trivial⟩
  have so := PySem.F.store_object
  have em : cd.mro.isEmpty = false := by
    cases e : cd.mro with
    | cons _ _ => rfl
    | nil => have z := upTo_has "object" _ hm; rw [e, F.ob] at z; cases z
  have sb : PySem.W.Looks (model pr w) hp (isInstance (.ref x) (.type "object")) true := J.type.andThen (PySem.W.looks_mroIn KI (by unfold PySem.W.mroIn; rw [hc, Option.bind_some, if_neg (by rw [em]; decide), upTo_has "object" _ hm, F.ob]))
  have lm : PySem.W.Looks (model pr w) hp (mroOf (.ref C)) cd.mro := (PySem.W.looks_clsIn KI hc).andThen .now
  have l3 : PySem.W.Looks (model pr w) hp (storeTaker? none) none := .now
  have lc : PySem.W.Looks (model pr w) hp (classData C) cd := PySem.W.looks_clsIn KI hc
  refine codeAny_call_builtin so.slot.plain so.entry (@PySem.W.check_slot (model pr w) _ _ ⟨hp, g, dr, tn, os⟩ "object.__setattr__" "object" "__setattr__" (.ref x) [.str f tk, y] [] _ so.kind so.split sb (so.args (.ref x) (.str f tk) y) ?_)
  rw [PySem.W.osa_eq, refuse_eq]
  refine wpAny_bind (wpAny_bind (J.type.at (wpAny_bind (lm.at ?_))))
  rw [upTo_pass F _ _ hm]
  refine wpAny_pure (wpAny_bind (J.type.at (wpAny_bind ((PySem.W.looks_findIn KI hf).at (wpAny_bind (l3.at ?_))))))
  show wpAny _ _ (storeInOwnDict (.ref x) (.ref C) (.str f tk) f y false) _ _ _
  have ne : x ≠ hp.objs.size := Nat.ne_of_lt (Heap.lt_size hx)
  obtain ⟨nm, bs, mro, ns, qn, hdd, sn, sbs, ab, col, del⟩ := cd
  cases (show hdd = true from hd)
  unfold storeInOwnDict ownDictForStores
  repeat (first | with_reducible refine PySem.HandSPX.store_in_new ?_ ?_ | with_reducible refine wpAny_loadPart_at hx ?_ | with_reducible refine lc.at ?_ | wp_step)
  · exact ⟨_, #[], _, (Heap.get?_update_ne _ _ _ _ ne.symm).trans (Heap.get?_push_at rfl rfl), rfl, fun e he => absurd he (by simp), fun _ => rfl⟩
  · intro h' tk' hn sm
    have hx1 : (hp.push { cls := .type "dict", data := .dict #[] }).get? x = some { cls := .ref C, data := .fields fv } := Heap.get?_push_of_some _ hx
    exact k h' tk' hp.objs.size (fun b o hb ho => (sm.2 b (Nat.ne_of_lt (Heap.lt_size ho))).trans ((Heap.get?_update_ne _ _ _ _ hb).trans (Heap.get?_push_of_some _ ho))) (Nat.le_refl _) ne.symm ((sm.2 x ne).trans (Heap.get?_update_self _ hx1 rfl)) hn
end
structure ExK (K : PySem.W.Frag) (C : Addr) (tl : List Value) (nw : String) : Prop where
  cls : ∃ nm q N bs bm sn sub ab col dd k0 k1 k2 k3 k5, K.lookup C = some (excClassObj nm q C N bs bm true sn sub ab col dd k0 k1 k2 k3 k5 nw) ∧ upTo tl bm = true
  sa : PySem.W.findIn K (.ref C) "__setattr__" = some (some (.builtin "object.__setattr__"))
  ex : PySem.W.subIn K (.ref C) (.type "BaseException") = some true
  ty : PySem.W.typeIn K (.ref C) = some (.type "type")
  kp : PySem.W.keepIn K (.ref C) = true
section
variable {X : Cx} {pins : List (Addr × Obj)} {σ : L2.St} {H : Hp} {s : Shared} {a C : Addr} {f : Str} {y : V} {u : Value} {E : Value → Shared → Prop} {A : Around} {tl : List Value} {B nw it : String}
theorem put_new {Q : Unit → Shared → Prop} (F : BaseX tl B nw it) (T : ExK X.K C tl nw) (I : L2.Inv X pins σ H s) (e : H a = some (exo a C none)) (hf : PySem.W.findIn X.K (.ref C) f = some none) (ry : L2.RelV y u)
    (k : ∀ dx s', H dx = none → dx ≠ a → L2.Inv X pins σ (upd (upd H dx (exd dx [(f, y)])) a (exo a C (some dx))) s' → Q () s') : wpAny (model X.prog X.w) A (setAttr (.ref a) f u) Q E s := by
  obtain ⟨nm, q, N, bs, bm, sn, sub, ab, col, dd, k0, k1, k2, k3, k5, hC, hb⟩ := T.cls
  have hcl : PySem.W.clsIn X.K C = some { name := nm, bases := bs, mro := .ref C :: bm, ns := N, qualname := q, hasDict := true, slotNames := sn, subclasses := sub, abstract := ab, collection := col, hasDel := false } := by unfold PySem.W.clsIn; rw [hC]
  obtain ⟨t1, ho⟩ := exo_at I.hok e
  obtain ⟨hp, g, dr, tn, os⟩ := s
  refine PySem.W.set_plain I.kIn (ox := { cls := .ref C, dict := none, data := .fields #[.ref t1, .none, .none, .none, .bool false, .none] }) (od := none) ⟨ho, rfl, rfl, trivial⟩ T.sa ?_
  refine osa1 F I.kIn ho hcl (show upTo tl (.ref C :: bm) = true from hb) rfl hf fun h' tk' dx kp le ne hx hn => ?_
  have fd : H dx = none := I.hok.fresh le
  have n1 : ∀ {b : Addr} {o : Obj}, hp.get? b = some o → b ≠ dx := fun {b o} z => Nat.ne_of_lt (Nat.lt_of_lt_of_le (Heap.lt_size z) le)
  have n2 : ∀ {b : Addr}, H b = none → b ≠ a := fun {b} n z => by subst z; rw [n] at e; cases e
  have stay : ∀ {b : Addr} {o : HO}, H b = some o → exo a C none ≠ o → upd (upd H dx (exd dx [(f, y)])) a (exo a C (some dx)) b = some o := fun {b o} z d => by
    rw [upd_ne (at_ne e z d), upd_ne (ne_of_none z fd)]; exact z
  have hu : Un X.fs [] H (upd (upd H dx (exd dx [(f, y)])) a (exo a C (some dx))) hp h' := by
    refine ⟨fun b o z n _ _ => kp b o (n2 n) z, fun b o z n _ _ => ⟨o.slots, kp b o (n2 n) z⟩, fun b o z n _ => ?_, fun b o z _ => ?_, fun b xs z => stay z exo_tup, fun b o v z => stay z exo_frz, fun b ps z => ⟨#[], ?_⟩⟩
    · exact (upd_ne (n2 n)).trans ((upd_ne (n1 z)).trans n)
    · rcases Decidable.em (b = a) with rfl | hb
      · exact ⟨_, hx⟩
      · exact ⟨o, kp b o hb z⟩
    · rw [stay z exo_tbl]; simp
  refine k dx _ fd ne (I.un (t' := tk') hu fun b o z => ?_)
  rcases Decidable.em (b = a) with rfl | hb
  · rw [upd_same] at z; cases z; exact exo_ok hx
  · rw [upd_ne hb] at z
    rcases Decidable.em (b = dx) with rfl | hd
    · rw [upd_same] at z; cases z; exact exd_ok hn (relO_put (fs := []) ry fun g => True.intro)
    · rw [upd_ne hd] at z
      exact (I.hok b o z).stay (fun c v hc z2 => kp c v (hc.elim (fun e1 => by rw [e1]; exact hb) fun e1 => at_ne e e1 exo_own) z2) (fun c hc => stay hc exo_own) fun c xs hc => stay hc exo_tup
def spI (C : Addr) (f : Str) : Sp := fun vs H Q _ => ∃ a y, vs = [.ref a, y] ∧ H a = some (exo a C none) ∧ ∀ dx, H dx = none → dx ≠ a → Q .non (upd (upd H dx (exd dx [(f, y)])) a (exo a C (some dx)))
def tPut (to te : TE) (C : Addr) (f : Str) : TS := fun D σ H => te σ H fun y H1 => to σ H1 fun x H2 => ∃ a : Addr, x = .ref a ∧ H2 a = some (exo a C none) ∧ ∀ dx, H2 dx = none → dx ≠ a → D.nx σ (upd (upd H2 dx (exd dx [(f, y)])) a (exo a C (some dx)))
theorem ps_put {o e : Expr} {to te : TE} {p' pos : Pos} (F : BaseX tl B nw it) (T : ExK X.K C tl nw) (hf : PySem.W.findIn X.K (.ref C) f = some none) (ho : PE X o to) (he : PE X e te) (hs : swapsWith e (some (.Attribute o f p')) pos.line X.env = pure false) :
    PS X (.Assign [.Attribute o f p'] e pos) (tPut to te C f) := ⟨fun pins s σ H D I h => plainObj_wpAny_Assign_Attribute (thn (he.run pins s σ H _ I h) fun v s1 ⟨y, H1, I1, r1, q1⟩ => thn (ho.run pins s1 σ H1 _ I1 q1) fun u s2 ⟨x, H2, I2, r2, a, ex, ea, q⟩ => by
  subst ex
  cases r2
  exact put_new F T I2 ea hf r1 fun dx s' n ne J => ⟨σ, _, J, q dx n ne⟩) hs⟩
end
end KD

set_option maxHeartbeats 4000000
namespace KD
open PySem PySem.Spec PyProof.Rows L2
section
variable {P : Program} {w : World} {K : PySem.W.Frag} {mg : Str → Option Value} {base : Heap} {tl : List Value} {B nw it : String}
theorem init_ok {qual : Str} {params : Arguments} {scope : Scope} {fI C : Addr} {fd : FuncData} {f p : Str} {k : Nat} {p1 p2 p3 p4 : Pos} (F : BaseX tl B nw it) (T : ExK K C tl nw) (hf : PySem.W.findIn K (.ref C) f = some none)
    (FD : FunD K "__init__" qual params [.Assign [.Attribute (.Name "self" p1) f p2] (.Name p p3) p4] scope [] [] fI fd) (S : FnScope ["self", p] ["self", p] scope) (v0 : scope.names.lookup ("self" : Str) = some .local) (v1 : scope.names.lookup p = some .local)
    (hd : (p == ("__debug__" : Str)) = false) (hcd : (p == ("__classdict__" : Str)) = false) : FnOk P w K mg base CX0 (k + 1) fI fd ["self", p] (spI C f) :=
  FD.ok S (fun vs H Q E ⟨a, y, e, _⟩ => by rw [e]; rfl) fun cdv A outer s H vs Q E hr ⟨a, y, e, ha, q⟩ => by
    subst e
    refine ⟨_, pss_one (ps_put (o := .Name "self" p1) (e := .Name p p3) F T hf (pv 0 rfl (.inl v0)) (pv 1 rfl (.inl v1) hd hcd) rfl), ?_⟩
    exact ⟨y, rfl, .ref a, rfl, a, rfl, ha, q⟩
end
section
variable {X : Cx} {C fI : Addr} {tl : List Value} {B nw it : String} {x f : Str} {k : Nat} {fd : FuncData} {ps : List Str} {e : Expr} {ta : TA} {p pos : Pos}
def tMk1 (C : Addr) (f : Str) (ta : TA) : L2.St → Hp → XK → Prop := fun σ H Q => ta σ H fun vs H1 => ∃ y, vs = [y] ∧ ∀ d, H1 d = none → Q (.ref C) (some d) (upd H1 d (.xd [(f, y)]))
theorem upd_del {H1 : Hp} {a d : Addr} {o1 o2 o3 o4 : HO} (h : H1 a = none) (ne : d ≠ a) : upd (del (upd (upd (upd H1 a o1) d o2) a o3) a) d o4 = upd H1 d o4 := by
  funext b
  rcases Decidable.em (b = d) with rfl | hd
  · rw [upd_same, upd_same]
  · rw [upd_ne hd, upd_ne hd]
    rcases Decidable.em (b = a) with rfl | hb
    · rw [del_same, h]
    · rw [del_ne hb, upd_ne hb, upd_ne hd, upd_ne hb]
theorem pmk1 (F : BaseX tl B nw it) (T : ExK X.K C tl nw) (iC : PySem.W.findIn X.K (.ref C) "__init__" = some (some (.ref fI))) (tI : PySem.W.typeIn X.K (.ref fI) = some (.type "function")) (F1 : FnOk X.prog X.w X.K X.mg X.base CX0 k fI fd ps (spI C f))
    (hr : Room (k + 1) X.A) (hb : L2.Binds X.K fd ps []) (hm : X.mg x = some (.ref C)) (ha : PA X [e] ta) (hg : Gl X x) (hdb : (x == ("__debug__" : Str)) = false) (he : starEach [e] X.env = (false, eval e X.env) :: starEach [] X.env) :
    PMk X (.Call (.Name x p) [e] [] pos) (tMk1 C f ta) := fun pins s σ H Q I h => by
  refine wpAny_Call_Name_kw (ld_glob I hg hm (PySem.W.callWith_K (h₀ := X.base) I.ok.mod.kin T.kp (thn (ha.run pos pins s σ H _ I h) fun us s1 ⟨vs, H1, I1, r1, y, ev, q1⟩ => ⟨I1.kIn, ?_⟩) he rfl) hdb)
  subst ev
  obtain ⟨nm, q, N, bs, bm, sn, sub, ab, col, dd, k0, k1, k2, k3, k5, hC, hbm⟩ := T.cls
  show wpAny _ _ (call (.ref C) us) _ _ _
  obtain ⟨hp, g, dr, tk, os⟩ := s1
  have le : hp.objs.size ≤ hp.objs.size + 1 := Nat.le_succ _
  have n1 : H1 (hp.objs.size + 1) = none := I1.hok.fresh le
  have kk : ∀ b o, hp.get? b = some o → ((hp.push (PySem.W.kdv_tup us)).push (PySem.HandSPX.excO C hp.objs.size)).get? b = some o := fun b o z => Heap.get?_push_of_some _ (Heap.get?_push_of_some _ z)
  have new : ((hp.push (PySem.W.kdv_tup us)).push (PySem.HandSPX.excO C hp.objs.size)).get? (hp.objs.size + 1) = some (PySem.HandSPX.excO C hp.objs.size) := by heap_get
  have I2 := I1.laid (t' := tk) (a := hp.objs.size + 1) (o := exo (hp.objs.size + 1) C none) (h' := (hp.push (PySem.W.kdv_tup us)).push (PySem.HandSPX.excO C hp.objs.size)) kk le (exo_ok new)
  have hus : us.length ≤ sizeLine := by rw [← Paired.length r1, sizeLine_eq]; show 1 ≤ _; omega
  have hsp : spI C f [.ref (hp.objs.size + 1), y] (upd H1 (hp.objs.size + 1) (exo (hp.objs.size + 1) C none)) (fun v H2 => v = .non ∧ ∃ d, H1 d = none ∧ d ≠ hp.objs.size + 1 ∧ H2 = upd (upd (upd H1 (hp.objs.size + 1) (exo (hp.objs.size + 1) C none)) d (exd d [(f, y)])) (hp.objs.size + 1) (exo (hp.objs.size + 1) C (some d))) (fun _ _ _ => False) :=
    ⟨_, y, rfl, upd_same, fun d hd ne => ⟨rfl, d, by rw [upd_ne ne] at hd; exact hd, ne, rfl⟩⟩
  have r2 : Vals [V.ref (hp.objs.size + 1), y] (Value.ref (hp.objs.size + 1) :: us) := .cons rfl r1
  have bi := hb _ (Value.ref (hp.objs.size + 1) :: us) I2.kIn (by rw [List.append_nil, ← Paired.length r2]; exact F1.len _ _ _ _ hsp)
  rw [List.append_nil] at bi
  refine wpAny_call (PySem.HandSPX.call_own F.eb (fun Y => upTo_has Y bm hbm) (I1.kIn _ _ hC) (PySem.W.looks_findIn I1.kIn iC) (fun self => PySem.W.bind_fn I1.kIn self tI) hus (codeAny_mono (F1.run _ X.stack _ _ ⟨Value.ref (hp.objs.size + 1) :: us, []⟩ _ _ _ _ (hr.make C us []) (I2.env0.make C us []) bi r2 hsp) fun r s' hq => ?_))
  match r, hq with
  | .ok (.ret u), ⟨v, H2, os2, bare2, un2, hok2, rv, ev, d, hd, ne, eH⟩ =>
    subst ev
    subst eH
    obtain ⟨h2, g2, d2, t2, os'⟩ := s'
    refine ⟨rv, mk_end (Q := Q) (raises_own T.ex T.ty) I1 le kk un2 hok2 os2 bare2 upd_same (by rw [upd_ne ne, upd_same]) hd ?_⟩
    rw [upd_del n1 ne]
    exact q1 d hd
theorem pmk0 (F : ExcBaseFacts B nw it tl) (q : PySem.W.excIn X.K C tl nw = true) (kC : PySem.W.keepIn X.K (.ref C) = true) (r : Raises X (.ref C)) (hm : X.mg x = some (.ref C)) (hg : Gl X x) (hdb : (x == ("__debug__" : Str)) = false) :
    PMk X (.Call (.Name x p) [] [] pos) (fun _ H Q => Q (.ref C) none H) := fun pins s σ H Q I h => by
  obtain ⟨bm, N, nm, qn, bs, hdct, sn, sub, ab, col, dd, k0, k1, k2, k3, k5, mN, hC, hN, hni, T⟩ := exc_obj I.kIn q
  refine wpAny_Call_Name_kw (ld_glob I hg hm (PySem.W.callWith_K0 I.kIn kC ?_) hdb)
  exact wpAny_call_exc_subT F T hC hN hni (fun h' e hx => mk_of I hx r h (I.hok.gone hx.new)) (Nat.zero_le _)
end
end KD

set_option maxHeartbeats 4000000
namespace KD
open PySem PySem.Spec PyProof.Rows L2
section
variable {X : Cx} {ct : Nat → Addr} {Γ : Gam} {W : WX}
def sRaise1 (c : Nat) (f : Str) (fe : EM) : SM := fun ε => (escE fe ε).map fun r => .ex (.exc c [f] [r.1]) r.2
def sRaise0 (c : Nat) : SM := fun ε => some (.ex (.exc c [] []) ε)
def nex (f : EM) : EM := fun ε => (f ε).bind fun r => match r.1 with | .ex _ => none | _ => some r
def outX (f : Val → SE → Option Out) (r : Val × SE) : Option Out := match r.1 with
  | .ex x => some (.ex x r.2)
  | v => f v r.2
def sExprX (f : EM) : SM := fun ε => (f ε).bind (outX fun _ ε1 => some (.nx ε1))
def sRetX (f : EM) : SM := fun ε => (f ε).bind (outX fun v ε1 => some (.rt v ε1))
def sSetX (i : Nat) (f : EM) : SM := fun ε => (f ε).bind (outX fun v ε1 => (storeV ε1 i v).map .nx)
def finX : Out → Option (Val × List MO)
  | .ex x ε => some (.ex x, ε.M)
  | o => finV o
def runX (n N : Nat) (f : SM) : FM := fun ds M => if ds.length = n then (f ⟨slots0 ds N, M⟩).bind finX else none
end
section
variable {P : Program} {w : World} {K : PySem.W.Frag} {mg : Str → Option Value} {base : Heap} {ct : Nat → Addr}
end
end KD

set_option maxHeartbeats 4000000
namespace KD
open PySem PySem.Spec PyProof.Rows L2
section
variable {ct : Nat → Addr}
end
section
variable {X : Cx} {ct : Nat → Addr} {k n : Nat} {f : Addr} {fd : FuncData} {ps ks : List Str} {fm : FM} {dvs : List V} {dd : List D} {ds : List Value} {E : XK} {x : Str} {p pos : Pos} {e : Expr} {es : List Expr} {kws : List Keyword} {fa fk : AM} {is : List Nat}
end
end KD

set_option maxHeartbeats 4000000
namespace KD
open PySem PySem.Spec PyProof.Rows L2
structure ExA (K : PySem.W.Frag) (C : Addr) : Prop where
  ga : PySem.W.findIn K (.ref C) "__getattribute__" = some (some (.builtin "BaseException.__getattribute__"))
  gg : PySem.W.findIn K (.ref C) "__getattr__" = some none
  ex : PySem.W.subIn K (.ref C) (.type "BaseException") = some true
  hd : PySem.W.hasDictIn K C = true
  ha : PySem.W.findIn K (.ref C) "__class__" = some (some (.builtin "object.__class__"))
  hn : PySem.W.specialIn K (.builtin "object.__class__") "__get__" = some (some (.builtin "getset_descriptor.__get__"))
  ht : PySem.W.takesIn K (.builtin "object.__class__") = some true
  hm : PySem.W.mroIn K C (.type "object") = some true
theorem ExA.cl {K : PySem.W.Frag} {C : Addr} (A : ExA K C) : (PySem.W.clsIn K C).isSome = true := by
  have h := A.hd
  unfold PySem.W.hasDictIn at h
  cases e : PySem.W.clsIn K C with
  | none => rw [e] at h; cases h
  | some cd => rfl
theorem exc_at {X : Cx} {pins : List (Addr × Obj)} {σ : L2.St} {H : Hp} {s : Shared} {a C : Addr} {d : Option Addr} {ns : List Str} {vs : List V} (I : L2.Inv X pins σ H s) (ha : H a = some (xob a C d)) (hx : XFs H ns vs d) :
    ∃ ox od, PySem.W.InstAt s.heap a ox C od ∧ ∀ dx, d = some dx → ∃ mA, s.heap.Ns1 dx mA ∧ (∀ f, RelO ((ns.zip vs).lookup f) (mA f)) ∧ ∃ oD, od = some oD ∧ s.heap.get? dx = some oD := by
  have h0 : ObjOk X.prog X.w H s.heap a (xob a C d) := I.hok a _ ha
  obtain ⟨oe, he, hz, fs, hf⟩ := h0.1
  cases d with
  | none => exact ⟨oe, none, ⟨he, hz.1, by unfold PySem.W.notCls; rw [hf], by rw [hz.2]; trivial⟩, fun _ z => nomatch z⟩
  | some dx =>
    have h1 : ObjOk X.prog X.w H s.heap dx (.xd (ns.zip vs)) := I.hok dx _ hx
    obtain ⟨mA, hns, hr⟩ := h1
    obtain ⟨oD, ho, _⟩ := lookIn_ns hns
    exact ⟨oe, some oD, ⟨he, hz.1, by unfold PySem.W.notCls; rw [hf], by rw [hz.2]; exact ho⟩, fun _ z => by cases z; exact ⟨mA, hns, hr, oD, rfl, ho⟩⟩
def rIsX (K : PySem.W.Frag) : List V → Hp → VK → Prop := fun xs H Q => ∃ (a C : Addr) (d : Option Addr) (ns : List Str) (vs : List V) (c : V) (u : Value) (b : Bool), xs = [.ref a, c] ∧ ClsV c u ∧ ExA K C ∧ H a = some (xob a C d) ∧ XFs H ns vs d ∧ PySem.W.kitOne K (.ref C) u = some b ∧ Q (.bl b) H
section
variable {X : Cx} {ct : Nat → Addr}
theorem call_isX : CallR X (.builtin "isinstance") (rIsX X.K) := by
  intro pins s σ H xs us Q I r h
  obtain ⟨a, C, d, ns, vs, c, u, b, rfl, kc, T, ha, hx, e, q⟩ := h
  obtain ⟨u1, u2, rfl, r1, r2⟩ := vals2 r
  have e2 := kc.eq r2
  subst e2
  cases r1
  obtain ⟨ox, od, J, _⟩ := exc_at I ha hx
  exact PySem.W.kia_one (PySem.W.kitx_exc (gt := none) T.cl T.ga T.gg T.ex T.ha T.hn T.ht T.hm) I.kIn J e (fun z => nomatch z) fun tk => ⟨.bl b, H, I.tok tk, rfl, q⟩
def eIsX (tab : List (Nat × Bool)) (fe : EM) : EM := fun ε => (fzE fe ε).bind fun r => (r.1.res r.2).bind fun d => match d with
  | .exc c _ _ => (tab.lookup c).map fun b => (.d (.bl b), r.2)
  | _ => none
theorem de_isX {tab : List (Nat × Bool)} {c : V} {u : Value} {fe : EM} {e ce : Expr} {p pos : Pos} (hc : PE X ce (tC c)) (cv : ClsV c u) (hA : ∀ q ∈ tab, ExA X.K (ct q.1)) (hk : ∀ q ∈ tab, PySem.W.kitOne X.K (.ref (ct q.1)) u = some q.2)
    (hm : X.mg "isinstance" = none) (he : PE X e (tE X.K ct fe)) (hg : Gl X "isinstance" := by rfl) (hs : starEach [e, ce] X.env = (false, eval e X.env) :: starEach [ce] X.env := by rfl) (hs2 : starEach [ce] X.env = (false, eval ce X.env) :: starEach [] X.env := by rfl)
    (hpl : (backTo pos (starEach [ce] X.env)).any (·.1) = false := by rfl) : PE X (.Call (.Name "isinstance" p) [e, ce] [] pos) (tE X.K ct (eIsX tab fe)) :=
  (pe_callB call_isX hg hm (by decide +kernel) (pa_cons (de_fz he) (pa_cons hc pa_nil hs2) hs) (by decide) (by decide) hs hpl).imp fun σ H Q ⟨mu, ow, ε, val, ε', S, hf, k⟩ => by
    unfold eIsX at hf
    cases e1 : fzE fe ε with
    | none => simp [e1] at hf
    | some r =>
      simp only [e1, Option.bind_some] at hf
      cases e2 : r.1.res r.2 with
      | none => simp [e2] at hf
      | some d =>
        simp only [e2, Option.bind_some] at hf
        split at hf
        · rename_i c' ns ds
          cases e3 : tab.lookup c' with
          | none => simp [e3] at hf
          | some b =>
            simp only [e3, Option.map_some, Option.some.injEq, Prod.mk.injEq] at hf
            obtain ⟨rfl, rfl⟩ := hf
            have hq := lookup_memL e3
            refine ⟨mu, ow, ε, r.1, r.2, S, e1, fun v H1 ow1 S1 fr1 r1 => ?_⟩
            rcases VR.res S1 r1 e2 with rv | ⟨p', m, rfl, ho, hm'⟩
            · cases rv with
              | exc h x l ra => exact ⟨_, ct c', _, ns, _, c, u, b, rfl, cv, hA _ hq, cut_sub _ _ h, x.mono cut_sub, hk _ hq, k _ H1 ow1 S1 fr1 (.bl b)⟩
            · cases m <;> cases hm'
        · cases hf
def tXfT (K : PySem.W.Frag) (f : Str) (te : TE) : TE := fun σ H Q => te σ H fun x H1 => ∃ (a C dd : Addr) (ns : List Str) (vs : List V) (v : V), x = .ref a ∧ ExA K C ∧ PySem.W.findIn K (.ref C) f = some none ∧ H1 a = some (xob a C (some dd)) ∧ XFs H1 ns vs (some dd) ∧ (ns.zip vs).lookup f = some v ∧ Q v H1
theorem pe_xfT {e : Expr} {te : TE} {pos : Pos} {f : Str} (he : PE X e te) (hb : attributeBase e f X.env (eval e X.env) = eval e X.env) : PE X (.Attribute e f pos) (tXfT X.K f te) := ⟨fun pins s σ H Q I h => attr_of hb (thn (he.run pins s σ H _ I h) fun u s1 ⟨x, H1, I1, rx, a, C, dd, ns, vs, v, ex, T, hf, ha, hx, hl, q⟩ => by
  subst ex
  cases rx
  obtain ⟨ox, od, J, hd⟩ := exc_at I1 ha hx
  obtain ⟨mA, hns, hr, oD, rfl, ho⟩ := hd dd rfl
  obtain ⟨oD', ho', hlk⟩ := lookIn_ns hns
  rw [ho] at ho'
  cases ho'
  obtain ⟨u, hu, ru⟩ := RelO.some_of (v := v) (o := mA f) (by rw [← hl]; exact hr f)
  exact HandSPX.exc_get I1.kIn J T.ga T.gg T.ex (PySem.W.findObj_own T.hd hf rfl (by rw [hlk, hu])) (handed_of ru) ⟨v, H1, I1.tok _, ru, q⟩)⟩
def eXFld (cs : List Nat) (f : Str) (fe : EM) : EM := fun ε => (fzE fe ε).bind fun r => (r.1.res r.2).bind fun d => match d with
  | .exc c ns ds => if c ∈ cs then ((ns.zip ds).lookup f).map fun x => (.d x, r.2) else none
  | _ => none
theorem de_xfld {cs : List Nat} {f : Str} {fe : EM} {e : Expr} {pos : Pos} (hA : ∀ c ∈ cs, ExA X.K (ct c) ∧ PySem.W.findIn X.K (.ref (ct c)) f = some none) (he : PE X e (tE X.K ct fe)) (hb : attributeBase e f X.env (eval e X.env) = eval e X.env := by rfl) :
    PE X (.Attribute e f pos) (tE X.K ct (eXFld cs f fe)) := (pe_xfT (de_fz he) hb).imp fun σ H Q ⟨mu, ow, ε, val, ε', S, hf, k⟩ => by
  unfold eXFld at hf
  cases e1 : fzE fe ε with
  | none => simp [e1] at hf
  | some r =>
    simp only [e1, Option.bind_some] at hf
    cases e2 : r.1.res r.2 with
    | none => simp [e2] at hf
    | some d =>
      simp only [e2, Option.bind_some] at hf
      split at hf
      · rename_i c ns ds
        split at hf
        · rename_i hc
          cases e3 : (ns.zip ds).lookup f with
          | none => simp [e3] at hf
          | some x =>
            simp only [e3, Option.map_some, Option.some.injEq, Prod.mk.injEq] at hf
            obtain ⟨rfl, rfl⟩ := hf
            refine ⟨mu, ow, ε, r.1, r.2, S, e1, fun v H1 ow1 S1 fr1 r1 => ?_⟩
            rcases VR.res S1 r1 e2 with rv | ⟨p', m, rfl, ho, hm'⟩
            · cases rv with
              | @exc a d _ _ vs _ h xx l ra =>
                obtain ⟨w, hw, rw'⟩ := zip_lookup ra e3
                cases d with
                | none =>
                  have hz : ns = [] := xx
                  subst hz
                  cases e3
                | some dd => exact ⟨a, ct c, dd, ns, vs, w, rfl, (hA c hc).1, (hA c hc).2, cut_sub _ _ h, xx.mono cut_sub, hw, k w H1 ow1 S1 fr1 rw'⟩
            · cases m <;> cases hm'
        · cases hf
      · cases hf
end
end KD

set_option maxHeartbeats 4000000
namespace KD
open PySem PySem.Spec PyProof.Rows L2
section
variable {X : Cx} {pins : List (Addr × Obj)} {σ : L2.St} {H : Hp} {sI s s' : Shared} {B : Heap} {a : Addr} {o : HO}
theorem inv_land (I : L2.Inv X pins σ H sI) (nb : ∀ b u, sI.heap.get? b = some u → b ∉ frs X.stack → B.get? b = some u) (hB : B.get? a = none) (na : a ∉ frs X.stack) (hn : H a = none) (st : B.StaysIn s'.heap) (up : sI.heap.UpToSlots s'.heap) (os : s'.os = sI.os) (ag : AllBare s'.gens)
    (new : ObjOk X.prog X.w (upd H a o) s'.heap a o) : L2.Inv X pins σ (upd H a o) s' := by
  have n0 : ∀ b u, sI.heap.get? b = some u → b ≠ a := fun b u e z => by
    subst z
    have := nb b u e na
    rw [hB] at this; cases this
  have sl : ∀ b ∈ frs X.stack, ∀ u, sI.heap.get? b = some u → ∃ q, s'.heap.get? b = some { u with slots := q } := fun b hb u e => by
    obtain ⟨_, u', e', hd⟩ := I.stack.mem hb
    rw [e] at e'; cases e'
    exact up b u e hd
  refine I.call' (ch := []) os ⟨fun b u e _ hb _ => st b u (nb b u e hb), fun b u e _ hb _ => sl b hb u e, fun b u e n _ => (upd_ne (n0 b u e)).trans n, fun b u e _ => ?_, fun b xs e => (upd_ne (ne_of_none e hn)).trans e, fun b u xs e => (upd_ne (ne_of_none e hn)).trans e, fun b ps e => ⟨#[], ?_⟩⟩
    (HOk.laidN ((I.inGround nb).kept st) (fun _ _ e => e) hn new) ag (fun _ z => nomatch z)
  · rcases Decidable.em (b ∈ frs X.stack) with hb | hb
    · obtain ⟨q, e2⟩ := sl b hb u e
      exact ⟨_, e2⟩
    · exact ⟨u, st b u (nb b u e hb)⟩
  · rw [upd_ne (ne_of_none e hn), e]; simp
end
section
variable {X : Cx} {x1 x2 x3 n : Str} {c1 c2 c3 : Value} {i kk : Nat} {body suite : List Stmt} {b₀ : Stmt} {p1 p2 p3 tp pos pos' : Pos} {tb : WX → TS} {ts : TS} {Wout : WX}
end
end KD

set_option maxHeartbeats 4000000
namespace KD
open PySem PySem.Spec PyProof.Rows L2
section
variable {X : Cx} {ct : Nat → Addr} {Γ : Gam} {W : WX}
theorem Sim.gone {ow : OwF} {ε : SE} {σ : L2.St} {H : Hp} (j : Nat) (S : Sim Γ ow ε σ H) : Sim Γ ow (setS ε j .no) (σ.set j none) H := by
  refine ⟨by rw [List.length_set, S.len]; exact (List.length_set ..).symm, fun i d h => ?_, fun i m h => ?_, S.mo⟩
  · have h' : (ε.sl.set j .no)[i]? = some (.d d) := h
    rcases Decidable.em (j = i) with rfl | hj
    · rw [List.getElem?_set] at h'
      simp only [if_true] at h'
      split at h' <;> cases h'
    · rw [List.getElem?_set_ne hj] at h' ⊢
      exact S.sd i d h'
  · have h' : (ε.sl.set j .no)[i]? = some (.own m) := h
    rcases Decidable.em (j = i) with rfl | hj
    · rw [List.getElem?_set] at h'
      simp only [if_true] at h'
      split at h' <;> cases h'
    · rw [List.getElem?_set_ne hj] at h' ⊢
      exact S.so i m h'
end
end KD

set_option maxHeartbeats 4000000
namespace KD
open PySem PySem.Spec PyProof.Rows L2
section
variable {P : Program} {w : World} {K : PySem.W.Frag} {mg : Str → Option Value} {base : Heap} {ct : Nat → Addr}
end
section
variable {X : Cx} {ct : Nat → Addr} {k n : Nat} {f : Addr} {fd : FuncData} {ps : List Str} {fm : FM} {dvs : List V} {dd : List D} {ds : List Value} {E : XK} {sp : Sp} {x : Str} {p pos : Pos} {e : Expr} {es : List Expr} {t : TA} {fa : AM}
end
end KD

set_option maxHeartbeats 4000000
namespace KD
open PySem PySem.Spec PyProof.Rows L2 LamX
section
variable {X : Cx} {pins : List (Addr × Obj)} {σ : L2.St} {H F : Hp} {s : Shared}
end
end KD

set_option maxHeartbeats 4000000
namespace KD
open PySem PySem.Spec PyProof.Rows L2 LamX
def keepD : Sl → Sl
  | .d x => .d x
  | _ => .no
def mask (sl : List Sl) : List Sl := sl.map keepD
section
variable {K : PySem.W.Frag} {ct : Nat → Addr} {mu : Nat → Option Addr}
end
section
variable {X : Cx} {ct : Nat → Addr} {mu : Nat → Option Addr} {ow1 : OwF} {H1 : Hp} {f : Addr} {W : WX}
end
end KD

set_option maxHeartbeats 4000000
namespace KD
open PySem PySem.Spec PyProof.Rows L2 LamX
section
variable {X : Cx} {pins : List (Addr × Obj)} {σ : L2.St} {H : Hp} {s : Shared}
end
section
variable {X : Cx} {ct : Nat → Addr}
end
end KD

set_option maxHeartbeats 4000000
namespace KD
open PySem PySem.Spec PyProof.Rows L2 LamX
section
variable {P : Program} {w : World} {K : PySem.W.Frag} {mg : Str → Option Value} {base : Heap} {ct : Nat → Addr}
end
section
variable {P : Program} {w : World} {K : PySem.W.Frag} {mg mb : Str → Option Value} {k : Nat} {fa a : Addr} {fd : FuncData} {x : Str} {sp : Sp} {s1 : Shared} {vs : List Value} {ns : List Int} {cs : List (Addr × Addr)}
end
end KD

set_option maxHeartbeats 4000000
namespace KD
open PySem PySem.Spec PyProof.Rows L2
def sysB (K : PySem.W.Frag) : Bool := match K.lookup sysModules with
  | some o => decide (o.cls = .type "dict")
  | none => false
mutual
inductive DpX (K : PySem.W.Frag) (H : Hp) : V → PyData → Prop
  | non : DpX K H .non .none
  | bl (b : Bool) : DpX K H (.bl b) (.bool b)
  | int (i : Int) : DpX K H (.int i) (.int i)
  | str (x : Str) : DpX K H (.str x) (.str x)
  | lst {a : Addr} {xs : List V} {ds : List PyData} : SqL K H a xs → DpXs K H xs ds → DpX K H (.ref a) (.list ds)
  | tup {a : Addr} {xs : List V} {ds : List PyData} : SqT K H a xs → DpXs K H xs ds → DpX K H (.ref a) (.tuple ds)
  | dct {a : Addr} : H a = some (.dK []) → DpX K H (.ref a) (.dict [])
inductive DpXs (K : PySem.W.Frag) (H : Hp) : List V → List PyData → Prop
  | nil : DpXs K H [] []
  | cons {v : V} {vs : List V} {d : PyData} {ds : List PyData} : DpX K H v d → DpXs K H vs ds → DpXs K H (v :: vs) (d :: ds)
end
section
variable {X : Cx} {pins : List (Addr × Obj)} {σ : L2.St} {H : Hp} {s : Shared}
theorem sys_ne (hS : sysB X.K = true) (I : L2.Inv X pins σ H s) {a : Addr} {o : Obj} (e : s.heap.get? a = some o) (n : o.cls ≠ .type "dict") : sysModules ≠ a := fun z => by
  subst z
  unfold sysB at hS
  cases q : X.K.lookup sysModules with
  | none => rw [q] at hS; cases hS
  | some o' =>
    rw [q] at hS
    have := I.kIn _ _ q
    rw [e] at this
    cases this
    exact n (of_decide_eq_true hS)
mutual
theorem DpX.reads (hS : sysB X.K = true) (I : L2.Inv X pins σ H s) : ∀ (d : PyData) (v : V) (u : Value), DpX X.K H v d → L2.RelV v u → ∃ as, Reads s.heap u d as ∧ sysModules ∉ as
  | .none, _, _, h, r => by cases h; cases r; exact ⟨_, .none, by simp⟩
  | .bool b, _, _, h, r => by cases h; cases r; exact ⟨_, .bool b, by simp⟩
  | .int i, _, _, h, r => by cases h; obtain ⟨t, rfl⟩ := r; exact ⟨_, .int i t, by simp⟩
  | .str x, _, _, h, r => by cases h; obtain ⟨t, rfl⟩ := r; exact ⟨_, .str x t, by simp⟩
  | .list ds, _, _, h, r => by
    cases h with
    | @lst a xs _ h1 h2 =>
      cases r
      obtain ⟨its, rv, ⟨o, n, ho, hc, hd, hs⟩, _⟩ := I.list h1
      obtain ⟨as, q1, q2⟩ := DpX.readsAll hS I ds xs its h2 rv
      exact ⟨a :: as, .list ho hc hs q1, fun z => (List.mem_cons.mp z).elim (sys_ne hS I ho (by rw [hc]; decide)) q2⟩
  | .tuple ds, _, _, h, r => by
    cases h with
    | @tup a xs _ h1 h2 =>
      cases r
      obtain ⟨its, rv, ⟨o, ho, hc, n, hs⟩, _⟩ := I.tuple h1
      obtain ⟨as, q1, q2⟩ := DpX.readsAll hS I ds xs its h2 rv
      exact ⟨as, .tuple ho hc hs q1, q2⟩
  | .dict kvs, _, _, h, r => by
    cases h with
    | @dct a h1 =>
      cases r
      have h2 : ObjOk X.prog X.w H s.heap a (.dK []) := I.hok a _ h1
      obtain ⟨_, ns, vs, kv, o, es, ep, ho, hx, hd, _, pr, _⟩ := h2
      cases kv
      have he : es.toList = [] := by cases h : es.toList with
        | nil => rfl
        | cons x y => rw [h] at pr; cases pr
      refine ⟨[a], Reads.dict (as := []) (bs := []) ho hx.1 hd (by rw [he]; exact .nil) (by rw [he]; exact .nil), ?_⟩
      · simpa using fun z : sysModules = a => by rw [z] at ns; simp at ns
theorem DpX.readsAll (hS : sysB X.K = true) (I : L2.Inv X pins σ H s) : ∀ (ds : List PyData) (vs : List V) (us : List Value), DpXs X.K H vs ds → Vals vs us → ∃ as, ReadsAll s.heap us ds as ∧ sysModules ∉ as
  | [], _, _, h, r => by cases h; cases r; exact ⟨_, .nil, by simp⟩
  | d :: ds, _, _, h, r => by
    cases h with
    | cons h1 h2 =>
      cases r with
      | cons r1 r2 =>
        obtain ⟨as, q1, n1⟩ := DpX.reads hS I d _ _ h1 r1
        obtain ⟨bs, q2, n2⟩ := DpX.readsAll hS I ds _ _ h2 r2
        exact ⟨_, .cons q1 q2, fun z => (List.mem_append.mp z).elim n1 n2⟩
end
end
end KD
namespace KD
open PySem PySem.Spec PyProof.Rows L2
mutual
def plainR : D → Bool
  | .non => true
  | .bl _ => true
  | .int _ => true
  | .str _ => true
  | .tup l => plainRL l
  | .lst l => plainRL l
  | .scr _ => true
  | .dct ks _ => ks.isEmpty
  | _ => false
def plainRL : List D → Bool
  | [] => true
  | d :: l => plainR d && plainRL l
end
theorem dpXs_ints {K : PySem.W.Frag} {H : Hp} : ∀ l : List Int, DpXs K H (l.map V.int) (l.map PyData.int)
  | [] => .nil
  | i :: l => .cons (.int i) (dpXs_ints l)
section
variable {Γ : Gam}
mutual
theorem Rp.dpx {F : Hp} : ∀ {v : V} {d : D}, Rp Γ F v d → plainR d = true → DpX Γ.K F v (toPy d)
  | _, _, .non, _ => .non
  | _, _, .bl b, _ => .bl b
  | _, _, .int b, _ => .int b
  | _, _, .str b _, _ => .str b
  | _, _, .tup h r _, q => .tup h.sqt (RpAll.dpx r q)
  | _, _, .lst h r _, q => .lst (.of h) (RpAll.dpx r q)
  | _, _, .scr h _, q => .lst h (dpXs_ints _)
  | _, _, .pair _ _, q => by cases q
  | _, _, .ins _ _ _, q => by cases q
  | _, _, .dct (ks := ks) h l r, q => by
    cases ks with
    | nil => exact .dct h
    | cons _ _ => cases q
  | _, _, .dcl _ _ _, q => by cases q
  | _, _, .ptr _, q => by cases q
  | _, _, .cls _, q => by cases q
  | _, _, .rng _, q => by cases q
  | _, _, .exc _ _ _ _, q => by cases q
  | _, _, .tab _ _, q => by cases q
theorem RpAll.dpx {F : Hp} : ∀ {vs : List V} {ds : List D}, RpAll Γ F vs ds → plainRL ds = true → DpXs Γ.K F vs (toPyL ds)
  | _, _, .nil, _ => .nil
  | _, _, .cons h r, q => by
    have q' := Bool.and_eq_true_iff.mp (show (plainR _ && plainRL _) = true from q)
    exact .cons (Rp.dpx h q'.1) (RpAll.dpx r q'.2)
end
end
def okX (d : D) : Bool := plainR d && decide ((toPy d).depth ≤ 64) && (toPy d).showable && sOk (toPy d).shown
def isBox : D → Bool
  | .tup _ => true
  | .lst _ => true
  | .dct _ _ => true
  | _ => false
def repr3D (l : List D) : Option Val := match l with
  | [d] => if isBox d = true then (if okX d = true then some (.d (.str (toPy d).shown)) else none) else repr2D [d]
  | _ => none
section
variable {X : Cx} {ct : Nat → Addr} {K : PySem.W.Frag}
def rRepr3 (K : PySem.W.Frag) : List V → Hp → VK → Prop := fun xs H Q => rRepr2 K xs H Q ∨ ∃ a d, xs = [.ref a] ∧ DpX K H (.ref a) d ∧ d.showable = true ∧ d.depth ≤ 64 ∧ d.shown.length ≤ sizeLine ∧ Q (.str d.shown) H
theorem call_repr3U (hS : sysB X.K = true) (hg : X.A.guards = some []) (hu : X.A.units + 80 < cLine) : CallR X (.builtin "repr") (rRepr3 X.K) := by
  intro pins s σ H xs us Q I r h
  rcases h with h | ⟨a, d, rfl, hd, h1, h3, h4, q⟩
  · exact call_repr2U hg hu pins s σ H xs us Q I r h
  · obtain ⟨u, rfl, rx⟩ := vals1 r
    obtain ⟨as, rd, nm⟩ := DpX.reads hS I d _ _ hd rx
    cases rx
    exact repr_of_reads' rd h1 (fun _ => nm) hg (by omega) (fun _ _ e => e) (fun h' u tk hk => ⟨.str _, H, I.kept hk, ⟨u, rfl⟩, q⟩) h4
theorem cs_repr3 : CallS K ct (rRepr3 K) repr3D := fun mu F H xs ds val Q sb r h k => by
  unfold repr3D at h
  split at h
  · rename_i d
    split at h
    · rename_i hb
      split at h
      · rename_i ho
        cases h
        obtain ⟨x, rfl, rx⟩ := pair1 r
        unfold okX at ho
        rw [Bool.and_eq_true, Bool.and_eq_true, Bool.and_eq_true] at ho
        obtain ⟨⟨⟨h1, h2⟩, h3⟩, h4⟩ := ho
        have rx' := rx.up sb
        have dx := rx'.dpx h1
        cases d with
        | tup l => cases rx' with | tup _ _ _ => exact .inr ⟨_, _, rfl, dx, h3, of_decide_eq_true h2, sOk_len' h4, k _ _ (.same (.str _ h4))⟩
        | lst l => cases rx' with | lst _ _ _ => exact .inr ⟨_, _, rfl, dx, h3, of_decide_eq_true h2, sOk_len' h4, k _ _ (.same (.str _ h4))⟩
        | dct ks l => cases rx' with | dct _ _ _ => exact .inr ⟨_, _, rfl, dx, h3, of_decide_eq_true h2, sOk_len' h4, k _ _ (.same (.str _ h4))⟩
        | _ => cases hb
      · cases h
    · exact .inl (cs_repr2 mu F H xs [d] val Q sb r h k)
  · cases h
end
end KD

set_option maxHeartbeats 4000000
namespace KD
open PySem PySem.Spec PyProof.Rows L2
abbrev tlVE : List Value := [.type "ValueError", .type "Exception", .type "BaseException", .type "object"]
abbrev tlLE : List Value := [.type "LookupError", .type "Exception", .type "BaseException", .type "object"]
abbrev tlAE : List Value := [.type "ArithmeticError", .type "Exception", .type "BaseException", .type "object"]
def exShB (K : PySem.W.Frag) (C : Addr) (tl : List Value) (nw : String) : Bool := match K.lookup C with
  | some ⟨.type "type", _, .cls cd, sl⟩ => (match cd.mro, sl.toList with
    | .ref C' :: bm, [_, _, _, _, some (.builtin n), _] => decide (C' = C) && (decide (n = nw) && (!cd.hasDel && (cd.hasDict && upTo tl bm)))
    | _, _ => false)
  | _ => false
theorem exShB_ok {K : PySem.W.Frag} {C : Addr} {tl : List Value} {nw : String} (h : exShB K C tl nw = true) : ∃ nm q N bs bm sn sub ab col dd k0 k1 k2 k3 k5, K.lookup C = some (excClassObj nm q C N bs bm true sn sub ab col dd k0 k1 k2 k3 k5 nw) ∧ upTo tl bm = true := by
  unfold exShB at h
  split at h
  · rename_i dd cd sl ho
    split at h
    · rename_i C' bm k0 k1 k2 k3 n k5 hm hs
      simp only [Bool.and_eq_true, decide_eq_true_eq, Bool.not_eq_true'] at h
      obtain ⟨rfl, rfl, hdel, hdi, hu⟩ := h
      obtain ⟨nm, bs, mro, ns, qn, hd, sn, sub, ab, col, del⟩ := cd
      dsimp only at hm hdel hdi
      subst hm hdel hdi
      have hsl : sl = #[k0, k1, k2, k3, some (.builtin n), k5] := by
        obtain ⟨l⟩ := sl
        simp only at hs
        rw [hs]
      subst hsl
      exact ⟨nm, qn, ns, bs, bm, sn, sub, ab, col, dd, k0, k1, k2, k3, k5, ho, hu⟩
    · cases h
  · cases h
def exkB (K : PySem.W.Frag) (x : Str) (tl : List Value) (nw : String) (f : Str) : Bool := exShB K (He.ga K x) tl nw && (decide (PySem.W.findIn K (.ref (He.ga K x)) "__setattr__" = some (some (.builtin "object.__setattr__"))) && (decide (PySem.W.subIn K (.ref (He.ga K x)) (.type "BaseException") = some true) &&
  (decide (PySem.W.typeIn K (.ref (He.ga K x)) = some (.type "type")) && (PySem.W.keepIn K (.ref (He.ga K x)) && (decide (PySem.W.findIn K (.ref (He.ga K x)) "__init__" = some (some (.ref (He.ma K (He.ga K x) "__init__")))) &&
  (decide (PySem.W.typeIn K (.ref (He.ma K (He.ga K x) "__init__")) = some (.type "function")) && decide (PySem.W.findIn K (.ref (He.ga K x)) f = some none)))))))
structure ExkOk (K : PySem.W.Frag) (C fI : Addr) (tl : List Value) (nw : String) (f : Str) : Prop where
  k : ExK K C tl nw
  i : PySem.W.findIn K (.ref C) "__init__" = some (some (.ref fI))
  t : PySem.W.typeIn K (.ref fI) = some (.type "function")
  f : PySem.W.findIn K (.ref C) f = some none
theorem exkB_ok {K : PySem.W.Frag} {x : Str} {tl : List Value} {nw : String} {f : Str} (h : exkB K x tl nw f = true) : ExkOk K (He.ga K x) (He.ma K (He.ga K x) "__init__") tl nw f := by
  unfold exkB at h
  simp only [Bool.and_eq_true, decide_eq_true_eq] at h
  obtain ⟨h1, h2, h3, h4, h5, h6, h7, h8⟩ := h
  exact ⟨⟨exShB_ok h1, h2, h3, h4, h5⟩, h6, h7, h8⟩
def exnB (K : PySem.W.Frag) (x : Str) (tl : List Value) (nw : String) : Bool := PySem.W.excIn K (He.ga K x) tl nw && (PySem.W.keepIn K (.ref (He.ga K x)) && (decide (PySem.W.subIn K (.ref (He.ga K x)) (.type "BaseException") = some true) && decide (PySem.W.typeIn K (.ref (He.ga K x)) = some (.type "type"))))
structure ExnOk (K : PySem.W.Frag) (C : Addr) (tl : List Value) (nw : String) : Prop where
  q : PySem.W.excIn K C tl nw = true
  kp : PySem.W.keepIn K (.ref C) = true
  ex : PySem.W.subIn K (.ref C) (.type "BaseException") = some true
  ty : PySem.W.typeIn K (.ref C) = some (.type "type")
theorem exnB_ok {K : PySem.W.Frag} {x : Str} {tl : List Value} {nw : String} (h : exnB K x tl nw = true) : ExnOk K (He.ga K x) tl nw := by
  unfold exnB at h
  simp only [Bool.and_eq_true, decide_eq_true_eq] at h
  exact ⟨h.1, h.2.1, h.2.2.1, h.2.2.2⟩
def exaB (K : PySem.W.Frag) (x : Str) : Bool := decide (PySem.W.findIn K (.ref (He.ga K x)) "__getattribute__" = some (some (.builtin "BaseException.__getattribute__"))) && (decide (PySem.W.findIn K (.ref (He.ga K x)) "__getattr__" = some none) && (decide (PySem.W.subIn K (.ref (He.ga K x)) (.type "BaseException") = some true) &&
  (PySem.W.hasDictIn K (He.ga K x) && (decide (PySem.W.findIn K (.ref (He.ga K x)) "__class__" = some (some (.builtin "object.__class__"))) && (decide (PySem.W.specialIn K (.builtin "object.__class__") "__get__" = some (some (.builtin "getset_descriptor.__get__"))) &&
  (decide (PySem.W.takesIn K (.builtin "object.__class__") = some true) && decide (PySem.W.mroIn K (He.ga K x) (.type "object") = some true)))))))
theorem exaB_ok {K : PySem.W.Frag} {x : Str} (h : exaB K x = true) : ExA K (He.ga K x) := by
  unfold exaB at h
  simp only [Bool.and_eq_true, decide_eq_true_eq] at h
  obtain ⟨h1, h2, h3, h4, h5, h6, h7, h8⟩ := h
  exact ⟨h1, h2, h3, h4, h5, h6, h7, h8⟩
def kitsB (K : PySem.W.Frag) (u : Value) (l : List (Str × Bool)) : Bool := l.all fun q => decide (PySem.W.kitOne K (.ref (He.ga K q.1)) u = some q.2)
theorem kitsB_ok {K : PySem.W.Frag} {u : Value} {l : List (Str × Bool)} (h : kitsB K u l = true) {x : Str} {b : Bool} (hm : (x, b) ∈ l) : PySem.W.kitOne K (.ref (He.ga K x)) u = some b := of_decide_eq_true (List.all_eq_true.mp h _ hm)
def tabsB (K : PySem.W.Frag) (tf : List He.Defn) : Bool := decide (tf.map fun p => (He.cT K p).2).Nodup
end KD

set_option maxHeartbeats 4000000
namespace KD
open PySem PySem.Spec PyProof.Rows L2
section
variable {K : PySem.W.Frag} {ct : Nat → Addr} {mu mu' : Nat → Option Addr} {F : Hp}
end
section
variable {P : Program} {w : World} {K : PySem.W.Frag} {mg : Str → Option Value} {base : Heap} {ct : Nat → Addr} {CX : CXT} {k n j : Nat} {f : Addr} {fd : FuncData} {ps : List Str} {fm : FM}
end
end KD

set_option maxHeartbeats 4000000
namespace KD
open PySem PySem.Spec PyProof.Rows L2
section
variable {X : Cx} {ct : Nat → Addr} {K : PySem.W.Frag}
def blsOf : List D → Option (List Bool)
  | [] => some []
  | .bl b :: l => (blsOf l).map fun r => b :: r
  | _ :: _ => none
def cntBD : D → List D → Option Val
  | .lst l, [.bl b] => (blsOf l).map fun l' => .d (.int ((l'.countP (· == b) : Nat) : Int))
  | _, _ => none
end
end KD

set_option maxHeartbeats 4000000
namespace KD
open PySem PySem.Spec PyProof.Rows L2 LamX
theorem tab_of {ct : Nat → Addr} {ga : Str → Addr} {p : Addr → Bool → Prop} : ∀ {ns : List Nat} {xs : List Str} {bs : List Bool}, ns.map ct = xs.map ga → (∀ q ∈ xs.zip bs, p (ga q.1) q.2) → ∀ q ∈ ns.zip bs, p (ct q.1) q.2
  | [], _, _, _, _, q, hq => by simp at hq
  | n :: ns, [], _, h, _, q, hq => by simp at h
  | n :: ns, x :: xs, [], _, _, q, hq => by simp at hq
  | n :: ns, x :: xs, b :: bs, h, hp, q, hq => by
    simp only [List.map_cons, List.cons.injEq] at h
    simp only [List.zip_cons_cons, List.mem_cons] at hq
    rcases hq with rfl | hq
    · rw [h.1]; exact hp (x, b) (by simp)
    · exact tab_of h.2 (fun q hq => hp q (by simp [hq])) q hq
theorem nos_of {ct : Nat → Addr} {ga : Str → Addr} {p : Addr → Prop} {ns : List Nat} {xs : List Str} (h : ns.map ct = xs.map ga) (hp : ∀ x ∈ xs, p (ga x)) : ∀ n ∈ ns, p (ct n) := fun n hn => by
  have h1 : ct n ∈ xs.map ga := by rw [← h]; exact List.mem_map_of_mem hn
  obtain ⟨x, hx, e⟩ := List.mem_map.mp h1
  rw [← e]; exact hp x hx
def exasB (K : PySem.W.Frag) (xs : List Str) : Bool := xs.all fun x => exaB K x
theorem exasB_ok {K : PySem.W.Frag} {xs : List Str} (h : exasB K xs = true) : ∀ x ∈ xs, ExA K (He.ga K x) := fun x hx => exaB_ok (List.all_eq_true.mp h x hx)
def nofB (K : PySem.W.Frag) (f : Str) (xs : List Str) : Bool := xs.all fun x => decide (PySem.W.findIn K (.ref (He.ga K x)) f = some none)
theorem nofB_ok {K : PySem.W.Frag} {f : Str} {xs : List Str} (h : nofB K f xs = true) : ∀ x ∈ xs, PySem.W.findIn K (.ref (He.ga K x)) f = some none := fun x hx => of_decide_eq_true (List.all_eq_true.mp h x hx)
section
variable {X : Cx} {ct : Nat → Addr} {tab : List (Nat × Bool)} {fe : EM} {e : Expr} {x : Str} {p q pos : Pos}
theorem de_isXO {C : Addr} (hA : ∀ q ∈ tab, ExA X.K (ct q.1)) (hk : ∀ q ∈ tab, PySem.W.kitOne X.K (.ref (ct q.1)) (.ref C) = some q.2) (hm : X.mg "isinstance" = none) (hx : X.mg x = some (.ref C)) (he : PE X e (tE X.K ct fe)) (hg : Gl X "isinstance" := by rfl) (hgx : Gl X x := by rfl)
    (hd : (x == ("__debug__" : Str)) = false := by decide) (hs : starEach [e, .Name x q] X.env = (false, eval e X.env) :: starEach [.Name x q] X.env := by rfl) (hs2 : starEach [.Name x q] X.env = (false, eval (.Name x q) X.env) :: starEach [] X.env := by rfl)
    (hpl : (backTo pos (starEach [.Name x q] X.env)).any (·.1) = false := by rfl) : PE X (.Call (.Name "isinstance" p) [e, .Name x q] [] pos) (tE X.K ct (eIsX tab fe)) :=
  de_isX (c := .ref C) (u := .ref C) (pe_glob hgx hx rfl hd) (.own C) hA hk hm he hg hs hs2 hpl
theorem de_isXB {T : String} (hv : bootBuiltins x = some (.type T)) (hA : ∀ q ∈ tab, ExA X.K (ct q.1)) (hk : ∀ q ∈ tab, PySem.W.kitOne X.K (.ref (ct q.1)) (.type T) = some q.2) (hm : X.mg "isinstance" = none) (hx : X.mg x = none) (he : PE X e (tE X.K ct fe)) (hg : Gl X "isinstance" := by rfl) (hgx : Gl X x := by rfl)
    (hn : x ≠ "__name__" := by decide) (hd : (x == ("__debug__" : Str)) = false := by decide) (hs : starEach [e, .Name x q] X.env = (false, eval e X.env) :: starEach [.Name x q] X.env := by rfl) (hs2 : starEach [.Name x q] X.env = (false, eval (.Name x q) X.env) :: starEach [] X.env := by rfl)
    (hpl : (backTo pos (starEach [.Name x q] X.env)).any (·.1) = false := by rfl) : PE X (.Call (.Name "isinstance" p) [e, .Name x q] [] pos) (tE X.K ct (eIsX tab fe)) :=
  de_isX (c := .ty T) (u := .type T) (pe_bltn hgx hx hv rfl hn hd) (.ty T) hA hk hm he hg hs hs2 hpl
end
end KD
namespace KD
open PySem PySem.Spec PyProof.Rows L2
end KD

set_option maxHeartbeats 4000000
namespace KD
open PySem PySem.Spec PyProof.Rows L2
section
variable {X : Cx} {ct : Nat → Addr} {K : PySem.W.Frag}
end
end KD

set_option maxHeartbeats 4000000
namespace KD
open PySem PySem.Spec PyProof.Rows L2
section
open He
def addM : List Addr → Nat → List Addr → Nat × List Addr
  | [], m, acc => (m, acc)
  | a :: as, m, acc => if m.testBit a = true then addM as m acc else addM as (m ||| (1 <<< a)) (a :: acc)
def asM (g : Addr → Option Obj) : Nat → Nat × List Addr × List Addr
  | 0 => (1 <<< mainGlobals, [mainGlobals], [mainGlobals])
  | n + 1 => match asM g n with
    | (m, all, fr) => match addM (fr.flatMap fun a => match g a with | some o => refsD o | none => []) m [] with
      | (m', new) => (m', new ++ all, new)
def frZ (g : Addr → Option Obj) (n : Nat) : PySem.W.Frag := frT g ((asM g n).2.1 ++ [cStatics, sysModules])
def obsZ (n : Nat) (fa : List Fa) (fn : List DefD) (ts : List Tab) (tf : List Defn) (da : List He5.DefA) (ex : PySem.W.Frag → Bool) (g : Addr → Option Obj) : AlY :=
  ((obsT fa fn ts (frZ g n), ex (frZ g n) && He.tabsB g tf (frZ g n)), (da.all fun d => d.ok (frZ g n), da.map fun d => He5.fnA (frZ g n) (d.at_ (frZ g n))))
theorem saysZ_of {n : Nat} {fa : List Fa} {fn : List DefD} {ts : List Tab} {tf : List Defn} {da : List He5.DefA} {ex : PySem.W.Frag → Bool} {w : World} {h : Heap} (e : obsZ n fa fn ts tf da ex h.get? = valY fn ts da w) : SaysY fa fn ts tf da ex w h (frZ h.get? n) := by
  have e1 : obsT fa fn ts (frZ h.get? n) = valT fn ts w := congrArg (fun z : AlY => z.1.1) e
  have e2 : (ex (frZ h.get? n) && He.tabsB h.get? tf (frZ h.get? n)) = true := congrArg (fun z : AlY => z.1.2) e
  have e3 : (da.all fun d => d.ok (frZ h.get? n)) = true := congrArg (fun z : AlY => z.2.1) e
  have e4 : (da.map fun d => He5.fnA (frZ h.get? n) (d.at_ (frZ h.get? n))) = da.map He5.DefA.val := congrArg (fun z : AlY => z.2.2) e
  obtain ⟨h1, h2⟩ := Bool.and_eq_true_iff.mp e2
  have key : ∀ p ∈ tf, PySem.W.codeHdIn (frZ h.get? n) (cT (frZ h.get? n) p).1 (cT (frZ h.get? n) p).2 = true ∧ ∃ o, h.get? (cT (frZ h.get? n) p).2 = some o ∧ emptyTab o = true := fun p hp => by
    obtain ⟨h3, h4⟩ := Bool.and_eq_true_iff.mp (List.all_eq_true.mp h2 p hp)
    refine ⟨h3, ?_⟩
    cases q : h.get? (cT (frZ h.get? n) p).2 with
    | none => rw [q] at h4; cases h4
    | some o => rw [q] at h4; exact ⟨o, rfl, h4⟩
  refine ⟨⟨e1, h1, fun p hp => (key p hp).1, fun p hp => ?_, fun p hp => ?_⟩, fun d hd => ?_⟩
  · obtain ⟨_, o, q, z⟩ := key p hp
    exact frT_none q z
  · obtain ⟨_, o, q, z⟩ := key p hp
    rw [q, emptyTab_eq z]
  · refine He5.DefA.funD ?_ (List.all_eq_true.mp e3 d hd)
    obtain ⟨i, hi⟩ := List.getElem?_of_mem hd
    have := congrArg (fun l : List FnW => l[i]?) e4
    simp only [List.getElem?_map, hi, Option.map_some] at this
    exact Option.some.inj this
def hookZ (n : Nat) (fa : List Fa) (fn : List DefD) (ts : List Tab) (tf : List Defn) (da : List He5.DefA) (ex : PySem.W.Frag → Bool) : PySem.W.Hook where
  α := AlY
  obs := fun s => obsZ n fa fn ts tf da ex s.heap.get?
  val := fun w => valY fn ts da w
  says := fun w h => ∃ K : PySem.W.Frag, K.In h ∧ SaysY fa fn ts tf da ex w h K
  of := fun _ _ e => ⟨_, frT_in, saysZ_of e⟩
  keeps := fun _ _ _ ⟨K, hK, c⟩ k => ⟨K, PySem.W.Frag.In.keeps hK k, ⟨⟨c.x.t, c.x.more, c.x.hd, c.x.out, fun p hp => k _ _ (c.x.empty p hp)⟩, c.da⟩⟩
theorem obsZ_eq {n : Nat} {fa : List Fa} {fn : List DefD} {ts : List Tab} {tf : List Defn} {da : List He5.DefA} {ex : PySem.W.Frag → Bool} {g : Addr → Option Obj} {s : Shared} (h : ∀ a, g a = s.heap.get? a) : obsZ n fa fn ts tf da ex g = (hookZ n fa fn ts tf da ex).obs s := by
  have e : g = s.heap.get? := funext h
  rw [e] <;> rfl
end
end KD

set_option maxHeartbeats 4000000
namespace KD
open PySem PySem.Spec PyProof.Rows L2
end KD

set_option maxHeartbeats 4000000
namespace KD
open PySem PySem.Spec PyProof.Rows L2
section
variable {X : Cx} {ct : Nat → Addr} {K : PySem.W.Frag}
def eqTD : D → D → Option Val
  | .tup l, .tup [] => some (.d (.bl l.isEmpty))
  | d, e => eqD d e
end
end KD

set_option maxHeartbeats 4000000
namespace KD
open PySem PySem.Spec PyProof.Rows L2
section
variable {X : Cx} {ct : Nat → Addr} {K : PySem.W.Frag}
end
end KD

set_option maxHeartbeats 4000000
namespace KD
open PySem PySem.Spec PyProof.Rows L2 PySem.SeqAt PySem.MeetsSeq
open AutoSeq1 (wpAny_loadPart')
section
variable {A : Around} {s : Shared}
end

section
variable {X : Cx} {ct : Nat → Addr} {K : PySem.W.Frag}
end
end KD

set_option maxHeartbeats 4000000
namespace KD
open PySem PySem.Spec PyProof.Rows L2
def eGuard (f C : EM) : EM := fun ε => match f ε with
  | some (.ex x, ε') => some (.ex x, ε')
  | _ => nex C ε
def eGuardP (i j : Nat) (f C : EM) : EM := fun ε => match f ε with
  | some (.ex x, ε') => if ((eVar i ε).isSome && (eVar j ε).isSome) = true then some (.ex x, ε') else none
  | _ => nex C ε
def sGuard (f : EM) (S : SM) : SM := fun ε => match f ε with
  | some (.ex x, ε') => some (.ex x ε')
  | _ => S ε
section
variable {K : PySem.W.Frag} {ct : Nat → Addr} {W : WX} {f C fb : EM}
end
section
variable {X : Cx} {ct : Nat → Addr} {W : WX} {f fb : EM}
end
end KD

set_option maxHeartbeats 4000000
namespace KD
open PySem PySem.Spec PyProof.Rows L2
section
variable {X : Cx}
end
section
variable {K : PySem.W.Frag} {ct : Nat → Addr}
end
end KD

set_option maxHeartbeats 4000000
namespace KD
open PySem PySem.Spec PyProof.Rows L2
section
variable {X : Cx} {ct : Nat → Addr}
end
end KD

set_option maxHeartbeats 4000000
namespace KD
open PySem PySem.Spec PyProof.Rows L2
section
variable {ct : Nat → Addr}
def gTL (n : Nat) (gs : GsM) : GM := fun d ε => match d with
  | .lst ds => if ds.length = n then gs ds ε else none
  | _ => none
end
@[simp] theorem gTL_l {n : Nat} {gs : GsM} {l : List D} {ε : SE} : gTL n gs (.lst l) ε = if l.length = n then gs l ε else none := id rfl
end KD

set_option maxHeartbeats 4000000
namespace KD
open PySem PySem.Spec PyProof.Rows L2
section
variable {X : Cx} {ct : Nat → Addr} {Γ : Gam} {K : PySem.W.Frag}
end
end KD

set_option maxHeartbeats 4000000
namespace KD
open PySem PySem.Spec PyProof.Rows L2
section
variable {ct : Nat → Addr}
theorem XRep.mu {K : PySem.W.Frag} {mu mu' : Nat → Option Addr} {n : Nat} (hm : ∀ k, k ≠ n → mu k = mu' k) {F : Hp} {cls : Value} {d : Option Addr} {x : D} (h : XRep ⟨K, ct, mu⟩ F cls d x) (q : noP n x = true) : XRep ⟨K, ct, mu'⟩ F cls d x := by
  cases x with
  | exc c ns ds => obtain ⟨e, vs, h1, h2, h3⟩ := h; exact ⟨e, vs, h1, h2, h3.mu hm q⟩
  | _ => exact h.elim
end
section
variable {X : Cx} {ct : Nat → Addr} {k n c : Nat} {f : Addr} {fd : FuncData} {ps ks : List Str} {fm : FM} {dvs : List V} {dd : List D} {ds : List Value} {E : XK} {x : Str} {p pos : Pos} {e : Expr} {es : List Expr} {kws : List Keyword} {fa fk : AM} {is : List Nat}
end
end KD

set_option maxHeartbeats 4000000
namespace KD
open PySem PySem.Spec PyProof.Rows L2
section
variable {X : Cx} {ct : Nat → Addr} {K : PySem.W.Frag}
end
end KD

set_option maxHeartbeats 4000000
namespace KD
open PySem PySem.Spec PyProof.Rows L2
section
variable {X : Cx} {ct : Nat → Addr} {K : PySem.W.Frag}
end
end KD

set_option maxHeartbeats 4000000
namespace KD
open PySem PySem.Spec PyProof.Rows L2
section
variable {X : Cx} {ct : Nat → Addr} {K : PySem.W.Frag}
end
end KD

set_option maxHeartbeats 4000000
namespace KD
open PySem PySem.Spec PyProof.Rows L2
section
variable {X : Cx} {CX : CXT} {ct : Nat → Addr} {k n c : Nat} {f C : Addr} {fd : FuncData} {ps : List Str} {sp : Sp} {fm : FM} {E : XK}
def truI (g : EM) : BM := fun ε => (g ε).bind fun r => match r.1 with | .d (.int i) => some (i != 0, r.2) | _ => none
@[simp] theorem truI_s {g : EM} {ε : SE} : truI g ε = (g ε).bind fun r => match r.1 with | .d (.int i) => some (i != 0, r.2) | _ => none := id rfl
end
section
variable {X : Cx} {ct : Nat → Addr} {k n c : Nat} {f : Addr} {fd : FuncData} {ps ks : List Str} {fm : FM} {E : XK} {nm : Str} {pos apos : Pos} {kws : List Keyword} {fk : AM} {is : List Nat}
end
end KD

set_option maxHeartbeats 4000000
namespace KD
open PySem PySem.Spec PyProof.Rows L2
section
variable {X : Cx} {ct : Nat → Addr} {W : WX}
end
end KD

set_option maxHeartbeats 4000000
namespace KD
open PySem PySem.Spec PyProof.Rows L2 LamX
section
variable {X : Cx} {x1 x2 x3 n : Str} {c1 c2 c3 : Value} {i kk : Nat} {body suite : List Stmt} {b₀ : Stmt} {p1 p2 p3 tp pos pos' : Pos} {tb : WX → TS} {ts : TS} {hrest : List ExceptHandler}
end
section
variable {X : Cx} {x1 n : Str} {c1 : Value} {i : Nat} {body suite : List Stmt} {b₀ : Stmt} {p1 pos pos' : Pos} {tb : WX → TS} {ts : TS} {hrest : List ExceptHandler}
end
section
variable {X : Cx} {ct : Nat → Addr} {Γ : Gam} {W : WX}
end
section
variable {X : Cx} {ct : Nat → Addr} {mu : Nat → Option Addr} {ow1 : OwF} {H1 : Hp} {f : Addr} {W : WX}
end
end KD

set_option maxHeartbeats 4000000
namespace KD
open PySem PySem.Spec PyProof.Rows L2
section
variable {P : Program} {w : World} {K : PySem.W.Frag} {mg : Str → Option Value} {base : Heap} {ct : Nat → Addr} {CX : CXT} {k n j : Nat} {f : Addr} {fd : FuncData} {ps : List Str} {fm : FM}
end
end KD

set_option maxHeartbeats 4000000
namespace KD
open PySem PySem.Spec PyProof.Rows L2
section
variable {X : Cx} {W : WX} {C fI : Addr} {k : Nat} {fd : FuncData} {ps : List Str} {sp : Sp} {dvs : List V} {ds : List Value} {x : Str} {p pos : Pos} {e : Expr} {es : List Expr} {t : TA}
end
end KD

set_option maxHeartbeats 4000000
namespace KD
open PySem PySem.Spec PyProof.Rows L2
section
variable {X : Cx} {ct : Nat → Addr} {n c : Nat} {fm : FM} {dvs : List V} {dd : List D} {E : XK} {m : Str} {pos apos : Pos} {o : Expr} {fo : EM}
end
end KD

set_option maxHeartbeats 4000000
namespace KD
open PySem PySem.Spec PyProof.Rows L2
section
variable {X : Cx} {ct : Nat → Addr} {K : PySem.W.Frag} {W : WX} {pos : Pos} {o : Expr} {f : Str} {to : TE}
def gFldR (c : Nat) (f : Str) (d : D) (v : Val) (ε : SE) : Option MO → Option SE
  | some (.ins c' ns ds) => if c' = c ∧ ns.length < 1000 ∧ ds.length = ns.length then some (put ε (.ins c' (putFD f d ns ds).1 (putFD f d ns ds).2) v) else none
  | _ => none
def gFldD (c : Nat) (f : Str) (fo : EM) : GM := fun d ε => (fzE fo ε).bind fun ro => gFldR c f d ro.1 ro.2 (tgt ro.2 ro.1)
@[simp] theorem gFldD_s {c : Nat} {fo : EM} {d : D} {ε : SE} : gFldD c f fo d ε = (fzE fo ε).bind fun ro => gFldR c f d ro.1 ro.2 (tgt ro.2 ro.1) := id rfl
end
end KD

set_option maxHeartbeats 4000000
namespace KD
open PySem PySem.Spec PyProof.Rows L2
section
variable {X : Cx} {ct : Nat → Addr} {K : PySem.W.Frag} {W : WX} {body : List Stmt} {f₀ : Stmt} {fs : List Stmt} {pos : Pos} {fb ff : SM}
end
end KD

set_option maxHeartbeats 4000000
namespace KD
open PySem PySem.Spec PyProof.Rows L2
open PySem.Froz (TxOk sObj addTx tailTx)
structure GotS (ks : List Str) (i : Nat) (L : List Str) : Prop where
  sub : ∀ p ∈ L, p ∈ ks.take i
  all : ∀ p ∈ ks.take i, p ∈ L
  len : L.length ≤ i
  nd : L.Nodup
theorem GotS.zero (ks : List Str) : GotS ks 0 [] := ⟨fun p h => (by cases h), fun p h => (by simp at h), Nat.le_refl _, List.nodup_nil⟩
theorem GotS.same {ks L : List Str} {i : Nat} {x : Str} (g : GotS ks i L) (h : ks[i]? = some x) (hm : x ∈ L) : GotS ks (i + 1) L := by
  refine ⟨fun p hp => ?_, fun p hp => ?_, Nat.le_succ_of_le g.len, g.nd⟩
  · rw [take_next h]
    exact List.mem_append_left _ (g.sub p hp)
  · rw [take_next h] at hp
    rcases List.mem_append.mp hp with z | z
    · exact g.all p z
    · rw [List.mem_singleton.mp z]; exact hm
theorem GotS.more {ks L : List Str} {i : Nat} {x : Str} (g : GotS ks i L) (h : ks[i]? = some x) (hn : x ∉ L) : GotS ks (i + 1) (x :: L) := by
  refine ⟨fun p hp => ?_, fun p hp => ?_, by rw [List.length_cons]; exact Nat.succ_le_succ g.len, List.nodup_cons.mpr ⟨hn, g.nd⟩⟩
  · rw [take_next h]
    rcases List.mem_cons.mp hp with e | z
    · rw [e]; exact List.mem_append_right _ (List.mem_singleton.mpr rfl)
    · exact List.mem_append_left _ (g.sub p z)
  · rw [take_next h] at hp
    rcases List.mem_append.mp hp with z | z
    · exact List.mem_cons_of_mem _ (g.all p z)
    · rw [List.mem_singleton.mp z]; exact List.mem_cons_self
structure TxR (P : Program) (w : World) (h : Heap) (a : Addr) (D : Array (Int × Value) × Nat × SetTable) (l : List Str) : Prop where
  ob : h.get? a = some (sObj "set" D)
  ok : TxOk P w D l
  ris : Ris D.2.2.place.toList
  led : w.params.followText "set-order" = true ∨ D.2.2.led = true
section
variable {P : Program} {w : World} {A : Around} {E : Value → Shared → Prop} {s : Shared}
theorem TxR.keep {h h' : Heap} {a : Addr} {D : Array (Int × Value) × Nat × SetTable} {l : List Str} (R : TxR P w h a D l) (k : ∀ o, h.get? a = some o → h'.get? a = some o) : TxR P w h' a D l := ⟨k _ R.ob, R.ok, R.ris, R.led⟩
end
end KD

set_option maxHeartbeats 4000000
namespace KD
open PySem PySem.Spec PyProof.Rows L2
open PySem.Froz (TxOk sObj addTx tailTx)
section
variable {P : Program} {w : World} {A : Around} {E : Value → Shared → Prop} {s : Shared}
set_option maxRecDepth 100000 in
set_option maxHeartbeats 3200000 in
end
end KD

set_option maxHeartbeats 4000000
namespace KD
open PySem PySem.Spec PyProof.Rows L2
open PySem.Froz (TxOk sObj addTx tailTx)
section
variable {w : World} {A : Around} {E : Value → Shared → Prop} {s : Shared}
end
end KD

set_option maxHeartbeats 4000000
namespace KD
open PySem PySem.Spec PyProof.Rows L2
section
variable {X : Cx} {ct : Nat → Addr} {Γ : Gam} {K : PySem.W.Frag}
end
end KD

set_option maxHeartbeats 4000000
namespace KD
open PySem PySem.Spec PyProof.Rows L2
section
variable {X : Cx} {ct : Nat → Addr} {Γ : Gam}
end
end KD

set_option maxHeartbeats 4000000
namespace KD
open PySem PySem.Spec PyProof.Rows L2
section
variable {X : Cx} {ct : Nat → Addr} {K : PySem.W.Frag}
end
end KD

set_option maxHeartbeats 4000000
namespace KD
open PySem PySem.Spec PyProof.Rows L2
section
variable {X : Cx} {ct : Nat → Addr} {K : PySem.W.Frag}
end
end KD

set_option maxHeartbeats 4000000
namespace KD
open PySem PySem.Spec PyProof.Rows L2
section
variable {X : Cx} {ct : Nat → Addr} {d : Addr} {es : Array DictEntry} {n : Nat} {ty tx : TE}
end
end KD

set_option maxHeartbeats 4000000
namespace KD
open PySem PySem.Spec PyProof.Rows L2
section
variable {X : Cx} {ct : Nat → Addr}
theorem pe_mk {e : Expr} {tx : L2.St → Hp → XK → Prop} (he : PMk X e tx) : PE X e (fun σ H Q => tx σ H fun cls d H' => ∃ C, cls = .ref C ∧ ∀ a, H' a = none → Q (.ref a) (upd H' a (xob a C d))) := by
  refine ⟨fun pins s σ H Q I h => wpAny_mono (he pins s σ H _ I h) (fun u s1 hu => ?_) (fun _ _ x => x)⟩
  obtain ⟨a, oe, vs, sI, H', cls, d, rfl, J, k, hne, ha, hz, hd, h1, na, os, ag, r, C, rfl, q⟩ := hu
  have new : ObjOk X.prog X.w (upd H' a (xob a C d)) s1.heap a (xob a C d) := ⟨⟨oe, ha, hz, vs, hd⟩, ⟨oe, ha⟩, fun g1 g2 ⟨u, q1, q2⟩ k => ⟨u, k _ q1, q2⟩⟩
  have nfr : a ∉ frs X.stack := fun hm => by
    obtain ⟨_, u', e', _⟩ := J.stack.mem hm
    rw [hne] at e'; cases e'
  exact ⟨.ref a, upd H' a (xob a C d), inv_land J (fun b u e _ => e) hne nfr na k (Heap.UpToSlots.of_keeps k) os ag new, rfl, q a na⟩
def eExc1 (c : Nat) (f : Str) (fe : EM) : EM := fun ε => (escE fe ε).map fun r => (.d (.exc c [f] [r.1]), r.2)
def eExc0 (c : Nat) : EM := fun ε => some (.d (.exc c [] []), ε)
theorem de_exc1 {c : Nat} {f : Str} {fe : EM} {e : Expr} (he : PMk X e (tMk1 (ct c) f (tA X.K ct (aCons fe aNil)))) : PE X e (tE X.K ct (eExc1 c f fe)) :=
  (pe_mk he).imp fun σ H Q ⟨mu, ow, ε, val, ε', S, hf, k⟩ => by
    unfold eExc1 at hf
    cases e1 : escE fe ε with
    | none => simp [e1] at hf
    | some r =>
      simp only [e1, Option.map_some, Option.some.injEq, Prod.mk.injEq] at hf
      obtain ⟨rfl, rfl⟩ := hf
      refine tA_one e1 S fun v H1 ow1 S1 fr1 r1 => ⟨v, rfl, fun d hd => ⟨ct c, rfl, fun a ha => ?_⟩⟩
      obtain ⟨S2, fr2⟩ := S1.alloc (o := .xd [(f, v)]) hd none
      obtain ⟨S3, fr3⟩ := S2.alloc (o := xob a (ct c) (some d)) ha none
      have x1 : XFs (cut (upd H1 d (.xd [(f, v)])) (setO ow1 d none)) [f] [v] (some d) := cut_mk setO_same upd_same
      exact k (.ref a) _ _ S3 (fr1.trans (fr2.trans fr3)) (.exc (cut_mk setO_same upd_same) (x1.mono fr3.sub) rfl (.one ((r1.mono fr2.sub).mono fr3.sub)))
theorem de_exc0 {c : Nat} {e : Expr} (he : PMk X e (fun _ H Q => Q (.ref (ct c)) none H)) : PE X e (tE X.K ct (eExc0 c)) :=
  (pe_mk he).imp fun σ H Q ⟨mu, ow, ε, val, ε', S, hf, k⟩ => by
    cases hf
    refine ⟨ct c, rfl, fun a ha => ?_⟩
    obtain ⟨S2, fr2⟩ := S.alloc (o := xob a (ct c) none) ha none
    exact k (.ref a) _ _ S2 fr2 (.exc (cut_mk setO_same upd_same) rfl rfl .nil)
end
end KD

set_option maxHeartbeats 4000000
namespace PySem
namespace HandSPX
open Builtin Builtin.ObjectAttr
section
variable {M : Model} {A : Around} {E : Value → Shared → Prop} {h : Heap} {g : Array GenState} {d : Drawn} {t : Nat} {os : OsState}
variable {nm q : Str} {C N : Addr} {bs bm bmB : List Value} {hdct : Bool} {sn : List Str} {sub : List Value} {ab : Bool} {col : Option Bool} {dd : Option Addr} {k0 k1 k2 k3 k5 : Option Value} {B newId initId : String}
theorem check_new_name (F : ExcBaseFacts B newId initId bmB) (hT : ∀ X : String, bm.contains (.type X) = bmB.contains (.type X)) {f : Str} {y : Value} {Q : Unit → Shared → Prop}
    (hC : h.get? C = some (excClassObj nm q C N bs bm hdct sn sub ab col dd k0 k1 k2 k3 k5 newId)) (hq : Q () ⟨h, g, d, t, os⟩) : wpAny M A (checkBuiltinCall newId ⟨[.ref C], [(f, y)]⟩) Q E ⟨h, g, d, t, os⟩ := by
  have hcont : (Value.ref C :: bm).contains (.type B) = true := by rw [List.contains_cons, hT, F.hasB, Bool.or_true]
  have hstar := F.noStar
  simp only [checkBuiltinCall, F.newKind, F.newSplit, F.newRow]
  repeat (first | refine wpAny_loadPart_at hC ?_ | (refine wpAny_isSubtype_exc hC ?_; rw [hcont]) | refine wpAny_staticBase_exc hC ?_ | refine wpAny_madeBy_exc hC ?_ | simp only [bne_self_eq_false, Bool.false_eq_true, if_false] | wp_step)
  exact hq
end
section
variable {prog : Program} {w : World} {A : Around} {E : Value → Shared → Prop} {R : Result → Shared → Prop} {h : Heap} {g : Array GenState} {d : Drawn} {t : Nat} {os : OsState}
variable {nm q : Str} {C N : Addr} {bs bm bmB : List Value} {hdct : Bool} {sn : List Str} {sub : List Value} {ab : Bool} {col : Option Bool} {dd : Option Addr} {k0 k1 k2 k3 k5 : Option Value} {B newId initId : String}
theorem new_name (F : ExcBaseFacts B newId initId bmB) (hT : ∀ X : String, bm.contains (.type X) = bmB.contains (.type X)) {kw : List (Str × Value)}
    (hC : h.get? C = some (excClassObj nm q C N bs bm hdct sn sub ab col dd k0 k1 k2 k3 k5 newId))
    (hq : R (.ok (.ret (.ref (h.objs.size + 1)))) ⟨(h.push { cls := .type "tuple", data := .seq ([] : List Value).toArray }).push
      { cls := .ref C, data := .fields #[.ref h.objs.size, .none, .none, .none, .bool false, .none] }, g, d, t, os⟩) :
    codeAny (model prog w) A (.builtin newId ⟨[.ref C], kw⟩) R ⟨h, g, d, t, os⟩ := by
  have hends := F.ends
  have hrest : ([] : List Value).length ≤ sizeLine := Nat.zero_le _
  have hcB : (Value.ref C :: bm).contains (.type B) = true := by rw [List.contains_cons, hT, F.hasB, Bool.or_true]
  have hcA : (Value.ref C :: bm).contains (.type "AttributeError") = false := by rw [List.contains_cons, hT, F.noAttr]; rfl
  have hcN : (Value.ref C :: bm).contains (.type "NameError") = false := by rw [List.contains_cons, hT, F.noName]; rfl
  refine codeAny_builtinAt F.entry ?_
  unfold Builtin.«BaseException.__new__»
  refine wpAt_bind ?_
  show wpAt _ _ _ (stack >>= _) _ _ _
  refine wpAt_bind (wpAt_stack fun p below => wpAt_of_wpAny ?_)
  wp_walk
  refine wpAt_of_wpAny ?_
  rw [F.owner]
  repeat (first | with_reducible refine wpAny_madeHere_exc F.canon hC ?_ | with_reducible refine wpAny_loadPart_at hC ?_ | (with_reducible refine wpAny_isSubtype_exc hC ?_; first | rw [hcB] | rw [hcA] | rw [hcN]) | wp_step)
  show R _ _
  rw [Heap.size_push]
  exact hq
theorem type_call_name (F : ExcBaseFacts B newId initId bmB) (hT : ∀ X : String, bm.contains (.type X) = bmB.contains (.type X)) {f : Str} {y : Value} {fI : Addr} {Q : Fin → Shared → Prop}
    (hC : h.get? C = some (excClassObj nm q C N bs bm hdct sn sub ab col dd k0 k1 k2 k3 k5 newId))
    (hi : W.Looks (model prog w) h (typeLookup (.ref C) "__init__") (some (.ref fI))) (hb : ∀ self, W.Looks (model prog w) h (bindSpecial (.ref fI) self) (.ref fI, [self]))
    (hq : codeAny (model prog w) A (.call (.ref fI) ⟨[.ref (h.objs.size + 1)], [(f, y)]⟩)
      (fun r s' => match r with | .ok (.ret v) => v = .none ∧ Q (.done (.ret (.ref (h.objs.size + 1)))) s' | .ok _ => False | .error e => E e s')
      ⟨(h.push (W.kdv_tup [])).push (excO C h.objs.size), g, d, t, os⟩) :
    wpAny (model prog w) A (Builtin.«type.__call__» ⟨[.ref C], [(f, y)]⟩) Q E ⟨h, g, d, t, os⟩ := by
  repeat (first | with_reducible refine wpAny_loadPart_at hC ?_ | with_reducible refine wpAny_madeBy_exc hC ?_ | wp_step)
  refine codeAny_call_builtin_code (Code.quiet_builtin _ F.quiet) (check_new_name F hT hC ?_)
  refine new_name F hT hC ?_
  show wpAny _ _ _ _ _ _
  have k : ∀ b o, h.get? b = some o → ((h.push (W.kdv_tup [])).push (excO C h.objs.size)).get? b = some o := fun b o e => Heap.get?_push_of_some _ (Heap.get?_push_of_some _ e)
  have hC₁ := k _ _ hC
  have hget : ((h.push (W.kdv_tup [])).push (excO C h.objs.size)).get? (h.objs.size + 1) = some (excO C h.objs.size) := by heap_get
  have hcC : (Value.ref C :: bm).contains (.ref C) = true := by simp
  have i1 := hi.keeps k
  have b1 := (hb (.ref (h.objs.size + 1))).keeps k
  unfold isInstance
  repeat (first | with_reducible refine wpAny_loadPart_at hget ?_ | (with_reducible refine wpAny_isSubtype_exc hC₁ ?_; rw [hcC]) | wp_step)
  show wpAny _ _ (typeLookup (.ref C) _) _ _ _
  refine i1.at ?_
  refine wpAny_holding (wpAny_bind (b1.at ?_))
  refine wpAny_bind (wpAny_call (codeAny_mono hq fun r s' z => ?_))
  rcases r with e | (v | _ | _ | _) <;> first | exact z | exact z.elim | skip
  obtain ⟨rfl, z⟩ := z
  first
    | exact wpAny_pure (wpAny_pure z)
    | (wp_walk; exact z)
theorem call_name (F : ExcBaseFacts B newId initId bmB) (hT : ∀ X : String, bm.contains (.type X) = bmB.contains (.type X)) {f : Str} {y : Value} {fI : Addr}
    (hC : h.get? C = some (excClassObj nm q C N bs bm hdct sn sub ab col dd k0 k1 k2 k3 k5 newId))
    (hi : W.Looks (model prog w) h (typeLookup (.ref C) "__init__") (some (.ref fI))) (hb : ∀ self, W.Looks (model prog w) h (bindSpecial (.ref fI) self) (.ref fI, [self]))
    (hq : codeAny (model prog w) (A.under (.builtin "type.__call__" ⟨[.ref C], [(f, y)]⟩)) (.call (.ref fI) ⟨[.ref (h.objs.size + 1)], [(f, y)]⟩) (W.InitBack (h.objs.size + 1) R)
      ⟨(h.push (W.kdv_tup [])).push (excO C h.objs.size), g, d, t, os⟩) :
    codeAny (model prog w) A (.call (.ref C) ⟨[], [(f, y)]⟩) R ⟨h, g, d, t, os⟩ := by
  have f1 := tc_lookup
  have f2 := tc_bind (.ref C)
  have hTy : (⟨h, g, d, t, os⟩ : Shared).TypeIs (.ref C) "type" := ⟨_, hC, rfl⟩
  refine codeAny_of_tree ?_
  show wpAny _ _ (callAny (.ref C) _) _ _ _
  repeat (any_goals (first | assumption | with_reducible refine wpAny_loadPart_at hC ?_ | wp_step))
  refine ⟨rfl, ?_⟩
  refine codeAny_call_builtin_at (Code.quiet_builtin _ (by decide +kernel)) entry_typeCall (wpAny_check_type_call_sub hC (type_call_name F hT hC hi hb ?_))
  refine codeAny_mono hq fun r s' z => ?_
  rcases r with e | (v | _ | _ | _) <;> exact z
end
end HandSPX
end PySem

set_option maxHeartbeats 4000000
namespace KD
open PySem PySem.Spec PyProof.Rows L2
section
variable {X : Cx} {C fI : Addr} {tl : List Value} {B nw it : String} {x f pf : Str} {k : Nat} {fd : FuncData} {ps : List Str} {kws : List Keyword} {tk : TA} {p pos : Pos}
theorem pmkN (F : BaseX tl B nw it) (T : ExK X.K C tl nw) (iC : PySem.W.findIn X.K (.ref C) "__init__" = some (some (.ref fI))) (tI : PySem.W.typeIn X.K (.ref fI) = some (.type "function")) (F1 : FnOk X.prog X.w X.K X.mg X.base CX0 k fI fd ps (spI C f))
    (hr : Room (k + 1) X.A) (hb : KBn X.K fd ps 1 [pf] (fun us ws => us ++ ws) (fun vs zs => vs ++ zs)) (hm : X.mg x = some (.ref C)) (hkw : PK X kws tk) (hg : Gl X x) (hdb : (x == ("__debug__" : Str)) = false)
    (hall : (backToKw pos (keywordEach kws X.env)).all (·.1.isSome) = true := by rfl) (hks : (backToKw pos (keywordEach kws X.env)).filterMap (·.1) = [pf] := by rfl)
    (hpl : ((backTo pos (starEach [] X.env)).any (·.1) || (backToKw pos (keywordEach kws X.env)).any (·.1.isNone)) = false := by rfl) :
    PMk X (.Call (.Name x p) [] kws pos) (tMk1 C f tk) := fun pins s σ H Q I h => by
  refine wpAny_Call_Name_kw (ld_glob I hg hm ?_ hdb)
  refine PySem.W.callWith_KW0 (h₀ := X.base) I.ok.mod.kin T.kp hall ?_ hpl
  refine thn (hkw.run pos pins s σ H _ I h) fun ws s1 ⟨zs, H1, I1, rz, y, ev, q1⟩ => ⟨I1.kIn, ?_⟩
  subst ev
  rw [hks]
  obtain ⟨u, rfl⟩ : ∃ u, ws = [u] := by
    have hl := rz.length
    match ws, hl with
    | [u], _ => exact ⟨u, rfl⟩
  obtain ⟨nm, q, N, bs, bm, sn, sub, ab, col, dd, k0, k1, k2, k3, k5, hC, hbm⟩ := T.cls
  show wpAny _ _ (call (.ref C) [] [(pf, u)]) _ _ _
  obtain ⟨hp, g, dr, tk, os⟩ := s1
  have le : hp.objs.size ≤ hp.objs.size + 1 := Nat.le_succ _
  have n1 : H1 (hp.objs.size + 1) = none := I1.hok.fresh le
  have kk : ∀ b o, hp.get? b = some o → ((hp.push (PySem.W.kdv_tup [])).push (PySem.HandSPX.excO C hp.objs.size)).get? b = some o := fun b o z => Heap.get?_push_of_some _ (Heap.get?_push_of_some _ z)
  have new : ((hp.push (PySem.W.kdv_tup [])).push (PySem.HandSPX.excO C hp.objs.size)).get? (hp.objs.size + 1) = some (PySem.HandSPX.excO C hp.objs.size) := by heap_get
  have I2 := I1.laid (t' := tk) (a := hp.objs.size + 1) (o := exo (hp.objs.size + 1) C none) (h' := (hp.push (PySem.W.kdv_tup [])).push (PySem.HandSPX.excO C hp.objs.size)) kk le (exo_ok new)
  have hsp : spI C f [.ref (hp.objs.size + 1), y] (upd H1 (hp.objs.size + 1) (exo (hp.objs.size + 1) C none)) (fun v H2 => v = .non ∧ ∃ d, H1 d = none ∧ d ≠ hp.objs.size + 1 ∧ H2 = upd (upd (upd H1 (hp.objs.size + 1) (exo (hp.objs.size + 1) C none)) d (exd d [(f, y)])) (hp.objs.size + 1) (exo (hp.objs.size + 1) C (some d))) (fun _ _ _ => False) :=
    ⟨_, y, rfl, upd_same, fun d hd ne => ⟨rfl, d, by rw [upd_ne ne] at hd; exact hd, ne, rfl⟩⟩
  have r2 : Vals [V.ref (hp.objs.size + 1), y] [Value.ref (hp.objs.size + 1), u] := .cons rfl rz
  have bi := hb.to _ [Value.ref (hp.objs.size + 1)] [u] I2.kIn rfl rfl
  refine wpAny_call (PySem.HandSPX.call_name F.eb (fun Y => upTo_has Y bm hbm) (I1.kIn _ _ hC) (PySem.W.looks_findIn I1.kIn iC) (fun self => PySem.W.bind_fn I1.kIn self tI) (codeAny_mono (F1.run _ X.stack _ _ ⟨[Value.ref (hp.objs.size + 1)], [(pf, u)]⟩ _ _ _ _ (hr.make C [] [(pf, u)]) (I2.env0.make C [] [(pf, u)]) bi r2 hsp) fun r s' hq => ?_))
  match r, hq with
  | .ok (.ret u), ⟨v, H2, os2, bare2, un2, hok2, rv, ev, d, hd, ne, eH⟩ =>
    subst ev
    subst eH
    obtain ⟨h2, g2, d2, t2, os'⟩ := s'
    refine ⟨rv, mk_end (Q := Q) (raises_own T.ex T.ty) I1 le kk un2 hok2 os2 bare2 upd_same (by rw [upd_ne ne, upd_same]) hd ?_⟩
    rw [upd_del n1 ne]
    exact q1 d hd
end
end KD
namespace KD
open PySem PySem.Spec PyProof.Rows L2
theorem kbe_of {K : PySem.W.Frag} {fd : FuncData} {ps ks : List Str} (h1 : ks.length = 1) (h : KB K fd ps 1 ks [0, 1] [] []) : KBn K fd ps 1 ks (fun us ws => us ++ ws) (fun vs zs => vs ++ zs) :=
  ⟨fun s us ws X l1 l2 => by
    have q := h.to s us ws X l1 l2
    match us, ws, l1, l2.trans h1 with
    | [a], [b], _, _ => exact q, fun r1 r2 => r1.append r2⟩
end KD

set_option maxHeartbeats 4000000
namespace KD
open PySem PySem.Spec PyProof.Rows L2
section
variable {X : Cx} {ct : Nat → Addr}
end
end KD

set_option maxHeartbeats 4000000
namespace L23
open PySem PySem.Spec PyProof.Rows L2 KD
def top (i : Nat) : Stmt := PySem.Challenge.pw_kempemoves_k23_errors_made.main.body.getD i (.Pass ⟨0, 0, 0, 0⟩)
def ctOf (K : PySem.W.Frag) : Nat → Addr
  | 21 => He.ga K "InvalidPlaces"
  | 22 => He.ga K "InvalidTies"
  | 23 => He.ga K "InvalidText"
  | 24 => He.ga K "InvalidColours"
  | 25 => He.ga K "InvalidColouring"
  | 26 => He.ga K "InvalidArray"
  | 27 => He.ga K "InvalidLot"
  | 28 => He.ga K "InvalidSeen"
  | 29 => He.ga K "InvalidDeeds"
  | 30 => He.ga K "InvalidPromise"
  | 31 => He.ga K "InvalidIndex"
  | 32 => He.ga K "InvalidLine"
  | 33 => He.ga K "NotAWeb"
  | 35 => He.ga K "UnknownPlace"
  | 36 => He.ga K "UnknownTie"
  | 37 => He.ga K "UnknownColour"
  | 38 => He.ga K "NoColouring"
  | 39 => He.ga K "Refused"
  | 40 => He.ga K "Busy"
  | 41 => He.ga K "NothingToUndo"
  | 42 => He.ga K "Broken"
  | 44 => He.ga K "TooMany"
  | _ => 0
abbrev s_l_draw : Stmt := top 28
def d_l_draw : He.DefD := ⟨("_law_draw", none), "_law_draw", "_law_draw", defArgs s_l_draw, defBody s_l_draw, defScope s_l_draw, [], []⟩
theorem sc_l_draw : FnScope ["_law_bag_here", "_law_wide", "_law_kept", "_law_times", "_law_figure"] ["_law_bag_here", "_law_wide"] (defScope s_l_draw) := ⟨rfl, rfl, rfl, by decide +kernel, rfl, by decide +kernel, by decide +kernel⟩
abbrev s_l_one : Stmt := top 29
def d_l_one : He.DefD := ⟨("_law_one", none), "_law_one", "_law_one", defArgs s_l_one, defBody s_l_one, defScope s_l_one, [], []⟩
theorem sc_l_one : FnScope ["_law_bag_here", "_law_some"] ["_law_bag_here", "_law_some"] (defScope s_l_one) := ⟨rfl, rfl, rfl, by decide +kernel, rfl, by decide +kernel, by decide +kernel⟩
abbrev s_l_made_ones : Stmt := top 30
def d_l_made_ones : He.DefD := ⟨("_law_made_ones", none), "_law_made_ones", "_law_made_ones", defArgs s_l_made_ones, defBody s_l_made_ones, defScope s_l_made_ones, [], []⟩
theorem sc_l_made_ones : FnScope ["_law_thing", "_law_found"] ["_law_thing"] (defScope s_l_made_ones) := ⟨rfl, rfl, rfl, by decide +kernel, rfl, by decide +kernel, by decide +kernel⟩
abbrev s_l_bases : Stmt := top 33
def d_l_bases : He.DefD := ⟨("_law_bases", none), "_law_bases", "_law_bases", defArgs s_l_bases, defBody s_l_bases, defScope s_l_bases, [], []⟩
theorem sc_l_bases : FnScope ["_law_e", "_law_found"] ["_law_e"] (defScope s_l_bases) := ⟨rfl, rfl, rfl, by decide +kernel, rfl, by decide +kernel, by decide +kernel⟩
abbrev s_l_kind_of : Stmt := top 31
def d_l_kind_of : He.DefD := ⟨("_law_kind_of", none), "_law_kind_of", "_law_kind_of", defArgs s_l_kind_of, defBody s_l_kind_of, defScope s_l_kind_of, [], []⟩
theorem sc_l_kind_of : FnScope ["_law_e", "_law_found"] ["_law_e"] (defScope s_l_kind_of) := ⟨rfl, rfl, rfl, by decide +kernel, rfl, by decide +kernel, by decide +kernel⟩
abbrev s_l_attribute : Stmt := top 32
def d_l_attribute : He.DefD := ⟨("_law_attribute", none), "_law_attribute", "_law_attribute", defArgs s_l_attribute, defBody s_l_attribute, defScope s_l_attribute, [], []⟩
theorem sc_l_attribute : FnScope ["_law_e", "_law_at"] ["_law_e", "_law_at"] (defScope s_l_attribute) := ⟨rfl, rfl, rfl, by decide +kernel, rfl, by decide +kernel, by decide +kernel⟩
abbrev s_l_right_v22 : Stmt := top 34
def d_l_right_v22 : He.DefD := ⟨("_law_right", none), "_law_right", "_law_right", defArgs s_l_right_v22, defBody s_l_right_v22, defScope s_l_right_v22, [], []⟩
theorem sc_l_right_v22 : FnScope ["_law_bag_here", "_law_turn", "_law_some", "_law_thing", "_law_made", "_law_k", "_law_found", "_law_due", "_law_e", "_law_which", "_law_at", "_law_j"] ["_law_bag_here"] (defScope s_l_right_v22) := ⟨rfl, rfl, rfl, by decide +kernel, rfl, by decide +kernel, by decide +kernel⟩
abbrev s_l_bag : Stmt := top 27
def d_l_bag : He.DefD := ⟨("_law_bag", none), "_law_bag", "_law_bag", defArgs s_l_bag, defBody s_l_bag, defScope s_l_bag, [], []⟩
theorem sc_l_bag : FnScope ["_law_script", "_law_k", "_law_this", "_law_held_signs", "_law_held_cell", "_law_seed"] ["_law_script", "_law_k"] (defScope s_l_bag) := ⟨rfl, rfl, rfl, by decide +kernel, rfl, by decide +kernel, by decide +kernel⟩
abbrev s_law_v22 : Stmt := top 35
def d_law_v22 : He.DefD := ⟨("law", none), "law", "law", defArgs s_law_v22, defBody s_law_v22, defScope s_law_v22, [], []⟩
theorem sc_law_v22 : FnScope ["_law_script", "_law_k"] ["_law_script"] (defScope s_law_v22) := ⟨rfl, rfl, rfl, by decide +kernel, rfl, by decide +kernel, by decide +kernel⟩
abbrev s_InvalidColours_init : Stmt := inClass (top 5) 0
def d_InvalidColours_init : He.DefD := ⟨("InvalidColours", some "__init__"), "__init__", "InvalidColours.__init__", defArgs s_InvalidColours_init, defBody s_InvalidColours_init, defScope s_InvalidColours_init, [], []⟩
theorem sc_InvalidColours_init : FnScope ["self", "value"] ["self", "value"] (defScope s_InvalidColours_init) := ⟨rfl, rfl, rfl, by decide +kernel, rfl, by decide +kernel, by decide +kernel⟩
abbrev s_InvalidText_init : Stmt := inClass (top 4) 0
def d_InvalidText_init : He.DefD := ⟨("InvalidText", some "__init__"), "__init__", "InvalidText.__init__", defArgs s_InvalidText_init, defBody s_InvalidText_init, defScope s_InvalidText_init, [], []⟩
theorem sc_InvalidText_init : FnScope ["self", "value"] ["self", "value"] (defScope s_InvalidText_init) := ⟨rfl, rfl, rfl, by decide +kernel, rfl, by decide +kernel, by decide +kernel⟩
abbrev s_InvalidTies_init : Stmt := inClass (top 3) 0
def d_InvalidTies_init : He.DefD := ⟨("InvalidTies", some "__init__"), "__init__", "InvalidTies.__init__", defArgs s_InvalidTies_init, defBody s_InvalidTies_init, defScope s_InvalidTies_init, [], []⟩
theorem sc_InvalidTies_init : FnScope ["self", "index"] ["self", "index"] (defScope s_InvalidTies_init) := ⟨rfl, rfl, rfl, by decide +kernel, rfl, by decide +kernel, by decide +kernel⟩
abbrev s_InvalidPlaces_init : Stmt := inClass (top 2) 0
def d_InvalidPlaces_init : He.DefD := ⟨("InvalidPlaces", some "__init__"), "__init__", "InvalidPlaces.__init__", defArgs s_InvalidPlaces_init, defBody s_InvalidPlaces_init, defScope s_InvalidPlaces_init, [], []⟩
theorem sc_InvalidPlaces_init : FnScope ["self", "index"] ["self", "index"] (defScope s_InvalidPlaces_init) := ⟨rfl, rfl, rfl, by decide +kernel, rfl, by decide +kernel, by decide +kernel⟩
abbrev s_InvalidSeen_init : Stmt := inClass (top 9) 0
def d_InvalidSeen_init : He.DefD := ⟨("InvalidSeen", some "__init__"), "__init__", "InvalidSeen.__init__", defArgs s_InvalidSeen_init, defBody s_InvalidSeen_init, defScope s_InvalidSeen_init, [], []⟩
theorem sc_InvalidSeen_init : FnScope ["self", "index"] ["self", "index"] (defScope s_InvalidSeen_init) := ⟨rfl, rfl, rfl, by decide +kernel, rfl, by decide +kernel, by decide +kernel⟩
abbrev s_InvalidLot_init : Stmt := inClass (top 8) 0
def d_InvalidLot_init : He.DefD := ⟨("InvalidLot", some "__init__"), "__init__", "InvalidLot.__init__", defArgs s_InvalidLot_init, defBody s_InvalidLot_init, defScope s_InvalidLot_init, [], []⟩
theorem sc_InvalidLot_init : FnScope ["self", "index"] ["self", "index"] (defScope s_InvalidLot_init) := ⟨rfl, rfl, rfl, by decide +kernel, rfl, by decide +kernel, by decide +kernel⟩
abbrev s_InvalidArray_init : Stmt := inClass (top 7) 0
def d_InvalidArray_init : He.DefD := ⟨("InvalidArray", some "__init__"), "__init__", "InvalidArray.__init__", defArgs s_InvalidArray_init, defBody s_InvalidArray_init, defScope s_InvalidArray_init, [], []⟩
theorem sc_InvalidArray_init : FnScope ["self", "index"] ["self", "index"] (defScope s_InvalidArray_init) := ⟨rfl, rfl, rfl, by decide +kernel, rfl, by decide +kernel, by decide +kernel⟩
abbrev s_InvalidColouring_init : Stmt := inClass (top 6) 0
def d_InvalidColouring_init : He.DefD := ⟨("InvalidColouring", some "__init__"), "__init__", "InvalidColouring.__init__", defArgs s_InvalidColouring_init, defBody s_InvalidColouring_init, defScope s_InvalidColouring_init, [], []⟩
theorem sc_InvalidColouring_init : FnScope ["self", "value"] ["self", "value"] (defScope s_InvalidColouring_init) := ⟨rfl, rfl, rfl, by decide +kernel, rfl, by decide +kernel, by decide +kernel⟩
abbrev s_InvalidLine_init : Stmt := inClass (top 13) 0
def d_InvalidLine_init : He.DefD := ⟨("InvalidLine", some "__init__"), "__init__", "InvalidLine.__init__", defArgs s_InvalidLine_init, defBody s_InvalidLine_init, defScope s_InvalidLine_init, [], []⟩
theorem sc_InvalidLine_init : FnScope ["self", "value"] ["self", "value"] (defScope s_InvalidLine_init) := ⟨rfl, rfl, rfl, by decide +kernel, rfl, by decide +kernel, by decide +kernel⟩
abbrev s_InvalidIndex_init : Stmt := inClass (top 12) 0
def d_InvalidIndex_init : He.DefD := ⟨("InvalidIndex", some "__init__"), "__init__", "InvalidIndex.__init__", defArgs s_InvalidIndex_init, defBody s_InvalidIndex_init, defScope s_InvalidIndex_init, [], []⟩
theorem sc_InvalidIndex_init : FnScope ["self", "value"] ["self", "value"] (defScope s_InvalidIndex_init) := ⟨rfl, rfl, rfl, by decide +kernel, rfl, by decide +kernel, by decide +kernel⟩
abbrev s_InvalidPromise_init : Stmt := inClass (top 11) 0
def d_InvalidPromise_init : He.DefD := ⟨("InvalidPromise", some "__init__"), "__init__", "InvalidPromise.__init__", defArgs s_InvalidPromise_init, defBody s_InvalidPromise_init, defScope s_InvalidPromise_init, [], []⟩
theorem sc_InvalidPromise_init : FnScope ["self", "value"] ["self", "value"] (defScope s_InvalidPromise_init) := ⟨rfl, rfl, rfl, by decide +kernel, rfl, by decide +kernel, by decide +kernel⟩
abbrev s_InvalidDeeds_init : Stmt := inClass (top 10) 0
def d_InvalidDeeds_init : He.DefD := ⟨("InvalidDeeds", some "__init__"), "__init__", "InvalidDeeds.__init__", defArgs s_InvalidDeeds_init, defBody s_InvalidDeeds_init, defScope s_InvalidDeeds_init, [], []⟩
theorem sc_InvalidDeeds_init : FnScope ["self", "index"] ["self", "index"] (defScope s_InvalidDeeds_init) := ⟨rfl, rfl, rfl, by decide +kernel, rfl, by decide +kernel, by decide +kernel⟩
abbrev s_UnknownColour_init : Stmt := inClass (top 18) 0
def d_UnknownColour_init : He.DefD := ⟨("UnknownColour", some "__init__"), "__init__", "UnknownColour.__init__", defArgs s_UnknownColour_init, defBody s_UnknownColour_init, defScope s_UnknownColour_init, [], []⟩
theorem sc_UnknownColour_init : FnScope ["self", "value"] ["self", "value"] (defScope s_UnknownColour_init) := ⟨rfl, rfl, rfl, by decide +kernel, rfl, by decide +kernel, by decide +kernel⟩
abbrev s_UnknownTie_init : Stmt := inClass (top 17) 0
def d_UnknownTie_init : He.DefD := ⟨("UnknownTie", some "__init__"), "__init__", "UnknownTie.__init__", defArgs s_UnknownTie_init, defBody s_UnknownTie_init, defScope s_UnknownTie_init, [], []⟩
theorem sc_UnknownTie_init : FnScope ["self", "value"] ["self", "value"] (defScope s_UnknownTie_init) := ⟨rfl, rfl, rfl, by decide +kernel, rfl, by decide +kernel, by decide +kernel⟩
abbrev s_UnknownPlace_init : Stmt := inClass (top 16) 0
def d_UnknownPlace_init : He.DefD := ⟨("UnknownPlace", some "__init__"), "__init__", "UnknownPlace.__init__", defArgs s_UnknownPlace_init, defBody s_UnknownPlace_init, defScope s_UnknownPlace_init, [], []⟩
theorem sc_UnknownPlace_init : FnScope ["self", "value"] ["self", "value"] (defScope s_UnknownPlace_init) := ⟨rfl, rfl, rfl, by decide +kernel, rfl, by decide +kernel, by decide +kernel⟩
abbrev s_NotAWeb_init : Stmt := inClass (top 14) 0
def d_NotAWeb_init : He.DefD := ⟨("NotAWeb", some "__init__"), "__init__", "NotAWeb.__init__", defArgs s_NotAWeb_init, defBody s_NotAWeb_init, defScope s_NotAWeb_init, [], []⟩
theorem sc_NotAWeb_init : FnScope ["self", "value"] ["self", "value"] (defScope s_NotAWeb_init) := ⟨rfl, rfl, rfl, by decide +kernel, rfl, by decide +kernel, by decide +kernel⟩
abbrev s_TooMany_init : Stmt := inClass (top 25) 0
def d_TooMany_init : He.DefD := ⟨("TooMany", some "__init__"), "__init__", "TooMany.__init__", defArgs s_TooMany_init, defBody s_TooMany_init, defScope s_TooMany_init, [], []⟩
theorem sc_TooMany_init : FnScope ["self", "limit"] ["self", "limit"] (defScope s_TooMany_init) := ⟨rfl, rfl, rfl, by decide +kernel, rfl, by decide +kernel, by decide +kernel⟩
abbrev s_Broken_init : Stmt := inClass (top 23) 0
def d_Broken_init : He.DefD := ⟨("Broken", some "__init__"), "__init__", "Broken.__init__", defArgs s_Broken_init, defBody s_Broken_init, defScope s_Broken_init, [], []⟩
theorem sc_Broken_init : FnScope ["self", "index"] ["self", "index"] (defScope s_Broken_init) := ⟨rfl, rfl, rfl, by decide +kernel, rfl, by decide +kernel, by decide +kernel⟩
abbrev s_Refused_init : Stmt := inClass (top 20) 0
def d_Refused_init : He.DefD := ⟨("Refused", some "__init__"), "__init__", "Refused.__init__", defArgs s_Refused_init, defBody s_Refused_init, defScope s_Refused_init, [], []⟩
theorem sc_Refused_init : FnScope ["self", "value"] ["self", "value"] (defScope s_Refused_init) := ⟨rfl, rfl, rfl, by decide +kernel, rfl, by decide +kernel, by decide +kernel⟩
def da : List He5.DefA := []
def fn : List He.DefD := ([d_l_draw, d_l_one, d_l_made_ones, d_l_bases, d_l_kind_of, d_l_attribute, d_l_right_v22, d_l_bag, d_law_v22, d_InvalidColours_init, d_InvalidText_init, d_InvalidTies_init] : List He.DefD) ++ ([d_InvalidPlaces_init, d_InvalidSeen_init, d_InvalidLot_init, d_InvalidArray_init, d_InvalidColouring_init, d_InvalidLine_init, d_InvalidIndex_init, d_InvalidPromise_init, d_InvalidDeeds_init, d_UnknownColour_init, d_UnknownTie_init, d_UnknownPlace_init] : List He.DefD) ++ ([d_NotAWeb_init, d_TooMany_init, d_Broken_init, d_Refused_init] : List He.DefD)
def fa : List He.Fa := ([.free "len", .free "min", .free "max", .free "range", .free "int", .glo "_law_draw", .glo "_law_one", .glo "InvalidColours", .glo "InvalidText", .glo "InvalidTies", .glo "InvalidPlaces", .glo "InvalidSeen"] : List He.Fa) ++ ([.glo "InvalidLot", .glo "InvalidArray", .glo "InvalidColouring", .glo "InvalidLine", .glo "InvalidIndex", .glo "InvalidPromise", .glo "InvalidDeeds", .glo "UnknownColour", .glo "UnknownTie", .glo "UnknownPlace", .glo "NotAWeb", .glo "TooMany"] : List He.Fa) ++ ([.glo "Broken", .glo "Refused", .glo "_law_made_ones", .free "isinstance", .glo "SizeError", .glo "QuestionError", .glo "ShapeError", .free "ArithmeticError", .free "LookupError", .free "ValueError", .glo "_law_bases", .glo "_law_kind_of"] : List He.Fa) ++ ([.glo "_law_attribute", .free "repr", .glo "NothingToUndo", .glo "Busy", .glo "NoColouring", .free "enumerate", .glo "_law_right", .free "abs", .glo "_law_bag", .free "all", .glo "law"] : List He.Fa)
abbrev xs_ : List Str := ["InvalidPlaces", "InvalidTies", "InvalidText", "InvalidColours", "InvalidColouring", "InvalidArray", "InvalidLot", "InvalidSeen", "InvalidDeeds", "InvalidPromise", "InvalidIndex", "InvalidLine", "NotAWeb", "UnknownPlace", "UnknownTie", "UnknownColour", "NoColouring", "Refused", "Busy", "NothingToUndo", "Broken", "TooMany"]
abbrev ns_ : List Nat := [21, 22, 23, 24, 25, 26, 27, 28, 29, 30, 31, 32, 33, 35, 36, 37, 38, 39, 40, 41, 42, 44]
def exs : List (PySem.W.Frag → Bool) := [fun K => exkB K "InvalidColours" tlVE "ValueError.__new__" "value", fun K => exkB K "InvalidText" tlVE "ValueError.__new__" "value", fun K => exkB K "InvalidTies" tlVE "ValueError.__new__" "index", fun K => exkB K "InvalidPlaces" tlVE "ValueError.__new__" "index", fun K => exkB K "InvalidSeen" tlVE "ValueError.__new__" "index", fun K => exkB K "InvalidLot" tlVE "ValueError.__new__" "index", fun K => exkB K "InvalidArray" tlVE "ValueError.__new__" "index", fun K => exkB K "InvalidColouring" tlVE "ValueError.__new__" "value", fun K => exkB K "InvalidLine" tlVE "ValueError.__new__" "value", fun K => exkB K "InvalidIndex" tlVE "ValueError.__new__" "value", fun K => exkB K "InvalidPromise" tlVE "ValueError.__new__" "value", fun K => exkB K "InvalidDeeds" tlVE "ValueError.__new__" "index", fun K => exkB K "UnknownColour" tlLE "LookupError.__new__" "value", fun K => exkB K "UnknownTie" tlLE "LookupError.__new__" "value", fun K => exkB K "UnknownPlace" tlLE "LookupError.__new__" "value", fun K => exkB K "NotAWeb" tlVE "ValueError.__new__" "value", fun K => exkB K "TooMany" tlAE "ArithmeticError.__new__" "limit", fun K => exkB K "Broken" tlLE "LookupError.__new__" "index", fun K => exkB K "Refused" tlLE "LookupError.__new__" "value", sysB, fun K => exnB K "NothingToUndo" tlLE "LookupError.__new__", fun K => exnB K "Busy" tlLE "LookupError.__new__", fun K => exnB K "NoColouring" tlLE "LookupError.__new__", fun K => exasB K xs_, fun K => kitsB K (.ref (He.ga K "SizeError")) (xs_.zip [false, false, false, false, false, false, false, false, false, false, false, false, false, false, false, false, false, false, false, false, false, true]), fun K => kitsB K (.ref (He.ga K "QuestionError")) (xs_.zip [false, false, false, false, false, false, false, false, false, false, false, false, false, true, true, true, true, true, true, true, true, false]), fun K => kitsB K (.ref (He.ga K "ShapeError")) (xs_.zip [true, true, true, true, true, true, true, true, true, true, true, true, true, false, false, false, false, false, false, false, false, false]), fun K => kitsB K (.type "ArithmeticError") (xs_.zip [false, false, false, false, false, false, false, false, false, false, false, false, false, false, false, false, false, false, false, false, false, true]), fun K => kitsB K (.type "LookupError") (xs_.zip [false, false, false, false, false, false, false, false, false, false, false, false, false, true, true, true, true, true, true, true, true, false]), fun K => kitsB K (.type "ValueError") (xs_.zip [true, true, true, true, true, true, true, true, true, true, true, true, true, false, false, false, false, false, false, false, false, false]), fun K => kitsB K (.ref (He.ga K "InvalidText")) (xs_.zip [false, false, true, false, false, false, false, false, false, false, false, false, false, false, false, false, false, false, false, false, false, false]), fun K => kitsB K (.ref (He.ga K "InvalidTies")) (xs_.zip [false, true, false, false, false, false, false, false, false, false, false, false, false, false, false, false, false, false, false, false, false, false]), fun K => kitsB K (.ref (He.ga K "InvalidPlaces")) (xs_.zip [true, false, false, false, false, false, false, false, false, false, false, false, false, false, false, false, false, false, false, false, false, false]), fun K => kitsB K (.ref (He.ga K "InvalidColouring")) (xs_.zip [false, false, false, false, true, false, false, false, false, false, false, false, false, false, false, false, false, false, false, false, false, false]), fun K => kitsB K (.ref (He.ga K "InvalidColours")) (xs_.zip [false, false, false, true, false, false, false, false, false, false, false, false, false, false, false, false, false, false, false, false, false, false]), fun K => kitsB K (.ref (He.ga K "InvalidSeen")) (xs_.zip [false, false, false, false, false, false, false, true, false, false, false, false, false, false, false, false, false, false, false, false, false, false]), fun K => kitsB K (.ref (He.ga K "InvalidLot")) (xs_.zip [false, false, false, false, false, false, true, false, false, false, false, false, false, false, false, false, false, false, false, false, false, false]), fun K => kitsB K (.ref (He.ga K "InvalidArray")) (xs_.zip [false, false, false, false, false, true, false, false, false, false, false, false, false, false, false, false, false, false, false, false, false, false]), fun K => kitsB K (.ref (He.ga K "InvalidPromise")) (xs_.zip [false, false, false, false, false, false, false, false, false, true, false, false, false, false, false, false, false, false, false, false, false, false]), fun K => kitsB K (.ref (He.ga K "InvalidDeeds")) (xs_.zip [false, false, false, false, false, false, false, false, true, false, false, false, false, false, false, false, false, false, false, false, false, false]), fun K => kitsB K (.ref (He.ga K "NotAWeb")) (xs_.zip [false, false, false, false, false, false, false, false, false, false, false, false, true, false, false, false, false, false, false, false, false, false]), fun K => kitsB K (.ref (He.ga K "InvalidLine")) (xs_.zip [false, false, false, false, false, false, false, false, false, false, false, true, false, false, false, false, false, false, false, false, false, false]), fun K => kitsB K (.ref (He.ga K "InvalidIndex")) (xs_.zip [false, false, false, false, false, false, false, false, false, false, true, false, false, false, false, false, false, false, false, false, false, false]), fun K => kitsB K (.ref (He.ga K "UnknownColour")) (xs_.zip [false, false, false, false, false, false, false, false, false, false, false, false, false, false, false, true, false, false, false, false, false, false]), fun K => kitsB K (.ref (He.ga K "UnknownTie")) (xs_.zip [false, false, false, false, false, false, false, false, false, false, false, false, false, false, true, false, false, false, false, false, false, false]), fun K => kitsB K (.ref (He.ga K "UnknownPlace")) (xs_.zip [false, false, false, false, false, false, false, false, false, false, false, false, false, true, false, false, false, false, false, false, false, false]), fun K => kitsB K (.ref (He.ga K "TooMany")) (xs_.zip [false, false, false, false, false, false, false, false, false, false, false, false, false, false, false, false, false, false, false, false, false, true]), fun K => kitsB K (.ref (He.ga K "Broken")) (xs_.zip [false, false, false, false, false, false, false, false, false, false, false, false, false, false, false, false, false, false, false, false, true, false]), fun K => kitsB K (.ref (He.ga K "Refused")) (xs_.zip [false, false, false, false, false, false, false, false, false, false, false, false, false, false, false, false, false, true, false, false, false, false]), fun K => kitsB K (.ref (He.ga K "NothingToUndo")) (xs_.zip [false, false, false, false, false, false, false, false, false, false, false, false, false, false, false, false, false, false, false, true, false, false]), fun K => kitsB K (.ref (He.ga K "Busy")) (xs_.zip [false, false, false, false, false, false, false, false, false, false, false, false, false, false, false, false, false, false, true, false, false, false]), fun K => kitsB K (.ref (He.ga K "NoColouring")) (xs_.zip [false, false, false, false, false, false, false, false, false, false, false, false, false, false, false, false, true, false, false, false, false, false]), fun K => exasB K ["InvalidPlaces", "InvalidTies", "InvalidArray", "InvalidLot", "InvalidSeen", "InvalidDeeds", "Broken"], fun K => nofB K "index" ["InvalidPlaces", "InvalidTies", "InvalidArray", "InvalidLot", "InvalidSeen", "InvalidDeeds", "Broken"], fun K => exasB K ["TooMany"], fun K => nofB K "limit" ["TooMany"], fun K => exasB K ["InvalidText", "InvalidColours", "InvalidColouring", "InvalidPromise", "InvalidIndex", "InvalidLine", "NotAWeb", "UnknownPlace", "UnknownTie", "UnknownColour", "Refused"], fun K => nofB K "value" ["InvalidText", "InvalidColours", "InvalidColouring", "InvalidPromise", "InvalidIndex", "InvalidLine", "NotAWeb", "UnknownPlace", "UnknownTie", "UnknownColour", "Refused"]]
def exB (K : PySem.W.Frag) : Bool := exs.all fun f => f K
end L23

set_option maxHeartbeats 0
namespace L23
open PySem PySem.Spec PyProof.Rows L2 KD
abbrev R : PySem.W.OpenRow := PySem.W.OpenLaw.row PySem.Challenge.rw_kempemoves_k23_errors_made
abbrev hk : PySem.W.Hook := hookZ 5 fa fn [] [] da exB
def ob (s : PySem.W.SharedT) : AlY := obsZ 5 fa fn [] [] da exB (HandSHeadRun.getT s)
theorem ob_eq (s : PySem.W.SharedT) : ob s = hk.obs s.abs := obsZ_eq (HandSHeadRun.getT_eq s)
def names : List PySem.Str := (["ShapeError", "InvalidPlaces", "InvalidTies", "InvalidText", "InvalidColours", "InvalidColouring", "InvalidArray", "InvalidLot", "InvalidSeen", "InvalidDeeds", "InvalidPromise", "InvalidIndex"] : List PySem.Str) ++ (["InvalidLine", "NotAWeb", "QuestionError", "UnknownPlace", "UnknownTie", "UnknownColour", "NoColouring", "Refused", "Busy", "NothingToUndo", "Broken", "SizeError"] : List PySem.Str) ++ (["TooMany", "_law_bag", "_law_draw", "_law_one", "_law_made_ones", "_law_kind_of", "_law_attribute", "_law_bases", "_law_right"] : List PySem.Str)
theorem run (w : World) : HandSHeadRun.RunEq R (PySem.W.view R.prog [35]) hk ob 20000 names w := by
  intro os
  kernel_rfl
end L23

set_option maxHeartbeats 4000000
namespace KD
open PySem PySem.Spec PyProof.Rows L2
def Fit (n : Nat) : Prop := n < 16777216
def FitE (n : Nat) : Prop := n ≤ 16777216
theorem fit {n : Nat} (h : n < 1000000) : Fit n := Nat.lt_trans h (by decide)
theorem fitE {n : Nat} (h : n < 1000000) : FitE n := Nat.le_of_lt (Nat.lt_trans h (by decide))
@[simp] theorem fit_0 : Fit 0 := fit (by decide)
@[simp] theorem fitE_0 : FitE 0 := fitE (by decide)
@[simp] theorem fit_1 : Fit 1 := fit (by decide)
@[simp] theorem fitE_1 : FitE 1 := fitE (by decide)
@[simp] theorem fit_2 : Fit 2 := fit (by decide)
@[simp] theorem fitE_2 : FitE 2 := fitE (by decide)
@[simp] theorem fit_3 : Fit 3 := fit (by decide)
@[simp] theorem fitE_3 : FitE 3 := fitE (by decide)
@[simp] theorem fit_4 : Fit 4 := fit (by decide)
@[simp] theorem fitE_4 : FitE 4 := fitE (by decide)
@[simp] theorem fit_5 : Fit 5 := fit (by decide)
@[simp] theorem fitE_5 : FitE 5 := fitE (by decide)
@[simp] theorem fit_6 : Fit 6 := fit (by decide)
@[simp] theorem fitE_6 : FitE 6 := fitE (by decide)
@[simp] theorem fit_7 : Fit 7 := fit (by decide)
@[simp] theorem fitE_7 : FitE 7 := fitE (by decide)
@[simp] theorem fit_8 : Fit 8 := fit (by decide)
@[simp] theorem fitE_8 : FitE 8 := fitE (by decide)
@[simp] theorem fit_9 : Fit 9 := fit (by decide)
@[simp] theorem fitE_9 : FitE 9 := fitE (by decide)
@[simp] theorem fit_10 : Fit 10 := fit (by decide)
@[simp] theorem fitE_10 : FitE 10 := fitE (by decide)
@[simp] theorem fit_11 : Fit 11 := fit (by decide)
@[simp] theorem fitE_11 : FitE 11 := fitE (by decide)
@[simp] theorem fit_12 : Fit 12 := fit (by decide)
@[simp] theorem fitE_12 : FitE 12 := fitE (by decide)
@[simp] theorem fit_13 : Fit 13 := fit (by decide)
@[simp] theorem fitE_13 : FitE 13 := fitE (by decide)
@[simp] theorem fit_14 : Fit 14 := fit (by decide)
@[simp] theorem fitE_14 : FitE 14 := fitE (by decide)
@[simp] theorem fit_15 : Fit 15 := fit (by decide)
@[simp] theorem fitE_15 : FitE 15 := fitE (by decide)
@[simp] theorem fit_16 : Fit 16 := fit (by decide)
@[simp] theorem fitE_16 : FitE 16 := fitE (by decide)
@[simp] theorem fit_17 : Fit 17 := fit (by decide)
@[simp] theorem fitE_17 : FitE 17 := fitE (by decide)
@[simp] theorem fit_18 : Fit 18 := fit (by decide)
@[simp] theorem fitE_18 : FitE 18 := fitE (by decide)
@[simp] theorem fit_19 : Fit 19 := fit (by decide)
@[simp] theorem fitE_19 : FitE 19 := fitE (by decide)
@[simp] theorem fit_20 : Fit 20 := fit (by decide)
@[simp] theorem fitE_20 : FitE 20 := fitE (by decide)
@[simp] theorem fit_21 : Fit 21 := fit (by decide)
@[simp] theorem fitE_21 : FitE 21 := fitE (by decide)
@[simp] theorem fit_22 : Fit 22 := fit (by decide)
@[simp] theorem fitE_22 : FitE 22 := fitE (by decide)
@[simp] theorem fit_23 : Fit 23 := fit (by decide)
@[simp] theorem fitE_23 : FitE 23 := fitE (by decide)
@[simp] theorem fit_24 : Fit 24 := fit (by decide)
@[simp] theorem fitE_24 : FitE 24 := fitE (by decide)
@[simp] theorem fit_25 : Fit 25 := fit (by decide)
@[simp] theorem fitE_25 : FitE 25 := fitE (by decide)
@[simp] theorem fit_26 : Fit 26 := fit (by decide)
@[simp] theorem fitE_26 : FitE 26 := fitE (by decide)
@[simp] theorem fit_27 : Fit 27 := fit (by decide)
@[simp] theorem fitE_27 : FitE 27 := fitE (by decide)
@[simp] theorem fit_28 : Fit 28 := fit (by decide)
@[simp] theorem fitE_28 : FitE 28 := fitE (by decide)
@[simp] theorem fit_29 : Fit 29 := fit (by decide)
@[simp] theorem fitE_29 : FitE 29 := fitE (by decide)
@[simp] theorem fit_30 : Fit 30 := fit (by decide)
@[simp] theorem fitE_30 : FitE 30 := fitE (by decide)
@[simp] theorem fit_31 : Fit 31 := fit (by decide)
@[simp] theorem fitE_31 : FitE 31 := fitE (by decide)
@[simp] theorem fit_32 : Fit 32 := fit (by decide)
@[simp] theorem fitE_32 : FitE 32 := fitE (by decide)
def nth {α : Type} (l : List α) (i : Nat) : Option α := l[i]?
def setN {α : Type} (l : List α) (i : Nat) (x : α) : List α := l.set i x
@[simp] theorem nth_0 {α : Type} { x : α} {l : List α} : nth (x :: l) 0 = some x := id rfl
@[simp] theorem setN_0 {α : Type} { x y : α} {l : List α} : setN (x :: l) 0 y = y :: l := id rfl
@[simp] theorem nth_1 {α : Type} {a0 x : α} {l : List α} : nth (a0 :: x :: l) 1 = some x := id rfl
@[simp] theorem setN_1 {α : Type} {a0 x y : α} {l : List α} : setN (a0 :: x :: l) 1 y = a0 :: y :: l := id rfl
@[simp] theorem nth_2 {α : Type} {a0 a1 x : α} {l : List α} : nth (a0 :: a1 :: x :: l) 2 = some x := id rfl
@[simp] theorem setN_2 {α : Type} {a0 a1 x y : α} {l : List α} : setN (a0 :: a1 :: x :: l) 2 y = a0 :: a1 :: y :: l := id rfl
@[simp] theorem nth_3 {α : Type} {a0 a1 a2 x : α} {l : List α} : nth (a0 :: a1 :: a2 :: x :: l) 3 = some x := id rfl
@[simp] theorem setN_3 {α : Type} {a0 a1 a2 x y : α} {l : List α} : setN (a0 :: a1 :: a2 :: x :: l) 3 y = a0 :: a1 :: a2 :: y :: l := id rfl
@[simp] theorem nth_4 {α : Type} {a0 a1 a2 a3 x : α} {l : List α} : nth (a0 :: a1 :: a2 :: a3 :: x :: l) 4 = some x := id rfl
@[simp] theorem setN_4 {α : Type} {a0 a1 a2 a3 x y : α} {l : List α} : setN (a0 :: a1 :: a2 :: a3 :: x :: l) 4 y = a0 :: a1 :: a2 :: a3 :: y :: l := id rfl
@[simp] theorem nth_5 {α : Type} {a0 a1 a2 a3 a4 x : α} {l : List α} : nth (a0 :: a1 :: a2 :: a3 :: a4 :: x :: l) 5 = some x := id rfl
@[simp] theorem setN_5 {α : Type} {a0 a1 a2 a3 a4 x y : α} {l : List α} : setN (a0 :: a1 :: a2 :: a3 :: a4 :: x :: l) 5 y = a0 :: a1 :: a2 :: a3 :: a4 :: y :: l := id rfl
@[simp] theorem nth_6 {α : Type} {a0 a1 a2 a3 a4 a5 x : α} {l : List α} : nth (a0 :: a1 :: a2 :: a3 :: a4 :: a5 :: x :: l) 6 = some x := id rfl
@[simp] theorem setN_6 {α : Type} {a0 a1 a2 a3 a4 a5 x y : α} {l : List α} : setN (a0 :: a1 :: a2 :: a3 :: a4 :: a5 :: x :: l) 6 y = a0 :: a1 :: a2 :: a3 :: a4 :: a5 :: y :: l := id rfl
@[simp] theorem nth_7 {α : Type} {a0 a1 a2 a3 a4 a5 a6 x : α} {l : List α} : nth (a0 :: a1 :: a2 :: a3 :: a4 :: a5 :: a6 :: x :: l) 7 = some x := id rfl
@[simp] theorem setN_7 {α : Type} {a0 a1 a2 a3 a4 a5 a6 x y : α} {l : List α} : setN (a0 :: a1 :: a2 :: a3 :: a4 :: a5 :: a6 :: x :: l) 7 y = a0 :: a1 :: a2 :: a3 :: a4 :: a5 :: a6 :: y :: l := id rfl
@[simp] theorem nth_8 {α : Type} {a0 a1 a2 a3 a4 a5 a6 a7 x : α} {l : List α} : nth (a0 :: a1 :: a2 :: a3 :: a4 :: a5 :: a6 :: a7 :: x :: l) 8 = some x := id rfl
@[simp] theorem setN_8 {α : Type} {a0 a1 a2 a3 a4 a5 a6 a7 x y : α} {l : List α} : setN (a0 :: a1 :: a2 :: a3 :: a4 :: a5 :: a6 :: a7 :: x :: l) 8 y = a0 :: a1 :: a2 :: a3 :: a4 :: a5 :: a6 :: a7 :: y :: l := id rfl
@[simp] theorem nth_9 {α : Type} {a0 a1 a2 a3 a4 a5 a6 a7 a8 x : α} {l : List α} : nth (a0 :: a1 :: a2 :: a3 :: a4 :: a5 :: a6 :: a7 :: a8 :: x :: l) 9 = some x := id rfl
@[simp] theorem setN_9 {α : Type} {a0 a1 a2 a3 a4 a5 a6 a7 a8 x y : α} {l : List α} : setN (a0 :: a1 :: a2 :: a3 :: a4 :: a5 :: a6 :: a7 :: a8 :: x :: l) 9 y = a0 :: a1 :: a2 :: a3 :: a4 :: a5 :: a6 :: a7 :: a8 :: y :: l := id rfl
@[simp] theorem nth_10 {α : Type} {a0 a1 a2 a3 a4 a5 a6 a7 a8 a9 x : α} {l : List α} : nth (a0 :: a1 :: a2 :: a3 :: a4 :: a5 :: a6 :: a7 :: a8 :: a9 :: x :: l) 10 = some x := id rfl
@[simp] theorem setN_10 {α : Type} {a0 a1 a2 a3 a4 a5 a6 a7 a8 a9 x y : α} {l : List α} : setN (a0 :: a1 :: a2 :: a3 :: a4 :: a5 :: a6 :: a7 :: a8 :: a9 :: x :: l) 10 y = a0 :: a1 :: a2 :: a3 :: a4 :: a5 :: a6 :: a7 :: a8 :: a9 :: y :: l := id rfl
@[simp] theorem nth_11 {α : Type} {a0 a1 a2 a3 a4 a5 a6 a7 a8 a9 a10 x : α} {l : List α} : nth (a0 :: a1 :: a2 :: a3 :: a4 :: a5 :: a6 :: a7 :: a8 :: a9 :: a10 :: x :: l) 11 = some x := id rfl
@[simp] theorem setN_11 {α : Type} {a0 a1 a2 a3 a4 a5 a6 a7 a8 a9 a10 x y : α} {l : List α} : setN (a0 :: a1 :: a2 :: a3 :: a4 :: a5 :: a6 :: a7 :: a8 :: a9 :: a10 :: x :: l) 11 y = a0 :: a1 :: a2 :: a3 :: a4 :: a5 :: a6 :: a7 :: a8 :: a9 :: a10 :: y :: l := id rfl
@[simp] theorem nth_12 {α : Type} {a0 a1 a2 a3 a4 a5 a6 a7 a8 a9 a10 a11 x : α} {l : List α} : nth (a0 :: a1 :: a2 :: a3 :: a4 :: a5 :: a6 :: a7 :: a8 :: a9 :: a10 :: a11 :: x :: l) 12 = some x := id rfl
@[simp] theorem setN_12 {α : Type} {a0 a1 a2 a3 a4 a5 a6 a7 a8 a9 a10 a11 x y : α} {l : List α} : setN (a0 :: a1 :: a2 :: a3 :: a4 :: a5 :: a6 :: a7 :: a8 :: a9 :: a10 :: a11 :: x :: l) 12 y = a0 :: a1 :: a2 :: a3 :: a4 :: a5 :: a6 :: a7 :: a8 :: a9 :: a10 :: a11 :: y :: l := id rfl
@[simp] theorem nth_13 {α : Type} {a0 a1 a2 a3 a4 a5 a6 a7 a8 a9 a10 a11 a12 x : α} {l : List α} : nth (a0 :: a1 :: a2 :: a3 :: a4 :: a5 :: a6 :: a7 :: a8 :: a9 :: a10 :: a11 :: a12 :: x :: l) 13 = some x := id rfl
@[simp] theorem setN_13 {α : Type} {a0 a1 a2 a3 a4 a5 a6 a7 a8 a9 a10 a11 a12 x y : α} {l : List α} : setN (a0 :: a1 :: a2 :: a3 :: a4 :: a5 :: a6 :: a7 :: a8 :: a9 :: a10 :: a11 :: a12 :: x :: l) 13 y = a0 :: a1 :: a2 :: a3 :: a4 :: a5 :: a6 :: a7 :: a8 :: a9 :: a10 :: a11 :: a12 :: y :: l := id rfl
@[simp] theorem nth_14 {α : Type} {a0 a1 a2 a3 a4 a5 a6 a7 a8 a9 a10 a11 a12 a13 x : α} {l : List α} : nth (a0 :: a1 :: a2 :: a3 :: a4 :: a5 :: a6 :: a7 :: a8 :: a9 :: a10 :: a11 :: a12 :: a13 :: x :: l) 14 = some x := id rfl
@[simp] theorem setN_14 {α : Type} {a0 a1 a2 a3 a4 a5 a6 a7 a8 a9 a10 a11 a12 a13 x y : α} {l : List α} : setN (a0 :: a1 :: a2 :: a3 :: a4 :: a5 :: a6 :: a7 :: a8 :: a9 :: a10 :: a11 :: a12 :: a13 :: x :: l) 14 y = a0 :: a1 :: a2 :: a3 :: a4 :: a5 :: a6 :: a7 :: a8 :: a9 :: a10 :: a11 :: a12 :: a13 :: y :: l := id rfl
@[simp] theorem nth_15 {α : Type} {a0 a1 a2 a3 a4 a5 a6 a7 a8 a9 a10 a11 a12 a13 a14 x : α} {l : List α} : nth (a0 :: a1 :: a2 :: a3 :: a4 :: a5 :: a6 :: a7 :: a8 :: a9 :: a10 :: a11 :: a12 :: a13 :: a14 :: x :: l) 15 = some x := id rfl
@[simp] theorem setN_15 {α : Type} {a0 a1 a2 a3 a4 a5 a6 a7 a8 a9 a10 a11 a12 a13 a14 x y : α} {l : List α} : setN (a0 :: a1 :: a2 :: a3 :: a4 :: a5 :: a6 :: a7 :: a8 :: a9 :: a10 :: a11 :: a12 :: a13 :: a14 :: x :: l) 15 y = a0 :: a1 :: a2 :: a3 :: a4 :: a5 :: a6 :: a7 :: a8 :: a9 :: a10 :: a11 :: a12 :: a13 :: a14 :: y :: l := id rfl
@[simp] theorem nth_16 {α : Type} {a0 a1 a2 a3 a4 a5 a6 a7 a8 a9 a10 a11 a12 a13 a14 a15 x : α} {l : List α} : nth (a0 :: a1 :: a2 :: a3 :: a4 :: a5 :: a6 :: a7 :: a8 :: a9 :: a10 :: a11 :: a12 :: a13 :: a14 :: a15 :: x :: l) 16 = some x := id rfl
@[simp] theorem setN_16 {α : Type} {a0 a1 a2 a3 a4 a5 a6 a7 a8 a9 a10 a11 a12 a13 a14 a15 x y : α} {l : List α} : setN (a0 :: a1 :: a2 :: a3 :: a4 :: a5 :: a6 :: a7 :: a8 :: a9 :: a10 :: a11 :: a12 :: a13 :: a14 :: a15 :: x :: l) 16 y = a0 :: a1 :: a2 :: a3 :: a4 :: a5 :: a6 :: a7 :: a8 :: a9 :: a10 :: a11 :: a12 :: a13 :: a14 :: a15 :: y :: l := id rfl
@[simp] theorem nth_17 {α : Type} {a0 a1 a2 a3 a4 a5 a6 a7 a8 a9 a10 a11 a12 a13 a14 a15 a16 x : α} {l : List α} : nth (a0 :: a1 :: a2 :: a3 :: a4 :: a5 :: a6 :: a7 :: a8 :: a9 :: a10 :: a11 :: a12 :: a13 :: a14 :: a15 :: a16 :: x :: l) 17 = some x := id rfl
@[simp] theorem setN_17 {α : Type} {a0 a1 a2 a3 a4 a5 a6 a7 a8 a9 a10 a11 a12 a13 a14 a15 a16 x y : α} {l : List α} : setN (a0 :: a1 :: a2 :: a3 :: a4 :: a5 :: a6 :: a7 :: a8 :: a9 :: a10 :: a11 :: a12 :: a13 :: a14 :: a15 :: a16 :: x :: l) 17 y = a0 :: a1 :: a2 :: a3 :: a4 :: a5 :: a6 :: a7 :: a8 :: a9 :: a10 :: a11 :: a12 :: a13 :: a14 :: a15 :: a16 :: y :: l := id rfl
@[simp] theorem nth_18 {α : Type} {a0 a1 a2 a3 a4 a5 a6 a7 a8 a9 a10 a11 a12 a13 a14 a15 a16 a17 x : α} {l : List α} : nth (a0 :: a1 :: a2 :: a3 :: a4 :: a5 :: a6 :: a7 :: a8 :: a9 :: a10 :: a11 :: a12 :: a13 :: a14 :: a15 :: a16 :: a17 :: x :: l) 18 = some x := id rfl
@[simp] theorem setN_18 {α : Type} {a0 a1 a2 a3 a4 a5 a6 a7 a8 a9 a10 a11 a12 a13 a14 a15 a16 a17 x y : α} {l : List α} : setN (a0 :: a1 :: a2 :: a3 :: a4 :: a5 :: a6 :: a7 :: a8 :: a9 :: a10 :: a11 :: a12 :: a13 :: a14 :: a15 :: a16 :: a17 :: x :: l) 18 y = a0 :: a1 :: a2 :: a3 :: a4 :: a5 :: a6 :: a7 :: a8 :: a9 :: a10 :: a11 :: a12 :: a13 :: a14 :: a15 :: a16 :: a17 :: y :: l := id rfl
@[simp] theorem nth_19 {α : Type} {a0 a1 a2 a3 a4 a5 a6 a7 a8 a9 a10 a11 a12 a13 a14 a15 a16 a17 a18 x : α} {l : List α} : nth (a0 :: a1 :: a2 :: a3 :: a4 :: a5 :: a6 :: a7 :: a8 :: a9 :: a10 :: a11 :: a12 :: a13 :: a14 :: a15 :: a16 :: a17 :: a18 :: x :: l) 19 = some x := id rfl
@[simp] theorem setN_19 {α : Type} {a0 a1 a2 a3 a4 a5 a6 a7 a8 a9 a10 a11 a12 a13 a14 a15 a16 a17 a18 x y : α} {l : List α} : setN (a0 :: a1 :: a2 :: a3 :: a4 :: a5 :: a6 :: a7 :: a8 :: a9 :: a10 :: a11 :: a12 :: a13 :: a14 :: a15 :: a16 :: a17 :: a18 :: x :: l) 19 y = a0 :: a1 :: a2 :: a3 :: a4 :: a5 :: a6 :: a7 :: a8 :: a9 :: a10 :: a11 :: a12 :: a13 :: a14 :: a15 :: a16 :: a17 :: a18 :: y :: l := id rfl
@[simp] theorem nth_20 {α : Type} {a0 a1 a2 a3 a4 a5 a6 a7 a8 a9 a10 a11 a12 a13 a14 a15 a16 a17 a18 a19 x : α} {l : List α} : nth (a0 :: a1 :: a2 :: a3 :: a4 :: a5 :: a6 :: a7 :: a8 :: a9 :: a10 :: a11 :: a12 :: a13 :: a14 :: a15 :: a16 :: a17 :: a18 :: a19 :: x :: l) 20 = some x := id rfl
@[simp] theorem setN_20 {α : Type} {a0 a1 a2 a3 a4 a5 a6 a7 a8 a9 a10 a11 a12 a13 a14 a15 a16 a17 a18 a19 x y : α} {l : List α} : setN (a0 :: a1 :: a2 :: a3 :: a4 :: a5 :: a6 :: a7 :: a8 :: a9 :: a10 :: a11 :: a12 :: a13 :: a14 :: a15 :: a16 :: a17 :: a18 :: a19 :: x :: l) 20 y = a0 :: a1 :: a2 :: a3 :: a4 :: a5 :: a6 :: a7 :: a8 :: a9 :: a10 :: a11 :: a12 :: a13 :: a14 :: a15 :: a16 :: a17 :: a18 :: a19 :: y :: l := id rfl
@[simp] theorem nth_21 {α : Type} {a0 a1 a2 a3 a4 a5 a6 a7 a8 a9 a10 a11 a12 a13 a14 a15 a16 a17 a18 a19 a20 x : α} {l : List α} : nth (a0 :: a1 :: a2 :: a3 :: a4 :: a5 :: a6 :: a7 :: a8 :: a9 :: a10 :: a11 :: a12 :: a13 :: a14 :: a15 :: a16 :: a17 :: a18 :: a19 :: a20 :: x :: l) 21 = some x := id rfl
@[simp] theorem setN_21 {α : Type} {a0 a1 a2 a3 a4 a5 a6 a7 a8 a9 a10 a11 a12 a13 a14 a15 a16 a17 a18 a19 a20 x y : α} {l : List α} : setN (a0 :: a1 :: a2 :: a3 :: a4 :: a5 :: a6 :: a7 :: a8 :: a9 :: a10 :: a11 :: a12 :: a13 :: a14 :: a15 :: a16 :: a17 :: a18 :: a19 :: a20 :: x :: l) 21 y = a0 :: a1 :: a2 :: a3 :: a4 :: a5 :: a6 :: a7 :: a8 :: a9 :: a10 :: a11 :: a12 :: a13 :: a14 :: a15 :: a16 :: a17 :: a18 :: a19 :: a20 :: y :: l := id rfl
@[simp] theorem nth_22 {α : Type} {a0 a1 a2 a3 a4 a5 a6 a7 a8 a9 a10 a11 a12 a13 a14 a15 a16 a17 a18 a19 a20 a21 x : α} {l : List α} : nth (a0 :: a1 :: a2 :: a3 :: a4 :: a5 :: a6 :: a7 :: a8 :: a9 :: a10 :: a11 :: a12 :: a13 :: a14 :: a15 :: a16 :: a17 :: a18 :: a19 :: a20 :: a21 :: x :: l) 22 = some x := id rfl
@[simp] theorem setN_22 {α : Type} {a0 a1 a2 a3 a4 a5 a6 a7 a8 a9 a10 a11 a12 a13 a14 a15 a16 a17 a18 a19 a20 a21 x y : α} {l : List α} : setN (a0 :: a1 :: a2 :: a3 :: a4 :: a5 :: a6 :: a7 :: a8 :: a9 :: a10 :: a11 :: a12 :: a13 :: a14 :: a15 :: a16 :: a17 :: a18 :: a19 :: a20 :: a21 :: x :: l) 22 y = a0 :: a1 :: a2 :: a3 :: a4 :: a5 :: a6 :: a7 :: a8 :: a9 :: a10 :: a11 :: a12 :: a13 :: a14 :: a15 :: a16 :: a17 :: a18 :: a19 :: a20 :: a21 :: y :: l := id rfl
@[simp] theorem nth_23 {α : Type} {a0 a1 a2 a3 a4 a5 a6 a7 a8 a9 a10 a11 a12 a13 a14 a15 a16 a17 a18 a19 a20 a21 a22 x : α} {l : List α} : nth (a0 :: a1 :: a2 :: a3 :: a4 :: a5 :: a6 :: a7 :: a8 :: a9 :: a10 :: a11 :: a12 :: a13 :: a14 :: a15 :: a16 :: a17 :: a18 :: a19 :: a20 :: a21 :: a22 :: x :: l) 23 = some x := id rfl
@[simp] theorem setN_23 {α : Type} {a0 a1 a2 a3 a4 a5 a6 a7 a8 a9 a10 a11 a12 a13 a14 a15 a16 a17 a18 a19 a20 a21 a22 x y : α} {l : List α} : setN (a0 :: a1 :: a2 :: a3 :: a4 :: a5 :: a6 :: a7 :: a8 :: a9 :: a10 :: a11 :: a12 :: a13 :: a14 :: a15 :: a16 :: a17 :: a18 :: a19 :: a20 :: a21 :: a22 :: x :: l) 23 y = a0 :: a1 :: a2 :: a3 :: a4 :: a5 :: a6 :: a7 :: a8 :: a9 :: a10 :: a11 :: a12 :: a13 :: a14 :: a15 :: a16 :: a17 :: a18 :: a19 :: a20 :: a21 :: a22 :: y :: l := id rfl
@[simp] theorem nth_24 {α : Type} {a0 a1 a2 a3 a4 a5 a6 a7 a8 a9 a10 a11 a12 a13 a14 a15 a16 a17 a18 a19 a20 a21 a22 a23 x : α} {l : List α} : nth (a0 :: a1 :: a2 :: a3 :: a4 :: a5 :: a6 :: a7 :: a8 :: a9 :: a10 :: a11 :: a12 :: a13 :: a14 :: a15 :: a16 :: a17 :: a18 :: a19 :: a20 :: a21 :: a22 :: a23 :: x :: l) 24 = some x := id rfl
@[simp] theorem setN_24 {α : Type} {a0 a1 a2 a3 a4 a5 a6 a7 a8 a9 a10 a11 a12 a13 a14 a15 a16 a17 a18 a19 a20 a21 a22 a23 x y : α} {l : List α} : setN (a0 :: a1 :: a2 :: a3 :: a4 :: a5 :: a6 :: a7 :: a8 :: a9 :: a10 :: a11 :: a12 :: a13 :: a14 :: a15 :: a16 :: a17 :: a18 :: a19 :: a20 :: a21 :: a22 :: a23 :: x :: l) 24 y = a0 :: a1 :: a2 :: a3 :: a4 :: a5 :: a6 :: a7 :: a8 :: a9 :: a10 :: a11 :: a12 :: a13 :: a14 :: a15 :: a16 :: a17 :: a18 :: a19 :: a20 :: a21 :: a22 :: a23 :: y :: l := id rfl
@[simp] theorem nth_25 {α : Type} {a0 a1 a2 a3 a4 a5 a6 a7 a8 a9 a10 a11 a12 a13 a14 a15 a16 a17 a18 a19 a20 a21 a22 a23 a24 x : α} {l : List α} : nth (a0 :: a1 :: a2 :: a3 :: a4 :: a5 :: a6 :: a7 :: a8 :: a9 :: a10 :: a11 :: a12 :: a13 :: a14 :: a15 :: a16 :: a17 :: a18 :: a19 :: a20 :: a21 :: a22 :: a23 :: a24 :: x :: l) 25 = some x := id rfl
@[simp] theorem setN_25 {α : Type} {a0 a1 a2 a3 a4 a5 a6 a7 a8 a9 a10 a11 a12 a13 a14 a15 a16 a17 a18 a19 a20 a21 a22 a23 a24 x y : α} {l : List α} : setN (a0 :: a1 :: a2 :: a3 :: a4 :: a5 :: a6 :: a7 :: a8 :: a9 :: a10 :: a11 :: a12 :: a13 :: a14 :: a15 :: a16 :: a17 :: a18 :: a19 :: a20 :: a21 :: a22 :: a23 :: a24 :: x :: l) 25 y = a0 :: a1 :: a2 :: a3 :: a4 :: a5 :: a6 :: a7 :: a8 :: a9 :: a10 :: a11 :: a12 :: a13 :: a14 :: a15 :: a16 :: a17 :: a18 :: a19 :: a20 :: a21 :: a22 :: a23 :: a24 :: y :: l := id rfl
def varR : Option Sl → Nat → SE → Option (Val × SE)
  | some (.d d), _, ε => some (.d d, ε)
  | some (.own _), i, ε => some (.old i, ε)
  | _, _, _ => none
@[simp] theorem varR_d {d : D} {i : Nat} {ε : SE} : varR (some (.d d)) i ε = some (.d d, ε) := id rfl
@[simp] theorem varR_o {m : MO} {i : Nat} {ε : SE} : varR (some (.own m)) i ε = some (.old i, ε) := id rfl
@[simp] theorem eVar_s {i : Nat} {ε : SE} : eVar i ε = varR (nth ε.sl i) i ε := by
  unfold eVar varR nth
  split <;> simp_all
@[simp] theorem eC_s {d : D} {ε : SE} : eC d ε = some (.d d, ε) := id rfl
@[simp] theorem fzE_s {f : EM} {ε : SE} : fzE f ε = (f ε).map fun r => (fzv r.1, r.2) := id rfl
@[simp] theorem fzv_d {d : D} : fzv (.d d) = .d d := id rfl
@[simp] theorem fzv_n {m : MO} : fzv (.new m) = .d m.toD := id rfl
@[simp] theorem fzv_o {i : Nat} : fzv (.old i) = .old i := id rfl
@[simp] theorem toD_l {l : List D} : (MO.lst l).toD = .lst l := id rfl
@[simp] theorem toD_i {c : Nat} {ns : List Str} {l : List D} : (MO.ins c ns l).toD = .ins c ns l := id rfl
@[simp] theorem toD_d {ks : List L2.Key} {l : List D} : (MO.dct ks l).toD = .dct ks l := id rfl
def ownR : Option Sl → Option D
  | some (.own m) => some m.toD
  | _ => none
@[simp] theorem ownR_o {m : MO} : ownR (some (.own m)) = some m.toD := id rfl
@[simp] theorem ownD_s {ε : SE} {i : Nat} : ownD ε i = ownR (nth ε.sl i) := by
  unfold ownD ownR nth
  split <;> simp_all
section
variable {ε : SE}
@[simp] theorem res_non : Val.res ε (.d .non) = some .non := id rfl
@[simp] theorem res_bl {b : Bool} : Val.res ε (.d (.bl b)) = some (.bl b) := id rfl
@[simp] theorem res_int {b : Int} : Val.res ε (.d (.int b)) = some (.int b) := id rfl
@[simp] theorem res_str {b : Str} : Val.res ε (.d (.str b)) = some (.str b) := id rfl
@[simp] theorem res_tup {b : List D} : Val.res ε (.d (.tup b)) = some (.tup b) := id rfl
@[simp] theorem res_pair {b : List D} : Val.res ε (.d (.pair b)) = some (.pair b) := id rfl
@[simp] theorem res_lst {b : List D} : Val.res ε (.d (.lst b)) = some (.lst b) := id rfl
@[simp] theorem res_scr {b : List Int} : Val.res ε (.d (.scr b)) = some (.scr b) := id rfl
@[simp] theorem res_ins {c : Nat} {ns : List Str} {l : List D} : Val.res ε (.d (.ins c ns l)) = some (.ins c ns l) := id rfl
@[simp] theorem res_dct {ks : List L2.Key} {l : List D} : Val.res ε (.d (.dct ks l)) = some (.dct ks l) := id rfl
@[simp] theorem res_ptr {n : Nat} : Val.res ε (.d (.ptr n)) = (nth ε.M n).map MO.toD := id rfl
@[simp] theorem res_new {m : MO} : Val.res ε (.new m) = some m.toD := id rfl
@[simp] theorem res_old {i : Nat} : Val.res ε (.old i) = ownR (nth ε.sl i) := ownD_s
end
def escR : Option Sl → Nat → SE → Option (D × SE)
  | some (.own m), i, ε => some (m.toD, setS ε i (.d m.toD))
  | some (.d x), _, ε => some (x, ε)
  | _, _, _ => none
@[simp] theorem escR_o {m : MO} {i : Nat} {ε : SE} : escR (some (.own m)) i ε = some (m.toD, setS ε i (.d m.toD)) := id rfl
@[simp] theorem escR_d {x : D} {i : Nat} {ε : SE} : escR (some (.d x)) i ε = some (x, ε) := id rfl
@[simp] theorem escV_d {x : D} {ε : SE} : escV ε (.d x) = some (x, ε) := id rfl
@[simp] theorem escV_n {m : MO} {ε : SE} : escV ε (.new m) = some (m.toD, ε) := id rfl
@[simp] theorem escV_o {i : Nat} {ε : SE} : escV ε (.old i) = escR (nth ε.sl i) i ε := by
  show (match ε.sl[i]? with | some (.own m) => some (m.toD, setS ε i (.d m.toD)) | some (.d x) => some (x, ε) | _ => none) = _
  unfold escR nth
  split <;> simp_all
@[simp] theorem escE_s {f : EM} {ε : SE} : escE f ε = (fzE f ε).bind fun r => escV r.2 r.1 := id rfl
@[simp] theorem escL_n {ε : SE} : escL ε [] = some ([], ε) := id rfl
@[simp] theorem escL_c {ε : SE} {v : Val} {vs : List Val} : escL ε (v :: vs) = (escV ε (fzv v)).bind fun r => (escL r.2 vs).map fun q => (r.1 :: q.1, q.2) := id rfl
@[simp] theorem resL_n {ε : SE} : resL ε [] = some [] := id rfl
@[simp] theorem resL_c {ε : SE} {v : Val} {vs : List Val} : resL ε (v :: vs) = (v.res ε).bind fun d => (resL ε vs).map fun ds => d :: ds := id rfl
@[simp] theorem eOp_s {g : D → D → Option Val} {fa fb : EM} {ε : SE} : eOp g fa fb ε = (fzE fa ε).bind fun ra => (fzE fb ra.2).bind fun rb => (ra.1.res rb.2).bind fun d => (rb.1.res rb.2).bind fun e => (g d e).map fun r => (r, rb.2) := id rfl
@[simp] theorem toB_b {b : Bool} : toB (.d (.bl b)) = some b := id rfl
@[simp] theorem eB_s {f : EM} {ε : SE} : eB f ε = (f ε).bind fun r => (toB r.1).map fun b => (b, r.2) := id rfl
@[simp] theorem truD_non : truD .non = some false := id rfl
@[simp] theorem truD_bl {b : Bool} : truD (.bl b) = some b := id rfl
@[simp] theorem truD_int {i : Int} : truD (.int i) = some (i != 0) := id rfl
@[simp] theorem truD_str {s : Str} : truD (.str s) = some ((s.length : Int) != 0) := id rfl
@[simp] theorem truD_tup {l : List D} : truD (.tup l) = some (!l.isEmpty) := id rfl
@[simp] theorem truD_lst {l : List D} : truD (.lst l) = some (!l.isEmpty) := id rfl
@[simp] theorem truB_s {f : EM} {ε : SE} : truB f ε = (fzE f ε).bind fun r => (r.1.res r.2).bind fun d => (truD d).map fun b => (b, r.2) := id rfl
@[simp] theorem notB_s {f : BM} {ε : SE} : notB f ε = (f ε).map fun r => (!r.1, r.2) := id rfl
@[simp] theorem andB_s {f g : BM} {ε : SE} : andB f g ε = (f ε).bind fun r => if r.1 = true then g r.2 else some (false, r.2) := id rfl
@[simp] theorem orB_s {f g : BM} {ε : SE} : orB f g ε = (f ε).bind fun r => if r.1 = true then some (true, r.2) else g r.2 := id rfl
@[simp] theorem andE_s {f g : EM} {ε : SE} : andE f g ε = (eB f ε).bind fun r => if r.1 = true then g r.2 else some (.d (.bl false), r.2) := id rfl
@[simp] theorem orE_s {f g : EM} {ε : SE} : orE f g ε = (eB f ε).bind fun r => if r.1 = true then some (.d (.bl true), r.2) else g r.2 := id rfl
@[simp] theorem notE_s {f : EM} {ε : SE} : notE f ε = (eB f ε).map fun r => (.d (.bl (!r.1)), r.2) := id rfl
@[simp] theorem ifE_s {c : BM} {f g : EM} {ε : SE} : ifE c f g ε = (c ε).bind fun r => if r.1 = true then f r.2 else g r.2 := id rfl
@[simp] theorem aNil_s {ε : SE} : aNil ε = some ([], ε) := id rfl
@[simp] theorem aCons_s {f : EM} {g : AM} {ε : SE} : aCons f g ε = (fzE f ε).bind fun r => (g r.2).map fun q => (r.1 :: q.1, q.2) := id rfl
@[simp] theorem aConsN_s {f : EM} {g : AM} {ε : SE} : aConsN f g ε = (f ε).bind fun r => (g r.2).map fun q => (r.1 :: q.1, q.2) := id rfl
@[simp] theorem eCB_s {g : List D → Option Val} {f : AM} {ε : SE} : eCB g f ε = (f ε).bind fun r => (resL r.2 r.1).bind fun ds => (g ds).map fun v => (v, r.2) := id rfl
@[simp] theorem eCall_s {f : FM} {dd : List D} {fa : AM} {ε : SE} : eCall f dd fa ε = (fa ε).bind fun r => (escL r.2 r.1).bind fun q => (f (q.1 ++ dd) q.2.M).bind fun o => if o.2.length = q.2.M.length then some (o.1, { q.2 with M := o.2 }) else none := id rfl
def tupR (q : List D × SE) : Option (Val × SE) := if q.1.length ≤ 16777216 then some (.d (.tup q.1), q.2) else none
def lstR (q : List D × SE) : Option (Val × SE) := if q.1.length ≤ 16777216 then some (.new (.lst q.1), q.2) else none
@[simp] theorem tupR_s {l : List D} {ε : SE} (h : FitE l.length) : tupR (l, ε) = some (.d (.tup l), ε) := if_pos h
@[simp] theorem lstR_s {l : List D} {ε : SE} (h : FitE l.length) : lstR (l, ε) = some (.new (.lst l), ε) := if_pos h
@[simp] theorem eTup_s {f : AM} {ε : SE} : eTup f ε = (f ε).bind fun r => (escL r.2 r.1).bind tupR := id rfl
@[simp] theorem eLst_s {f : AM} {ε : SE} : eLst f ε = (f ε).bind fun r => (escL r.2 r.1).bind lstR := id rfl
@[simp] theorem eBM_s {p : D → Bool} {g : D → List D → Option Val} {fo : EM} {f : AM} {ε : SE} : eBM p g fo f ε = (fzE fo ε).bind fun ro => (ro.1.res ro.2).bind fun d0 => if p d0 = true then
  (f ro.2).bind fun r => (ro.1.res r.2).bind fun d => (resL r.2 r.1).bind fun ds => (g d ds).map fun v => (v, r.2) else none := id rfl
@[simp] theorem eMut_s {p : MO → Bool} {g : MO → List D → Option (MO × D)} {fo : EM} {f : AM} {ε : SE} : eMut p g fo f ε = (fzE fo ε).bind fun ro => (tgt ro.2 ro.1).bind fun m0 => if p m0 = true then
  (f ro.2).bind fun r => (escL r.2 r.1).bind fun q => (tgt q.2 ro.1).bind fun m => (g m q.1).map fun w => (.d w.2, put q.2 w.1 ro.1) else none := id rfl
def tgtR : Option Sl → Option MO
  | some (.own m) => some m
  | _ => none
@[simp] theorem tgtR_o {m : MO} : tgtR (some (.own m)) = some m := id rfl
@[simp] theorem tgt_o {ε : SE} {i : Nat} : tgt ε (.old i) = tgtR (nth ε.sl i) := by
  show (match ε.sl[i]? with | some (.own m) => some m | _ => none) = _
  unfold tgtR nth
  split <;> simp_all
@[simp] theorem tgt_p {ε : SE} {i : Nat} : tgt ε (.d (.ptr i)) = nth ε.M i := id rfl
@[simp] theorem put_o {ε : SE} {i : Nat} {m : MO} : put ε m (.old i) = setS ε i (.own m) := id rfl
@[simp] theorem put_p {ε : SE} {i : Nat} {m : MO} : put ε m (.d (.ptr i)) = { ε with M := setN ε.M i m } := id rfl
@[simp] theorem setS_s {sl : List Sl} {M : List MO} {i : Nat} {s : Sl} : setS ⟨sl, M⟩ i s = ⟨setN sl i s, M⟩ := id rfl
@[simp] theorem isL_l {l : List D} : isL (.lst l) = true := id rfl
@[simp] theorem appM_s {l : List D} {d : D} (h : Fit l.length) : appM (.lst l) [d] = some (.lst (l ++ [d]), .non) := if_pos h
@[simp] theorem popM_s {l : List D} {i : Int} (h : bnd i = true) : popM (.lst l) [.int i] = (ixN l.length i).bind fun j => (l[j]?).map fun x => (.lst (l.eraseIdx j), x) := if_pos h
def seqR (g : SM) : Out → Option Out
  | .nx ε => g ε
  | o => some o
@[simp] theorem seqR_nx {g : SM} {ε : SE} : seqR g (.nx ε) = g ε := id rfl
@[simp] theorem seqR_rt {g : SM} {ε : SE} {v : Val} : seqR g (.rt v ε) = some (.rt v ε) := id rfl
@[simp] theorem seqR_bk {g : SM} {ε : SE} : seqR g (.bk ε) = some (.bk ε) := id rfl
@[simp] theorem seqR_ct {g : SM} {ε : SE} : seqR g (.ct ε) = some (.ct ε) := id rfl
@[simp] theorem seqR_ex {g : SM} {ε : SE} {x : D} : seqR g (.ex x ε) = some (.ex x ε) := id rfl
@[simp] theorem sSeq_s {f g : SM} {ε : SE} : sSeq f g ε = (f ε).bind (seqR g) := by
  unfold sSeq
  refine congrArg _ (funext fun o => ?_)
  cases o <;> rfl
@[simp] theorem sNil_s {ε : SE} : sNil ε = some (.nx ε) := id rfl
@[simp] theorem sErr_s {ε : SE} : sErr ε = none := id rfl
@[simp] theorem sExpr_s {f : EM} {ε : SE} : sExpr f ε = (f ε).map fun r => .nx r.2 := id rfl
@[simp] theorem sRet_s {f : EM} {ε : SE} : sRet f ε = (f ε).map fun r => .rt r.1 r.2 := id rfl
@[simp] theorem sRetN_s {ε : SE} : sRetN ε = some (.rt (.d .non) ε) := id rfl
@[simp] theorem sIf_s {c : BM} {f g : SM} {ε : SE} : sIf c f g ε = (c ε).bind fun r => if r.1 = true then f r.2 else g r.2 := id rfl
@[simp] theorem storeV_d {ε : SE} {i : Nat} {x : D} : storeV ε i (.d x) = some (setS ε i (.d x)) := id rfl
@[simp] theorem storeV_n {ε : SE} {i : Nat} {m : MO} : storeV ε i (.new m) = some (setS ε i (.own m)) := id rfl
@[simp] theorem storeV_o {ε : SE} {i j : Nat} : storeV ε i (.old j) = (escR (nth ε.sl j) j ε).map fun r => setS r.2 i (.d r.1) := by rw [← escV_o]; rfl
@[simp] theorem sSet_s {i : Nat} {f : EM} {ε : SE} : sSet i f ε = (f ε).bind fun r => (storeV r.2 i r.1).map fun ε' => .nx ε' := id rfl
@[simp] theorem sAsg_s {g : GM} {f : EM} {ε : SE} : sAsg g f ε = (fzE f ε).bind fun r => (escV r.2 r.1).bind fun q => (g q.1 q.2).map fun ε' => .nx ε' := id rfl
@[simp] theorem gN_s {i : Nat} {d : D} {ε : SE} : gN i d ε = some (setS ε i (.d d)) := id rfl
@[simp] theorem gsNil_s {ε : SE} : gsNil [] ε = some ε := id rfl
@[simp] theorem gsCons_s {g : GM} {gs : GsM} {d : D} {ds : List D} {ε : SE} : gsCons g gs (d :: ds) ε = (g d ε).bind fun ε1 => gs ds ε1 := id rfl
@[simp] theorem deold_n {ε : SE} : deold ε [] = some ([], ε) := id rfl
@[simp] theorem deold_o {ε : SE} {i : Nat} {vs : List Val} : deold ε (.old i :: vs) = (escR (nth ε.sl i) i ε).bind fun r => (deold r.2 vs).map fun q => (.d r.1 :: q.1, q.2) := by rw [← escV_o]; rfl
@[simp] theorem deold_d {ε : SE} {x : D} {vs : List Val} : deold ε (.d x :: vs) = (deold ε vs).map fun q => (.d x :: q.1, q.2) := id rfl
@[simp] theorem deold_m {ε : SE} {x : MO} {vs : List Val} : deold ε (.new x :: vs) = (deold ε vs).map fun q => (.new x :: q.1, q.2) := id rfl
@[simp] theorem storeL_n {ε : SE} : storeL ε [] [] = some ε := id rfl
@[simp] theorem storeL_c {ε : SE} {i : Nat} {is : List Nat} {a : Val} {as : List Val} : storeL ε (i :: is) (a :: as) = (storeV ε i a).bind fun ε1 => storeL ε1 is as := id rfl
@[simp] theorem sPar_s {is : List Nat} {f : AM} {ε : SE} : sPar is f ε = (f ε).bind fun r => (deold r.2 r.1).bind fun q => (storeL q.2 is q.1).map fun ε' => .nx ε' := id rfl
def setIxR : Option MO → Option D → D → Val → SE → Option Out
  | some (.lst l), some (.int i), x, v, ε => (ixN l.length i).map fun j => .nx (put ε (.lst (l.set j x)) v)
  | _, _, _, _, _ => none
@[simp] theorem setIxR_l {l : List D} {i : Int} {x : D} {v : Val} {ε : SE} : setIxR (some (.lst l)) (some (.int i)) x v ε = (ixN l.length i).map fun j => .nx (put ε (.lst (l.set j x)) v) := id rfl
@[simp] theorem sSetIx_s {fo fi fe : EM} {ε : SE} : sSetIx fo fi fe ε = (escE fe ε).bind fun re => (fzE fo re.2).bind fun ro => (fzE fi ro.2).bind fun ri => setIxR (tgt ri.2 ro.1) (ri.1.res ri.2) re.1 ro.1 ri.2 := by
  unfold sSetIx
  refine congrArg _ (funext fun re => congrArg _ (funext fun ro => congrArg _ (funext fun ri => ?_)))
  unfold setIxR
  split <;> simp_all
def loopR (g : GM) (body : SM) (ds : List D) : Out → Option Out
  | .nx ε => loopF g body ds ε
  | .ct ε => loopF g body ds ε
  | .bk ε => some (.nx ε)
  | .rt v ε => some (.rt v ε)
  | .ex x ε => some (.ex x ε)
@[simp] theorem loopR_nx {g : GM} {body : SM} {ds : List D} {ε : SE} : loopR g body ds (.nx ε) = loopF g body ds ε := id rfl
@[simp] theorem loopR_ct {g : GM} {body : SM} {ds : List D} {ε : SE} : loopR g body ds (.ct ε) = loopF g body ds ε := id rfl
@[simp] theorem loopR_bk {g : GM} {body : SM} {ds : List D} {ε : SE} : loopR g body ds (.bk ε) = some (.nx ε) := id rfl
@[simp] theorem loopR_rt {g : GM} {body : SM} {ds : List D} {ε : SE} {v : Val} : loopR g body ds (.rt v ε) = some (.rt v ε) := id rfl
@[simp] theorem loopR_ex {g : GM} {body : SM} {ds : List D} {ε : SE} {x : D} : loopR g body ds (.ex x ε) = some (.ex x ε) := id rfl
theorem loopF_c {g : GM} {body : SM} {d : D} {ds : List D} {ε : SE} : loopF g body (d :: ds) ε = (g d ε).bind fun ε1 => (body ε1).bind (loopR g body ds) := by
  show ((g d ε).bind fun ε1 => (body ε1).bind fun o => match o with | .nx ε2 => loopF g body ds ε2 | .ct ε2 => loopF g body ds ε2 | .bk ε2 => some (.nx ε2) | .rt v ε2 => some (.rt v ε2) | .ex x ε2 => some (.ex x ε2)) = _
  refine congrArg _ (funext fun ε1 => congrArg _ (funext fun o => ?_))
  cases o <;> rfl
@[simp] theorem sFor_s {fi : IM} {g : GM} {body : SM} {ε : SE} : sFor fi g body ε = (fi ε).bind fun r => loopF g body r.1 r.2 := id rfl
@[simp] theorem iSeq_s {fe : EM} {ε : SE} : iSeq fe ε = (escE fe ε).bind fun r => (seqD r.1).map fun l => (l, r.2) := id rfl
@[simp] theorem seqD_l {l : List D} : seqD (.lst l) = some l := id rfl
@[simp] theorem seqD_t {l : List D} : seqD (.tup l) = some l := id rfl
@[simp] theorem seqD_s {s : Str} : seqD (.str s) = some (s.cps.toList.map chD) := id rfl
@[simp] theorem seqD_c {l : List Int} : seqD (.scr l) = some (l.map .int) := id rfl
@[simp] theorem iEnum1_s {fe : EM} {ε : SE} : iEnum1 fe ε = (iSeq fe ε).map fun r => (enumD r.1, r.2) := id rfl
noncomputable def rngR : List D → SE → Option (List D × SE)
  | [.int j], ε => if bnd j = true ∧ j.toNat ≤ 16777216 then some (rngD 0 j.toNat, ε) else none
  | [.int i, .int j], ε => if bnd i = true ∧ bnd j = true ∧ (j - i).toNat ≤ 16777216 then some (rngD i (j - i).toNat, ε) else none
  | _, _ => none
@[simp] theorem rngR_1 {j : Int} {ε : SE} (h : bnd j = true) (h2 : FitE j.toNat) : rngR [.int j] ε = some (rngD 0 j.toNat, ε) := if_pos ⟨h, h2⟩
@[simp] theorem rngR_2 {i j : Int} {ε : SE} (h : bnd i = true) (h1 : bnd j = true) (h2 : FitE (j - i).toNat) : rngR [.int i, .int j] ε = some (rngD i (j - i).toNat, ε) := if_pos ⟨h, h1, h2⟩
@[simp] theorem iRange_s {f : AM} {ε : SE} : iRange f ε = (f ε).bind fun r => (resL r.2 r.1).bind fun ds => rngR ds r.2 := by
  unfold iRange
  refine congrArg _ (funext fun r => congrArg _ (funext fun ds => ?_))
  unfold rngR
  split <;> simp_all
@[simp] theorem eLc_s {fi : IM} {g : GM} {tt : BM} {te : EM} {vs : List Nat} {ε : SE} : eLc fi g tt te vs ε = (fi ε).bind fun r => (compL g tt te vs r.1 r.2).map fun q => (.new (.lst q.1), restS r.2 q.2 vs) := id rfl
@[simp] theorem wipeS_n {ε : SE} : wipeS ε [] = ε := id rfl
@[simp] theorem wipeS_c {ε : SE} {v : Nat} {vs : List Nat} : wipeS ε (v :: vs) = setS (wipeS ε vs) v .no := id rfl
@[simp] theorem restS_n {ε0 ε : SE} : restS ε0 ε [] = ε := id rfl
@[simp] theorem restS_c {ε0 ε : SE} {v : Nat} {vs : List Nat} : restS ε0 ε (v :: vs) = setS (restS ε0 ε vs) v (keepS (nth ε0.sl v)) := id rfl
@[simp] theorem keepS_d {d : D} : keepS (some (.d d)) = .d d := id rfl
@[simp] theorem keepS_n : keepS (some .no) = .no := id rfl
@[simp] theorem yesB_s {ε : SE} : yesB ε = some (true, ε) := id rfl
@[simp] theorem oNone_s {ε : SE} : oNone ε = some (none, ε) := id rfl
def oR : D → SE → Option (Option Int × SE)
  | .int i, ε => some (some i, ε)
  | _, _ => none
@[simp] theorem oR_i {i : Int} {ε : SE} : oR (.int i) ε = some (some i, ε) := id rfl
@[simp] theorem oSome_s {f : EM} {ε : SE} : oSome f ε = (fzE f ε).bind fun r => (r.1.res r.2).bind fun d => oR d r.2 := by
  unfold oSome
  refine congrArg _ (funext fun r => congrArg _ (funext fun d => ?_))
  cases d <;> rfl
@[simp] theorem eSlice_s {fe : EM} {fl fh : OM} {ε : SE} : eSlice fe fl fh ε = (fzE fe ε).bind fun r => (fl r.2).bind fun l => (fh l.2).bind fun h => (r.1.res h.2).bind fun d => (sliceD d l.1 h.1).map fun v => (v, h.2) := id rfl
@[simp] theorem sliceD_l {l : List D} {lo hi : Option Int} : sliceD (.lst l) lo hi = some (.new (.lst (cutD l lo hi))) := id rfl
@[simp] theorem sliceD_t {l : List D} {lo hi : Option Int} : sliceD (.tup l) lo hi = some (.d (.tup (cutD l lo hi))) := id rfl
@[simp] theorem sliceD_s {s : Str} {lo hi : Option Int} : sliceD (.str s) lo hi = some (.d (.str (cutS s lo hi))) := id rfl
@[simp] theorem sliceD_c {l : List Int} {lo hi : Option Int} : sliceD (.scr l) lo hi = some (.new (.lst (cutD (l.map .int) lo hi))) := id rfl
def fldR (c : Nat) (f : Str) (ε : SE) : Option (Nat × List Str × List D) → Option (Val × SE)
  | some (c', ns, ds) => if c' = c then ((ns.zip ds).lookup f).map fun x => (.d x, ε) else none
  | none => none
@[simp] theorem fldR_s {c c' : Nat} {f : Str} {ε : SE} {ns : List Str} {ds : List D} : fldR c f ε (some (c', ns, ds)) = if c' = c then ((ns.zip ds).lookup f).map fun x => (.d x, ε) else none := id rfl
@[simp] theorem insD_i {ε : SE} {c : Nat} {ns : List Str} {ds : List D} : insD ε (.ins c ns ds) = some (c, ns, ds) := id rfl
@[simp] theorem eFld_s {c : Nat} {f : Str} {fo : EM} {ε : SE} : eFld c f fo ε = (fzE fo ε).bind fun r => (r.1.res r.2).bind fun d => fldR c f r.2 (insD r.2 d) := by
  unfold eFld
  refine congrArg _ (funext fun r => congrArg _ (funext fun d => ?_))
  unfold fldR
  split <;> simp_all
def methR (c : Nat) (m : Str) (f : FM) (dd : List D) (fa : AM) (v : Val) (ε : SE) : Option (Nat × List Str × List D) → Option (Val × SE)
  | some (c', ns, _) => if c' = c ∧ ns.contains m = false then eCall f dd (fun ε1 => (fa ε1).map fun r => (v :: r.1, r.2)) ε else none
  | none => none
@[simp] theorem methR_s {c c' : Nat} {m : Str} {f : FM} {dd : List D} {fa : AM} {v : Val} {ε : SE} {ns : List Str} {ds : List D} : methR c m f dd fa v ε (some (c', ns, ds)) = if c' = c ∧ ns.contains m = false then eCall f dd (fun ε1 => (fa ε1).map fun r => (v :: r.1, r.2)) ε else none := id rfl
@[simp] theorem eMeth_s {c : Nat} {m : Str} {f : FM} {dd : List D} {fo : EM} {fa : AM} {ε : SE} : eMeth c m f dd fo fa ε = (fzE fo ε).bind fun ro => (ro.1.res ro.2).bind fun d => methR c m f dd fa ro.1 ro.2 (insD ro.2 d) := by
  unfold eMeth
  refine congrArg _ (funext fun r => congrArg _ (funext fun d => ?_))
  unfold methR
  split <;> simp_all
@[simp] theorem finV_nx {ε : SE} : finV (.nx ε) = some (.d .non, ε.M) := id rfl
@[simp] theorem finV_d {x : D} {ε : SE} : finV (.rt (.d x) ε) = some (.d x, ε.M) := id rfl
@[simp] theorem finV_n {m : MO} {ε : SE} : finV (.rt (.new m) ε) = some (.new m, ε.M) := id rfl
def finR : Option Sl → List MO → Option (Val × List MO)
  | some (.own m), M => some (.new m, M)
  | some (.d x), M => some (.d x, M)
  | _, _ => none
@[simp] theorem finR_o {m : MO} {M : List MO} : finR (some (.own m)) M = some (.new m, M) := id rfl
@[simp] theorem finR_d {x : D} {M : List MO} : finR (some (.d x)) M = some (.d x, M) := id rfl
@[simp] theorem finV_o {i : Nat} {ε : SE} : finV (.rt (.old i) ε) = finR (nth ε.sl i) ε.M := by
  show (match ε.sl[i]? with | some (.own m) => some (Val.new m, ε.M) | some (.d x) => some (.d x, ε.M) | _ => none) = _
  unfold finR nth
  split <;> simp_all
theorem runF_s {n N : Nat} {f : SM} {ds : List D} {M : List MO} (h : ds.length = n) : runF n N f ds M = (f ⟨slots0 ds N, M⟩).bind finV := if_pos h
@[simp] theorem runF_if {n N : Nat} {f : SM} {ds : List D} {M : List MO} : runF n N f ds M = if ds.length = n then (f ⟨slots0 ds N, M⟩).bind finV else none := id rfl
@[simp] theorem lenD_l {l : List D} : lenD [.lst l] = some (.d (.int (l.length : Nat))) := id rfl
@[simp] theorem lenD_t {l : List D} : lenD [.tup l] = some (.d (.int (l.length : Nat))) := id rfl
@[simp] theorem lenD_c {l : List Int} : lenD [.scr l] = some (.d (.int (l.length : Nat))) := id rfl
@[simp] theorem lenD_s {l : Str} : lenD [.str l] = some (.d (.int (l.length : Nat))) := id rfl
@[simp] theorem intD_i {i : Int} : intD [.int i] = some (.d (.int i)) := id rfl
@[simp] theorem intU_i {i : Int} : intD' [.int i] = some (.d (.int i)) := id rfl
@[simp] theorem absD_i {i : Int} : absD [.int i] = some (.d (.int (if i < 0 then -i else i))) := id rfl
@[simp] theorem max2D_i {i j : Int} : max2D [.int i, .int j] = some (.d (.int (if j > i then j else i))) := id rfl
@[simp] theorem min2D_i {i j : Int} : min2D [.int i, .int j] = some (.d (.int (if j < i then j else i))) := id rfl
@[simp] theorem listD_s {d : D} : listD [d] = (seqD d).map fun l => .new (.lst l) := id rfl
@[simp] theorem tupD_t {l : List D} : tupD [.tup l] = some (.d (.tup l)) := id rfl
@[simp] theorem tupD_l {l : List D} : tupD [.lst l] = some (.d (.tup l)) := id rfl
@[simp] theorem allD_l {l : List D} : allD [.lst l] = (blsD l).map fun b => .d (.bl (b.all id)) := id rfl
@[simp] theorem anyD_l {l : List D} : anyD [.lst l] = (blsD l).map fun b => .d (.bl (b.any id)) := id rfl
@[simp] theorem addD_i {i j : Int} : addD (.int i) (.int j) = some (.d (.int (i + j))) := id rfl
@[simp] theorem addD_s {i j : Str} (h : FitE (i.length + j.length)) : addD (.str i) (.str j) = some (.d (.str (i ++ j))) := if_pos h
@[simp] theorem addD_t {i j : List D} (h : FitE (i.length + j.length)) : addD (.tup i) (.tup j) = some (.d (.tup (i ++ j))) := if_pos h
@[simp] theorem addD_l {i j : List D} (h : FitE (i.length + j.length)) : addD (.lst i) (.lst j) = some (.new (.lst (i ++ j))) := if_pos h
@[simp] theorem ixD_l {l : List D} {i : Int} : ixD (.lst l) (.int i) = (atI l i).map .d := id rfl
@[simp] theorem ixD_t {l : List D} {i : Int} : ixD (.tup l) (.int i) = (atI l i).map .d := id rfl
@[simp] theorem ixD_c {l : List Int} {i : Int} : ixD (.scr l) (.int i) = (atI l i).map fun n => .d (.int n) := id rfl
@[simp] theorem ixD_s {s : Str} {i : Int} : ixD (.str s) (.int i) = (atI s.cps.toList i).map fun c => .d (chD c) := id rfl
@[simp] theorem ltD_i {i j : Int} : ltD (.int i) (.int j) = some (.d (.bl (decide (i < j)))) := id rfl
@[simp] theorem leD_i {i j : Int} : leD (.int i) (.int j) = some (.d (.bl (decide (i ≤ j)))) := id rfl
@[simp] theorem gtD_i {i j : Int} : gtD (.int i) (.int j) = some (.d (.bl (decide (j < i)))) := id rfl
@[simp] theorem geD_i {i j : Int} : geD (.int i) (.int j) = some (.d (.bl (decide (j ≤ i)))) := id rfl
theorem atI_nat' {α : Type} {l : List α} {i : Nat} (h : i < l.length) : atI l (i : Int) = l[i]? := by
  unfold atI ixN
  rw [if_pos (by omega), if_pos (by omega)]
  rfl
theorem ixN_nat {n i : Nat} (h : i < n) : ixN n (i : Int) = some i := by
  unfold ixN
  rw [if_pos (by omega), if_pos (by omega)]
  rfl
end KD
namespace KD
open PySem PySem.Spec PyProof.Rows L2
theorem modD_i {i j : Int} (h : 0 < j) : modD (.int i) (.int j) = some (.d (.int (i % j))) := by
  unfold modD KD.intOp
  simp [h]
theorem fdivD_i {i j : Int} (h : 0 < j) (h2 : j < 1073741824) : fdivD (.int i) (.int j) = some (.d (.int (i / j))) := by
  unfold fdivD KD.intOp
  simp [h, h2]
theorem mulD_l {i j : Int} (h : wid i = true) : mulD (.int i) (.int j) = some (.d (.int (i * j))) := by
  unfold mulD
  simp [h]
theorem mulD_r {i j : Int} (h : wid j = true) : mulD (.int i) (.int j) = some (.d (.int (i * j))) := by
  unfold mulD
  simp [h]
theorem wid_mk {i : Int} (h : -18446744073709551616 < i) (h2 : i < 18446744073709551616) : wid i = true := by
  unfold wid
  exact @decide_eq_true _ (Classical.propDecidable _) ⟨h, h2⟩
end KD

set_option maxHeartbeats 4000000
namespace KD
open PySem PySem.Spec PyProof.Rows L2
theorem eqd_str (a b : Str) : eqd (.str a) (.str b) = decide (a = b) := by
  unfold eqd toPy
  simp [PyData.eqv]
  by_cases h : a = b <;> simp [h]
theorem eqd_int (a b : Int) : eqd (.int a) (.int b) = decide (a = b) := by
  unfold eqd toPy
  simp [PyData.eqv]
  by_cases h : a = b <;> simp [h]
@[simp] theorem eqD_int {a b : Int} : eqD (.int a) (.int b) = some (.d (.bl (decide (a = b)))) := by
  unfold eqD
  rw [okD_flat (d := .int a) rfl, okD_flat (d := .int b) rfl, eqd_int]
  rfl
@[simp] theorem neD_int {a b : Int} : neD (.int a) (.int b) = some (.d (.bl (!decide (a = b)))) := by
  unfold neD
  rw [okD_flat (d := .int a) rfl, okD_flat (d := .int b) rfl, eqd_int]
  rfl
@[simp] theorem eqD_str {a b : Str} : eqD (.str a) (.str b) = some (.d (.bl (decide (a = b)))) := by
  unfold eqD
  rw [okD_flat (d := .str a) rfl, okD_flat (d := .str b) rfl, eqd_str]
  rfl
@[simp] theorem neD_str {a b : Str} : neD (.str a) (.str b) = some (.d (.bl (!decide (a = b)))) := by
  unfold neD
  rw [okD_flat (d := .str a) rfl, okD_flat (d := .str b) rfl, eqd_str]
  rfl
def chS (c : Nat) : Str := ⟨#[c]⟩
theorem chD_eq (c : Nat) : chD c = .str (chS c) := rfl
theorem chS_inj {a b : Nat} (h : chS a = chS b) : a = b := by
  unfold chS at h
  simpa using h
@[simp] theorem inV1_s {d e : D} : inV1 d e = (inD d e).map fun b => .d (.bl b) := id rfl
@[simp] theorem ninV1_s {d e : D} : ninV1 d e = (inD d e).map fun b => .d (.bl (!b)) := id rfl
@[simp] theorem isND_n : isND .non .non = some (.d (.bl true)) := id rfl
@[simp] theorem isND_i {i : Int} : isND (.int i) .non = some (.d (.bl false)) := id rfl
@[simp] theorem notND_n : notND .non .non = some (.d (.bl false)) := id rfl
@[simp] theorem notND_i {i : Int} : notND (.int i) .non = some (.d (.bl true)) := id rfl
theorem loopF_inv {g : GM} {body : SM} (I : Nat → SE → Prop) : ∀ (ds : List D) (k : Nat) (ε : SE), I k ε →
    (∀ (i : Nat) (ε : SE) (d : D), ds[i]? = some d → I (k + i) ε → ∃ ε1 ε2, g d ε = some ε1 ∧ (body ε1 = some (.nx ε2) ∨ body ε1 = some (.ct ε2)) ∧ I (k + i + 1) ε2) →
    ∃ ε', loopF g body ds ε = some (.nx ε') ∧ I (k + ds.length) ε'
  | [], k, ε, h, _ => ⟨ε, rfl, h⟩
  | d :: ds, k, ε, h, st => by
    obtain ⟨ε1, ε2, h1, h2, h3⟩ := st 0 ε d rfl h
    obtain ⟨ε', h4, h5⟩ := loopF_inv I ds (k + 1) ε2 h3 fun i ε d hd hi => by
      have := st (i + 1) ε d (by simpa using hd) (by rw [show k + (i + 1) = k + 1 + i by omega]; exact hi)
      rw [show k + 1 + i + 1 = k + (i + 1) + 1 by omega]
      exact this
    refine ⟨ε', ?_, by rw [List.length_cons, show k + (ds.length + 1) = k + 1 + ds.length by omega]; exact h5⟩
    rw [loopF_c, h1]
    rcases h2 with h2 | h2 <;> simp [h2, h4]
theorem compL_pure {g : GM} {tt : BM} {te : EM} {vs : List Nat} (p : D → Bool) (f : D → D) (I : SE → Prop) : ∀ (ds : List D),
    (∀ ε, I ε → ∀ d ∈ ds, ∃ ε1, g d (wipeS ε vs) = some ε1 ∧ ∃ ε2, tt ε1 = some (p d, ε2) ∧ (p d = false → I ε2) ∧ (p d = true → ∃ ε3, escE te ε2 = some (f d, ε3) ∧ I ε3)) →
    ∀ ε, I ε → ∃ ε', compL g tt te vs ds ε = some ((ds.filter p).map f, ε') ∧ I ε'
  | [], _, ε, h => ⟨ε, rfl, h⟩
  | d :: ds, st, ε, h => by
    obtain ⟨ε1, h1, ε2, h2, h3, h4⟩ := st ε h d List.mem_cons_self
    have ih := compL_pure p f I ds fun ε h d hd => st ε h d (List.mem_cons_of_mem _ hd)
    have e : compL g tt te vs (d :: ds) ε = (g d (wipeS ε vs)).bind fun ε1 => (tt ε1).bind fun r => if r.1 = true then (escE te r.2).bind fun y => (compL g tt te vs ds y.2).map fun q => (y.1 :: q.1, q.2) else compL g tt te vs ds r.2 := rfl
    rw [e, h1, Option.bind_some, h2, Option.bind_some]
    cases hp : p d with
    | false =>
      obtain ⟨ε', q1, q2⟩ := ih ε2 (h3 hp)
      exact ⟨ε', by simp [hp, q1], q2⟩
    | true =>
      obtain ⟨ε3, h5, h6⟩ := h4 hp
      obtain ⟨ε', q1, q2⟩ := ih ε3 h6
      refine ⟨ε', ?_, q2⟩
      rw [if_pos rfl, h5, Option.bind_some, q1, List.filter_cons_of_pos hp]
      rfl
@[simp] theorem gT_pair {n : Nat} {gs : GsM} {l : List D} {ε : SE} : gT n gs (.pair l) ε = if l.length = n then gs l ε else none := id rfl
@[simp] theorem gT_tup {n : Nat} {gs : GsM} {l : List D} {ε : SE} : gT n gs (.tup l) ε = if l.length = n then gs l ε else none := id rfl
theorem sIx_int {n d : Nat} {k : Int} (h : 0 ≤ k) : HT.sIx n d (some k) = min k.toNat n := by
  obtain ⟨m, rfl⟩ := Int.eq_ofNat_of_zero_le h
  rw [HT.sIx_nat]
  rfl
theorem cutD_to {l : List D} {k : Int} (h : 0 ≤ k) : cutD l none (some k) = l.take k.toNat := by
  unfold cutD
  rw [HT.sIx_none, sIx_int h, Nat.sub_zero, List.drop_zero]
  by_cases q : k.toNat ≤ l.length
  · rw [Nat.min_eq_left q]
  · rw [Nat.min_eq_right (by omega), List.take_length, List.take_of_length_le (by omega)]
theorem bnd_mk {i : Int} (h : -(4611686018427387904) ≤ i) (h2 : i < 4611686018427387904) : bnd i = true := by
  unfold bnd
  exact @decide_eq_true _ (Classical.propDecidable _) ⟨h, h2⟩
theorem rngD_get {lo : Int} {n i : Nat} {d : D} (h : (rngD lo n)[i]? = some d) : i < n ∧ d = .int (lo + i) := by
  unfold rngD at h
  rw [List.getElem?_map] at h
  obtain ⟨j, hj, e⟩ := Option.map_eq_some_iff.mp h
  have hi : i < n := by
    have := (List.getElem?_eq_some_iff.mp hj).1
    simpa using this
  rw [List.getElem?_range hi] at hj
  cases hj
  exact ⟨hi, e.symm⟩
end KD

set_option maxHeartbeats 4000000
namespace KD
open PySem PySem.Spec PyProof.Rows L2
@[simp] theorem sWhile_s {n : Nat} {c : BM} {body : SM} {ε : SE} : sWhile n c body ε = loopW c body n ε := id rfl
end KD

set_option maxHeartbeats 4000000
namespace KD
open PySem PySem.Spec PyProof.Rows L2
structure Enc {α : Type} [DecidableEq α] (e : α → D) (k : Nat) : Prop where
  pl : ∀ a, plain (e a) = true
  dp : ∀ a, (toPy (e a)).depth ≤ k
  eq : ∀ a b, eqd (e a) (e b) = decide (a = b)
theorem plainL_map {α : Type} {e : α → D} (h : ∀ a, plain (e a) = true) : ∀ l : List α, plainL (l.map e) = true
  | [] => rfl
  | a :: l => by
    show (plain (e a) && plainL (l.map e)) = true
    rw [h a, plainL_map h l]; rfl
theorem depthAll_map {α : Type} {e : α → D} {k : Nat} (h : ∀ a, (toPy (e a)).depth ≤ k) : ∀ l : List α, PyData.depthAll (toPyL (l.map e)) ≤ k
  | [] => Nat.zero_le _
  | a :: l => by
    have h1 := h a
    have h2 := depthAll_map h l
    show max (toPy (e a)).depth (PyData.depthAll (toPyL (l.map e))) ≤ k
    omega
theorem eqvAll_map {α : Type} [DecidableEq α] {e : α → D} (h : ∀ a b, eqd (e a) (e b) = decide (a = b)) : ∀ l m : List α, PyData.eqvAll (toPyL (l.map e)) (toPyL (m.map e)) = decide (l = m)
  | [], [] => rfl
  | [], b :: m => by
    show false = _
    simp
  | a :: l, [] => by
    show false = _
    simp
  | a :: l, b :: m => by
    show (eqd (e a) (e b) && PyData.eqvAll (toPyL (l.map e)) (toPyL (m.map e))) = _
    rw [h a b, eqvAll_map h l m]
    by_cases h1 : a = b <;> by_cases h2 : l = m <;> simp [h1, h2]
section
variable {α β : Type} [DecidableEq α] [DecidableEq β] {e : α → D} {k : Nat}
theorem Enc.lst (h : Enc e k) : Enc (fun l : List α => .lst (l.map e)) (k + 1) :=
  ⟨plainL_map h.pl, fun l => Nat.succ_le_succ (depthAll_map h.dp l), eqvAll_map h.eq⟩
theorem Enc.tup (h : Enc e k) : Enc (fun l : List α => .tup (l.map e)) (k + 1) :=
  ⟨plainL_map h.pl, fun l => Nat.succ_le_succ (depthAll_map h.dp l), eqvAll_map h.eq⟩
theorem Enc.pr {f : β → D} (h : Enc e k) (g : Enc f k) : Enc (fun p : α × β => .tup [e p.1, f p.2]) (k + 1) :=
  ⟨fun p => by
    show (plain (e p.1) && (plain (f p.2) && true)) = true
    rw [h.pl, g.pl]; rfl, fun p => by
    have h1 := h.dp p.1
    have h2 := g.dp p.2
    show max (toPy (e p.1)).depth (max (toPy (f p.2)).depth 0) + 1 ≤ k + 1
    omega, fun p q => by
    show (eqd (e p.1) (e q.1) && (eqd (f p.2) (f q.2) && true)) = _
    rw [h.eq, g.eq]
    obtain ⟨a, b⟩ := p
    obtain ⟨c, d⟩ := q
    by_cases h1 : a = c <;> by_cases h2 : b = d <;> simp [h1, h2]⟩
theorem Enc.up (h : Enc e k) {m : Nat} (q : k ≤ m) : Enc e m := ⟨h.pl, fun a => Nat.le_trans (h.dp a) q, h.eq⟩
theorem Enc.ok (h : Enc e k) (hk : k ≤ 64) (a : α) : okD (e a) = true := by
  unfold okD
  rw [h.pl a, decide_eq_true (Nat.le_trans (h.dp a) hk)]; rfl
theorem Enc.eqD (h : Enc e k) (hk : k ≤ 64) (a b : α) : KD.eqD (e a) (e b) = some (.d (.bl (decide (a = b)))) := by
  unfold KD.eqD
  rw [h.ok hk, h.ok hk, h.eq]; rfl
theorem Enc.neD (h : Enc e k) (hk : k ≤ 64) (a b : α) : KD.neD (e a) (e b) = some (.d (.bl (!decide (a = b)))) := by
  unfold KD.neD
  rw [h.ok hk, h.ok hk, h.eq]; rfl
theorem inL_map (h : ∀ a b, eqd (e a) (e b) = decide (a = b)) (a : α) : ∀ l : List α, inL (e a) (l.map e) = decide (a ∈ l)
  | [] => by simp [inL]
  | b :: l => by
    show (eqd (e b) (e a) || inL (e a) (l.map e)) = _
    rw [h, inL_map h a l]
    by_cases q : b = a
    · simp [q]
    · have q' : ¬ a = b := fun z => q z.symm
      simp [q, q']
theorem Enc.inLst (h : Enc e k) (hk : k < 64) (a : α) (l : List α) : inD (e a) (.lst (l.map e)) = some (decide (a ∈ l)) := by
  show (if (isFlat (e a) && flatAll (l.map e)) = true then some (inL (e a) (l.map e)) else if (okD (e a) && okD (.lst (l.map e))) = true then some (inL (e a) (l.map e)) else none) = _
  rw [h.ok (by omega), h.lst.ok (by omega), inL_map h.eq]
  simp
theorem flatAll_map {γ : Type} {g : γ → D} (h : ∀ a, isFlat (g a) = true) : ∀ l : List γ, flatAll (l.map g) = true
  | [] => rfl
  | a :: l => by
    show (isFlat (g a) && flatAll (l.map g)) = true
    rw [h a, flatAll_map h l]; rfl
theorem Enc.inTup (h : Enc e k) (hf : ∀ a, isFlat (e a) = true) (a : α) (l : List α) : inD (e a) (.tup (l.map e)) = some (decide (a ∈ l)) := by
  show (if (isFlat (e a) && flatAll (l.map e)) = true then some (inL (e a) (l.map e)) else none) = _
  rw [hf a, flatAll_map hf l, inL_map h.eq]; rfl
end
theorem Enc.str : Enc D.str 0 := ⟨fun _ => rfl, fun _ => Nat.le_refl _, eqd_str⟩
theorem Enc.int : Enc D.int 0 := ⟨fun _ => rfl, fun _ => Nat.le_refl _, eqd_int⟩
theorem Enc.ch : Enc chD 0 := ⟨fun _ => rfl, fun _ => Nat.le_refl _, fun a b => by
  rw [chD_eq, chD_eq, eqd_str]
  by_cases h : a = b
  · simp [h]
  · have : ¬ chS a = chS b := fun q => h (chS_inj q)
    simp [h, this]⟩
theorem Enc.bl : Enc D.bl 0 := ⟨fun _ => rfl, fun _ => Nat.le_refl _, fun a b => by cases a <;> cases b <;> rfl⟩
def nI (n : Nat) : D := .int (n : Int)
theorem Enc.nat : Enc nI 0 := ⟨fun _ => rfl, fun _ => Nat.le_refl _, fun a b => by
  unfold nI
  rw [eqd_int]
  by_cases h : a = b
  · simp [h]
  · have : ¬ (a : Int) = (b : Int) := by omega
    simp [h, this]⟩
def cpOk (s : Str) : Prop := ∀ c ∈ s.cps.toList, c < 1114112
theorem cpOk_append {a b : Str} (h : cpOk a) (g : cpOk b) : cpOk (a ++ b) := by
  intro c hc
  have : c ∈ a.cps.toList ++ b.cps.toList := by
    have e : (a ++ b).cps = a.cps ++ b.cps := rfl
    rw [e, Array.toList_append] at hc
    exact hc
  rcases List.mem_append.mp this with q | q
  · exact h c q
  · exact g c q
theorem cpOk_of (s : String) : cpOk (Str.ofString s) := by
  intro c hc
  rw [Str.ofString_eq_toList] at hc
  have hc' : c ∈ s.toList.map Char.toNat := by simpa using hc
  obtain ⟨ch, _, rfl⟩ := List.mem_map.mp hc'
  have := ch.valid
  rcases this with h | ⟨h1, h2⟩
  · show ch.val.toNat < 1114112
    have : ch.val.toNat < 0xd800 := h
    omega
  · exact h2
theorem cpOk_join (sep : Str) (hs : cpOk sep) : ∀ ts : List Str, (∀ t ∈ ts, cpOk t) → cpOk (Str.join sep ts)
  | [], _ => by intro c hc; cases hc
  | [t], h => h t List.mem_cons_self
  | t :: u :: ts, h => by
    have ih := cpOk_join sep hs (u :: ts) fun x hx => h x (List.mem_cons_of_mem _ hx)
    show cpOk (t ++ sep ++ Str.join sep (u :: ts))
    exact cpOk_append (cpOk_append (h t List.mem_cons_self) hs) ih
theorem cpOk_textFrom : ∀ (ts : List Str) (k : Nat) (acc : Str), cpOk acc → (∀ t ∈ ts, cpOk t) → cpOk (textFrom k acc ts)
  | [], _, _, h, _ => h
  | t :: ts, k, acc, h, g => by
    show cpOk (textFrom (k + 1) (acc ++ (if k > 0 then ", " else "" : String) ++ t) ts)
    exact cpOk_textFrom ts (k + 1) _ (cpOk_append (cpOk_append h (cpOk_of _)) (g t List.mem_cons_self)) fun x hx => g x (List.mem_cons_of_mem _ hx)
theorem reprChar_ok {q c : Nat} (hq : q < 128) (hc : c < 1114112) : ∀ x ∈ Builtin.Str.reprChar q c, x < 1114112 := by
  have hx : ∀ (w : Nat) (x : Nat), x ∈ List.replicate (w - ((Nat.toDigits 16 c).map Char.toNat).length) 48 ++ (Nat.toDigits 16 c).map Char.toNat → x < 1114112 := by
    intro w x h
    rcases List.mem_append.mp h with h | h
    · have := List.eq_of_mem_replicate h
      omega
    · obtain ⟨ch, _, rfl⟩ := List.mem_map.mp h
      rcases ch.valid with h | ⟨h1, h2⟩
      · show ch.val.toNat < 1114112
        have : ch.val.toNat < 0xd800 := h
        omega
      · exact h2
  intro x h
  unfold Builtin.Str.reprChar at h
  simp only [] at h
  split at h
  · simp at h; omega
  · split at h
    · simp at h; omega
    · split at h
      · simp at h; omega
      · split at h
        · simp at h; omega
        · split at h
          · simp at h; omega
          · split at h
            · rcases List.mem_append.mp h with h | h
              · simp at h; omega
              · exact hx 2 x h
            · split at h
              · rcases List.mem_append.mp h with h | h
                · simp at h; omega
                · exact hx 4 x h
              · rcases List.mem_append.mp h with h | h
                · simp at h; omega
                · exact hx 8 x h
theorem cpOk_repr {s : Str} (h : cpOk s) : cpOk (reprText s) := by
  have hq : reprQuote s < 128 := by unfold reprQuote; split <;> decide
  have key : ∀ (l : List Nat) (out : Array Nat), (∀ c ∈ l, c < 1114112) → (∀ c ∈ out.toList, c < 1114112) → ∀ c ∈ (l.foldl (fun out c => out ++ (Builtin.Str.reprChar (reprQuote s) c).toArray) out).toList, c < 1114112 := by
    intro l
    induction l with
    | nil => intro out _ h2; exact h2
    | cons a l ih =>
      intro out h1 h2
      refine ih _ (fun c hc => h1 c (List.mem_cons_of_mem _ hc)) fun c hc => ?_
      rw [Array.toList_append] at hc
      rcases List.mem_append.mp hc with q | q
      · exact h2 c q
      · exact reprChar_ok hq (h1 a List.mem_cons_self) c q
  intro c hc
  unfold reprText at hc
  rw [Array.toList_push] at hc
  rcases List.mem_append.mp hc with q | q
  · rw [← Array.foldl_toList] at q
    refine key s.cps.toList #[reprQuote s] h (fun c hc => ?_) c q
    have : c = reprQuote s := by simpa using hc
    omega
  · have : c = reprQuote s := by simpa using q
    omega
mutual
theorem cpOk_shown : ∀ d : D, plain d = true → PyData.canLay0 (toPy d) = true → cpOk (toPy d).shown
  | .non, _, _ => by
    show cpOk (PyData.shown .none)
    simp only [PyData.shown]; exact cpOk_of _
  | .bl b, _, _ => by
    show cpOk (PyData.shown (.bool b))
    simp only [PyData.shown]; split <;> exact cpOk_of _
  | .int i, _, _ => by
    show cpOk (PyData.shown (.int i))
    simp only [PyData.shown]; exact cpOk_of _
  | .str s, _, h => by
    show cpOk (PyData.shown (.str s))
    simp only [PyData.shown]
    refine cpOk_repr fun c hc => ?_
    have h' : s.cps.all (· < 0x110000) = true := h
    rw [← Array.all_toList] at h'
    exact of_decide_eq_true (List.all_eq_true.mp h' c hc)
  | .tup l, p, h => by
    show cpOk (PyData.shown (.tuple (toPyL l)))
    simp only [PyData.shown]
    exact cpOk_append (cpOk_append (cpOk_of _) (cpOk_join _ (cpOk_of _) _ (cpOk_shownL l p h))) (cpOk_of _)
  | .lst l, p, h => by
    show cpOk (PyData.shown (.list (toPyL l)))
    simp only [PyData.shown]
    exact cpOk_append (cpOk_textFrom _ _ _ (cpOk_of _) (cpOk_shownL l p h)) (cpOk_of _)
  | .scr l, _, _ => by
    show cpOk (PyData.shown (.list (l.map .int)))
    simp only [PyData.shown]
    refine cpOk_append (cpOk_textFrom _ _ _ (cpOk_of _) fun t ht => ?_) (cpOk_of _)
    have key : ∀ (l : List Int), ∀ t ∈ PyData.shownAll (l.map .int), cpOk t := by
      intro l
      induction l with
      | nil => intro t ht; simp [PyData.shownAll] at ht
      | cons a l ih =>
        intro t ht
        simp only [List.map_cons, PyData.shownAll, List.mem_cons] at ht
        rcases ht with rfl | ht
        · simp only [PyData.shown]; exact cpOk_of _
        · exact ih t ht
    exact key l t ht
  | .pair _, p, _ => by cases p
  | .ins _ _ _, p, _ => by cases p
  | .dct _ _, p, _ => by cases p
  | .dcl _ _, p, _ => by cases p
  | .ptr _, p, _ => by cases p
  | .cls _, p, _ => by cases p
  | .rng _ _, p, _ => by cases p
  | .exc _ _ _, p, _ => by cases p
theorem cpOk_shownL : ∀ l : List D, plainL l = true → PyData.canLayAll0 (toPyL l) = true → ∀ t ∈ PyData.shownAll (toPyL l), cpOk t
  | [], _, _, t, ht => by simp [toPyL, PyData.shownAll] at ht
  | d :: l, p, h, t, ht => by
    have p' := Bool.and_eq_true_iff.mp (show (plain d && plainL l) = true from p)
    have h' := Bool.and_eq_true_iff.mp (show (PyData.canLay0 (toPy d) && PyData.canLayAll0 (toPyL l)) = true from h)
    have ht' : t ∈ PyData.shown (toPy d) :: PyData.shownAll (toPyL l) := by simpa [toPyL, PyData.shownAll] using ht
    rcases List.mem_cons.mp ht' with rfl | q
    · exact cpOk_shown d p'.1 h'.1
    · exact cpOk_shownL l p'.2 h'.2 t q
end
structure Shw (d : D) (n : Nat) : Prop where
  pl : plain d = true
  dp : (toPy d).depth ≤ 60
  ly : PyData.canLay0 (toPy d) = true
  sh : (toPy d).showable = true
  le : (toPy d).leavesShort 13 = true
  bk : (toPy d).bulk ≤ n
theorem Shw.ok {d : D} {n : Nat} (h : Shw d n) (hn : n ≤ 1000000) : okR d = true := by
  have h1 := h.dp
  have h2 := h.bk
  have e : okD d = true := by unfold okD; rw [h.pl, decide_eq_true (by omega)]; rfl
  have hl := PyData.shown_le_bulk 13 (by decide) (toPy d) h.le
  have hs : sOk (toPy d).shown = true := by
    unfold sOk
    rw [Bool.and_eq_true]
    refine ⟨?_, decide_eq_true ?_⟩
    · rw [← Array.all_toList]
      exact List.all_eq_true.mpr fun c hc => decide_eq_true (cpOk_shown d h.pl h.ly c hc)
    · show (toPy d).shown.length ≤ _
      omega
  unfold okR
  rw [e, h.sh, hs]; rfl
theorem Shw.int {i : Int} (h : i.natAbs < 1000000000000) : Shw (.int i) 0 := ⟨rfl, Nat.zero_le _, rfl, by
  show decide (i.natAbs.log2 < 1920) = true
  refine decide_eq_true ?_
  by_cases q : i.natAbs = 0
  · rw [q]; decide
  · rw [Nat.log2_lt q]
    exact Nat.lt_of_lt_of_le h (Nat.le_trans (show 1000000000000 ≤ 2 ^ 40 by decide) (Nat.pow_le_pow_right (by decide) (by decide))), by
  show decide ((PyData.shown (.int i)).length ≤ 13) = true
  exact decide_eq_true (PyData.shown_int_le (by simpa using h)), Nat.le_refl _⟩
theorem Shw.bl {b : Bool} : Shw (.bl b) 0 := ⟨rfl, Nat.zero_le _, rfl, rfl, rfl, Nat.le_refl _⟩
theorem Shw.non : Shw .non 0 := ⟨rfl, Nat.zero_le _, rfl, rfl, rfl, Nat.le_refl _⟩
theorem Shw.str {s : Str} {n : Nat} (h : cpOk s) (hn : s.cps.size ≤ n) : Shw (.str s) n := ⟨rfl, Nat.zero_le _, by
  show s.cps.all (· < 0x110000) = true
  rw [← Array.all_toList]
  exact List.all_eq_true.mpr fun c hc => decide_eq_true (h c hc), rfl, by
  show (s.cps.toList.all fun c => decide (c < 16 ^ 8)) = true
  exact List.all_eq_true.mpr fun c hc => decide_eq_true (Nat.lt_trans (h c hc) (by decide)), hn⟩
theorem Shw.up {d : D} {n m : Nat} (h : Shw d n) (q : n ≤ m) : Shw d m := ⟨h.pl, h.dp, h.ly, h.sh, h.le, Nat.le_trans h.bk q⟩
structure ShwL (l : List D) (k n : Nat) : Prop where
  pl : plainL l = true
  dp : PyData.depthAll (toPyL l) ≤ k
  ly : PyData.canLayAll0 (toPyL l) = true
  sh : PyData.showableAll (toPyL l) = true
  le : PyData.leavesShortAll 13 (toPyL l) = true
  bk : PyData.bulkAll (toPyL l) ≤ n
theorem ShwL.nil {k : Nat} : ShwL [] k 0 := ⟨rfl, Nat.zero_le _, rfl, rfl, rfl, Nat.le_refl _⟩
theorem ShwL.cons {d : D} {l : List D} {k n m : Nat} (h : Shw d n) (hd : (toPy d).depth ≤ k) (g : ShwL l k m) : ShwL (d :: l) k (n + 1 + m) := by
  have h1 := h.bk
  have h2 := g.bk
  have h3 := g.dp
  exact ⟨by show (plain d && plainL l) = true; rw [h.pl, g.pl]; rfl, by show max (toPy d).depth (PyData.depthAll (toPyL l)) ≤ k; omega,
   by show (PyData.canLay0 (toPy d) && PyData.canLayAll0 (toPyL l)) = true; rw [h.ly, g.ly]; rfl, by show (PyData.showable (toPy d) && PyData.showableAll (toPyL l)) = true; rw [h.sh, g.sh]; rfl,
   by show (PyData.leavesShort 13 (toPy d) && PyData.leavesShortAll 13 (toPyL l)) = true; rw [h.le, g.le]; rfl, by show (toPy d).bulk + 1 + PyData.bulkAll (toPyL l) ≤ _; omega⟩
theorem ShwL.map {α : Type} {e : α → D} {k c : Nat} (h : ∀ a, Shw (e a) c) (hd : ∀ a, (toPy (e a)).depth ≤ k) : ∀ l : List α, ShwL (l.map e) k (l.length * (c + 1))
  | [] => by rw [List.length_nil, Nat.zero_mul]; exact ShwL.nil
  | a :: l => by
    have := ShwL.cons (h a) (hd a) (ShwL.map h hd l)
    rw [List.length_cons, Nat.succ_mul, show l.length * (c + 1) + (c + 1) = c + 1 + l.length * (c + 1) by omega]
    exact this
theorem ShwL.lst {l : List D} {k n : Nat} (h : ShwL l k n) (hk : k < 60) : Shw (.lst l) n := ⟨h.pl, Nat.succ_le_of_lt (Nat.lt_of_le_of_lt h.dp hk), h.ly, h.sh, h.le, h.bk⟩
theorem ShwL.tup {l : List D} {k n : Nat} (h : ShwL l k n) (hk : k < 60) : Shw (.tup l) n := ⟨h.pl, Nat.succ_le_of_lt (Nat.lt_of_le_of_lt h.dp hk), h.ly, h.sh, h.le, h.bk⟩
theorem Shw.ch {c : Nat} (h : c < 1114112) : Shw (chD c) 1 := by
  refine Shw.str (fun x hx => ?_) (Nat.le_refl _)
  have : x = c := by simpa using hx
  omega
@[simp] theorem res_ch {ε : SE} {c : Nat} : Val.res ε (.d (chD c)) = some (chD c) := id rfl
@[simp] theorem res_nI {ε : SE} {c : Nat} : Val.res ε (.d (nI c)) = some (nI c) := id rfl
@[simp] theorem eqD_ch {a b : Nat} : eqD (chD a) (chD b) = some (.d (.bl (decide (a = b)))) := Enc.ch.eqD (by decide) a b
@[simp] theorem neD_ch {a b : Nat} : neD (chD a) (chD b) = some (.d (.bl (!decide (a = b)))) := Enc.ch.neD (by decide) a b
@[simp] theorem eqD_nI {a b : Nat} : eqD (nI a) (nI b) = some (.d (.bl (decide (a = b)))) := Enc.nat.eqD (by decide) a b
@[simp] theorem neD_nI {a b : Nat} : neD (nI a) (nI b) = some (.d (.bl (!decide (a = b)))) := Enc.nat.neD (by decide) a b
@[simp] theorem inD_chT {a : Nat} {l : List Nat} : inD (chD a) (.tup (l.map chD)) = some (decide (a ∈ l)) := Enc.ch.inTup (fun _ => rfl) a l
@[simp] theorem inD_chL {a : Nat} {l : List Nat} : inD (chD a) (.lst (l.map chD)) = some (decide (a ∈ l)) := Enc.ch.inLst (by decide) a l
@[simp] theorem tabT_str_NoneType : tabT "str" (.ty "NoneType") = some false := by decide +kernel
@[simp] theorem tabT_str_bool : tabT "str" (.ty "bool") = some false := by decide +kernel
@[simp] theorem tabT_str_int : tabT "str" (.ty "int") = some false := by decide +kernel
@[simp] theorem tabT_str_str : tabT "str" (.ty "str") = some true := by decide +kernel
@[simp] theorem tabT_str_tuple : tabT "str" (.ty "tuple") = some false := by decide +kernel
@[simp] theorem tabT_str_list : tabT "str" (.ty "list") = some false := by decide +kernel
@[simp] theorem tabT_str_dict : tabT "str" (.ty "dict") = some false := by decide +kernel
@[simp] theorem tabT_int_NoneType : tabT "int" (.ty "NoneType") = some false := by decide +kernel
@[simp] theorem tabT_int_bool : tabT "int" (.ty "bool") = some true := by decide +kernel
@[simp] theorem tabT_int_int : tabT "int" (.ty "int") = some true := by decide +kernel
@[simp] theorem tabT_int_str : tabT "int" (.ty "str") = some false := by decide +kernel
@[simp] theorem tabT_int_tuple : tabT "int" (.ty "tuple") = some false := by decide +kernel
@[simp] theorem tabT_int_list : tabT "int" (.ty "list") = some false := by decide +kernel
@[simp] theorem tabT_int_dict : tabT "int" (.ty "dict") = some false := by decide +kernel
@[simp] theorem tabT_bool_NoneType : tabT "bool" (.ty "NoneType") = some false := by decide +kernel
@[simp] theorem tabT_bool_bool : tabT "bool" (.ty "bool") = some true := by decide +kernel
@[simp] theorem tabT_bool_int : tabT "bool" (.ty "int") = some false := by decide +kernel
@[simp] theorem tabT_bool_str : tabT "bool" (.ty "str") = some false := by decide +kernel
@[simp] theorem tabT_bool_tuple : tabT "bool" (.ty "tuple") = some false := by decide +kernel
@[simp] theorem tabT_bool_list : tabT "bool" (.ty "list") = some false := by decide +kernel
@[simp] theorem tabT_bool_dict : tabT "bool" (.ty "dict") = some false := by decide +kernel
@[simp] theorem tabT_tuple_NoneType : tabT "tuple" (.ty "NoneType") = some false := by decide +kernel
@[simp] theorem tabT_tuple_bool : tabT "tuple" (.ty "bool") = some false := by decide +kernel
@[simp] theorem tabT_tuple_int : tabT "tuple" (.ty "int") = some false := by decide +kernel
@[simp] theorem tabT_tuple_str : tabT "tuple" (.ty "str") = some false := by decide +kernel
@[simp] theorem tabT_tuple_tuple : tabT "tuple" (.ty "tuple") = some true := by decide +kernel
@[simp] theorem tabT_tuple_list : tabT "tuple" (.ty "list") = some false := by decide +kernel
@[simp] theorem tabT_tuple_dict : tabT "tuple" (.ty "dict") = some false := by decide +kernel
@[simp] theorem tabT_list_NoneType : tabT "list" (.ty "NoneType") = some false := by decide +kernel
@[simp] theorem tabT_list_bool : tabT "list" (.ty "bool") = some false := by decide +kernel
@[simp] theorem tabT_list_int : tabT "list" (.ty "int") = some false := by decide +kernel
@[simp] theorem tabT_list_str : tabT "list" (.ty "str") = some false := by decide +kernel
@[simp] theorem tabT_list_tuple : tabT "list" (.ty "tuple") = some false := by decide +kernel
@[simp] theorem tabT_list_list : tabT "list" (.ty "list") = some true := by decide +kernel
@[simp] theorem tabT_list_dict : tabT "list" (.ty "dict") = some false := by decide +kernel
@[simp] theorem tabT_dict_NoneType : tabT "dict" (.ty "NoneType") = some false := by decide +kernel
@[simp] theorem tabT_dict_bool : tabT "dict" (.ty "bool") = some false := by decide +kernel
@[simp] theorem tabT_dict_int : tabT "dict" (.ty "int") = some false := by decide +kernel
@[simp] theorem tabT_dict_str : tabT "dict" (.ty "str") = some false := by decide +kernel
@[simp] theorem tabT_dict_tuple : tabT "dict" (.ty "tuple") = some false := by decide +kernel
@[simp] theorem tabT_dict_list : tabT "dict" (.ty "list") = some false := by decide +kernel
@[simp] theorem tabT_dict_dict : tabT "dict" (.ty "dict") = some true := by decide +kernel
@[simp] theorem tabC_NoneType {l : List (Nat × Bool)} : tabC l (.ty "NoneType") = some false := by
  show (if tyNames.contains "NoneType" = true then some false else none) = _
  rw [show tyNames.contains "NoneType" = true from by decide +kernel]; rfl
@[simp] theorem tabC_bool {l : List (Nat × Bool)} : tabC l (.ty "bool") = some false := by
  show (if tyNames.contains "bool" = true then some false else none) = _
  rw [show tyNames.contains "bool" = true from by decide +kernel]; rfl
@[simp] theorem tabC_int {l : List (Nat × Bool)} : tabC l (.ty "int") = some false := by
  show (if tyNames.contains "int" = true then some false else none) = _
  rw [show tyNames.contains "int" = true from by decide +kernel]; rfl
@[simp] theorem tabC_str {l : List (Nat × Bool)} : tabC l (.ty "str") = some false := by
  show (if tyNames.contains "str" = true then some false else none) = _
  rw [show tyNames.contains "str" = true from by decide +kernel]; rfl
@[simp] theorem tabC_tuple {l : List (Nat × Bool)} : tabC l (.ty "tuple") = some false := by
  show (if tyNames.contains "tuple" = true then some false else none) = _
  rw [show tyNames.contains "tuple" = true from by decide +kernel]; rfl
@[simp] theorem tabC_list {l : List (Nat × Bool)} : tabC l (.ty "list") = some false := by
  show (if tyNames.contains "list" = true then some false else none) = _
  rw [show tyNames.contains "list" = true from by decide +kernel]; rfl
@[simp] theorem tabC_dict {l : List (Nat × Bool)} : tabC l (.ty "dict") = some false := by
  show (if tyNames.contains "dict" = true then some false else none) = _
  rw [show tyNames.contains "dict" = true from by decide +kernel]; rfl
@[simp] theorem eChain_s {g g' : D → D → Option Val} {fa fb fc : EM} {ε : SE} : eChain g g' fa fb fc ε = (fzE fa ε).bind fun ra => (fzE fb ra.2).bind fun rb => (ra.1.res rb.2).bind fun d => (rb.1.res rb.2).bind fun e => (g d e).bind fun v => (blV v).bind fun k =>
  if k = true then (fzE fc rb.2).bind fun rc => (rb.1.res rc.2).bind fun e' => (rc.1.res rc.2).bind fun f => (g' e' f).map fun r => (r, rc.2) else some (.d (.bl false), rb.2) := id rfl
@[simp] theorem blV_b {b : Bool} : blV (.d (.bl b)) = some b := id rfl
@[simp] theorem kindD_bl {ε : SE} {s : Bool} : kindD ε (.bl s) = some (.ty "bool") := id rfl
@[simp] theorem kindD_dct {ε : SE} {k : List L2.Key} {s : List D} : kindD ε (.dct k s) = some (.ty "dict") := id rfl
@[simp] theorem kindD_ch {ε : SE} {c : Nat} : kindD ε (chD c) = some (.ty "str") := id rfl
@[simp] theorem kindD_nI {ε : SE} {c : Nat} : kindD ε (nI c) = some (.ty "int") := id rfl
@[simp] theorem max2D_nI {i j : Nat} : max2D [nI i, nI j] = some (.d (nI (max i j))) := by
  show some (Val.d (.int (if (j : Int) > (i : Int) then (j : Int) else (i : Int)))) = some (Val.d (.int ((max i j : Nat) : Int)))
  split
  · rw [show max i j = j by omega]
  · rw [show max i j = i by omega]
@[simp] theorem popM_nI {l : List D} {i : Nat} (h : Fit i) : popM (.lst l) [nI i] = if i < l.length then (l[i]?).map fun x => (.lst (l.eraseIdx i), x) else none := by
  have b : bnd (i : Int) = true := bnd_mk (by omega) (by unfold Fit at h; omega)
  show popM (.lst l) [.int (i : Int)] = _
  rw [popM_s b]
  by_cases q : i < l.length
  · rw [ixN_nat q, if_pos q]; rfl
  · rw [if_neg q]
    have : ixN l.length (i : Int) = none := by
      unfold ixN
      rw [if_pos (by omega), if_neg (by omega)]
    rw [this]; rfl
end KD

set_option maxHeartbeats 4000000
namespace KD
open PySem PySem.Spec PyProof.Rows L2
@[simp] theorem extUM_l {l m : List D} (h : FitE (l.length + m.length)) : extUM (.lst l) [.lst m] = some (.lst (l ++ m), .non) := if_pos h
@[simp] theorem extUM_t {l m : List D} (h : FitE (l.length + m.length)) : extUM (.lst l) [.tup m] = some (.lst (l ++ m), .non) := if_pos h
@[simp] theorem iadd2_i {i j : Int} : iadd2 (.int i) (.int j) = some (.int (i + j)) := id rfl
@[simp] theorem iadd2_s {a b : Str} (h : FitE (a.length + b.length)) : iadd2 (.str a) (.str b) = some (.str (a ++ b)) := if_pos h
theorem for_ix {α : Type} {g : GM} {body : SM} (enc : α → D) (I : Nat → SE → Prop) (xs : List α) (ε : SE) (h0 : I 0 ε)
    (st : ∀ n a ε, xs[n]? = some a → I n ε → ∃ ε1 ε2, g (enc a) ε = some ε1 ∧ (body ε1 = some (.nx ε2) ∨ body ε1 = some (.ct ε2)) ∧ I (n + 1) ε2) :
    ∃ ε', loopF g body (xs.map enc) ε = some (.nx ε') ∧ I xs.length ε' := by
  obtain ⟨ε', e, h⟩ := loopF_inv (g := g) (body := body) I (xs.map enc) 0 ε h0 (fun n ε d hd hi => by
    rw [List.getElem?_map] at hd
    obtain ⟨a, ha, rfl⟩ := Option.map_eq_some_iff.mp hd
    rw [Nat.zero_add] at hi ⊢
    exact st n a ε ha hi)
  rw [Nat.zero_add, List.length_map] at h
  exact ⟨ε', e, h⟩
@[simp] theorem repr2D_l {l : List D} : repr2D [.lst l] = reprD [.lst l] := id rfl
@[simp] theorem repr2D_t {l : List D} : repr2D [.tup l] = reprD [.tup l] := id rfl
@[simp] theorem repr2D_i {i : Int} : repr2D [.int i] = reprD [.int i] := id rfl
end KD

set_option maxHeartbeats 4000000
namespace KD
open PySem PySem.Spec PyProof.Rows L2
@[simp] theorem eDnew_s {ε : SE} : eDnew ε = some (.new (.dct [] []), ε) := id rfl
@[simp] theorem eDisp1_s {fk fv : EM} {ε : SE} : eDisp1 fk fv ε = (escE fk ε).bind fun k => (keyD k.1).bind fun key => (escE fv k.2).map fun y => (.new (.dct [key] [y.1]), y.2) := id rfl
@[simp] theorem keyD_i {i : Int} : keyD (.int i) = some (.inl i) := id rfl
@[simp] theorem keyD_s {s : Str} : keyD (.str s) = some (.inr s) := id rfl
@[simp] theorem sDput_s {fo fi fe : EM} {ε : SE} : sDput fo fi fe ε = (escE fe ε).bind fun re => (fzE fo re.2).bind fun ro => (fzE fi ro.2).bind fun ri => putR re.1 ro.1 ri.2 (tgt ri.2 ro.1) ((ri.1.res ri.2).bind keyD) := id rfl
@[simp] theorem eDget2_s {fo fk fx : EM} {ε : SE} : eDget2 fo fk fx ε = (fzE fo ε).bind fun ro => (ro.1.res ro.2).bind fun d0 => if isDct d0 = true then (fzE fk ro.2).bind fun rk => (escE fx rk.2).bind fun rx => (ro.1.res rx.2).bind fun d => (rk.1.res rx.2).bind fun i => (dgetO d i).map fun o => (.d (o.getD rx.1), rx.2) else none := id rfl
@[simp] theorem eRev_s {fe : EM} {fs : OM} {ε : SE} : eRev fe fs ε = (fzE fe ε).bind fun r => (fs r.2).bind fun l => (r.1.res l.2).bind fun d => if l.1 = some (-1) then (revD d).map fun v => (v, l.2) else none := id rfl
@[simp] theorem revD_l {l : List D} : revD (.lst l) = some (.new (.lst l.reverse)) := id rfl
@[simp] theorem revD_t {l : List D} : revD (.tup l) = some (.d (.tup l.reverse)) := id rfl
@[simp] theorem isDct_d {ks : List L2.Key} {l : List D} : isDct (.dct ks l) = true := id rfl
@[simp] theorem dgetO_d {ks : List L2.Key} {l : List D} {i : D} : dgetO (.dct ks l) i = (keyD i).map fun k => valD (ks.zip l) k := id rfl
end KD

set_option maxHeartbeats 4000000
namespace KD
open PySem PySem.Spec PyProof.Rows L2
@[simp] theorem eOwn_s {c : Nat} {f : FM} {p : Val → Bool} {o : SE → List D → Bool} {fa : AM} {ε : SE} : eOwn c f p o fa ε = (fa ε).bind fun r => (escL r.2 r.1).bind fun q => ownV c f p o q := id rfl
@[simp] theorem ownV_ins {c c' : Nat} {f : FM} {p : Val → Bool} {o : SE → List D → Bool} {ns : List Str} {l rest : List D} {ε : SE} : ownV c f p o (.ins c' ns l :: rest, ε) = if c' = c ∧ o ε rest = true then (f (.ins c' ns l :: rest) ε.M).bind fun r => if r.2.length = ε.M.length ∧ p r.1 = true then some (r.1, { ε with M := r.2 }) else none else none := id rfl
@[simp] theorem nutE_s {g : EM} {ε : SE} : nutE g ε = (g ε).bind fun r => match r.1 with | .d (.bl b) => some (.d (.bl (!b)), r.2) | _ => none := id rfl
@[simp] theorem anyO_n {ε : SE} : anyO ε [] = true := id rfl
@[simp] theorem othO_i {c c' : Nat} {ε : SE} {ns : List Str} {l : List D} : othO c ε [.ins c' ns l] = (c' == c) := id rfl
@[simp] theorem othO_s {c : Nat} {ε : SE} {z : Str} : othO c ε [.str z] = true := id rfl
@[simp] theorem othO_l {c : Nat} {ε : SE} {l : List D} : othO c ε [.lst l] = true := id rfl
@[simp] theorem othO_t {c : Nat} {ε : SE} {l : List D} : othO c ε [.tup l] = true := id rfl
@[simp] theorem blOk_b {b : Bool} : blOk (.d (.bl b)) = true := id rfl
@[simp] theorem strOk_s {z : Str} : strOk (.d (.str z)) = true := id rfl
@[simp] theorem consCls_s {c : Nat} {fa : AM} {ε : SE} : consCls c fa ε = (fa ε).map fun r => (.d (.cls c) :: r.1, r.2) := id rfl
@[simp] theorem eMakeL_s {i c : Nat} {f : FM} {dd : List D} {fa : AM} {ε : SE} : eMakeL i c f dd fa ε = if clsAt ε i = some c then eMake c f dd fa ε else none := id rfl
@[simp] theorem clsAt_0 {c : Nat} {l : List Sl} {M : List MO} : clsAt ⟨.d (.cls c) :: l, M⟩ 0 = some c := id rfl
@[simp] theorem neLO_l {c : Nat} {f : FM} {l m : List D} : neLO c f (.lst l) (.lst m) = if pairT c f l m = true then some (.d (.bl false)) else none := id rfl
@[simp] theorem isStrD_s {z : Str} : isStrD (.str z) = true := id rfl
end KD
namespace KD
open PySem PySem.Spec PyProof.Rows L2
@[simp] theorem eB0_s {g : EM} {ε : SE} : eB0 g ε = (g ε).bind fun r => match r.1 with | .d (.int i) => some (.d (.bl (i != 0)), r.2) | _ => none := id rfl
@[simp] theorem gT2_s {gs : GsM} {z : Str} {ε : SE} : gT2 gs (.str z) ε = if z.cps.size = 2 then gs (z.cps.toList.map chD) ε else none := id rfl
end KD

set_option maxHeartbeats 4000000
namespace KD
open PySem PySem.Spec PyProof.Rows L2
@[simp] theorem eGuard_s {f C : EM} {ε : SE} : eGuard f C ε = match f ε with | some (.ex x, ε') => some (.ex x, ε') | _ => nex C ε := id rfl
@[simp] theorem eGuardP_s {i j : Nat} {f C : EM} {ε : SE} : eGuardP i j f C ε = match f ε with | some (.ex x, ε') => if ((eVar i ε).isSome && (eVar j ε).isSome) = true then some (.ex x, ε') else none | _ => nex C ε := id rfl
@[simp] theorem sGuard_s {f : EM} {S : SM} {ε : SE} : sGuard f S ε = match f ε with | some (.ex x, ε') => some (.ex x ε') | _ => S ε := id rfl
@[simp] theorem sRaise1_s {c : Nat} {f : Str} {fe : EM} {ε : SE} : sRaise1 c f fe ε = (escE fe ε).map fun r => .ex (.exc c [f] [r.1]) r.2 := id rfl
@[simp] theorem sRaise0_s {c : Nat} {ε : SE} : sRaise0 c ε = some (.ex (.exc c [] []) ε) := id rfl
@[simp] theorem outX_x {f : Val → SE → Option Out} {x : D} {ε : SE} : outX f (.ex x, ε) = some (.ex x ε) := id rfl
@[simp] theorem outX_d {f : Val → SE → Option Out} {x : D} {ε : SE} : outX f (.d x, ε) = f (.d x) ε := id rfl
@[simp] theorem outX_n {f : Val → SE → Option Out} {m : MO} {ε : SE} : outX f (.new m, ε) = f (.new m) ε := id rfl
@[simp] theorem outX_o {f : Val → SE → Option Out} {i : Nat} {ε : SE} : outX f (.old i, ε) = f (.old i) ε := id rfl
@[simp] theorem sExprX_s {f : EM} {ε : SE} : sExprX f ε = (f ε).bind (outX fun _ ε1 => some (.nx ε1)) := id rfl
@[simp] theorem sRetX_s {f : EM} {ε : SE} : sRetX f ε = (f ε).bind (outX fun v ε1 => some (.rt v ε1)) := id rfl
@[simp] theorem sSetX_s {i : Nat} {f : EM} {ε : SE} : sSetX i f ε = (f ε).bind (outX fun v ε1 => (storeV ε1 i v).map .nx) := id rfl
@[simp] theorem finX_x {x : D} {ε : SE} : finX (.ex x ε) = some (.ex x, ε.M) := id rfl
@[simp] theorem finX_nx {ε : SE} : finX (.nx ε) = some (.d .non, ε.M) := id rfl
@[simp] theorem finX_rt {v : Val} {ε : SE} : finX (.rt v ε) = finV (.rt v ε) := id rfl
@[simp] theorem runX_if {n N : Nat} {f : SM} {ds : List D} {M : List MO} : runX n N f ds M = if ds.length = n then (f ⟨slots0 ds N, M⟩).bind finX else none := id rfl
@[simp] theorem nex_s {f : EM} {ε : SE} : nex f ε = (f ε).bind fun r => match r.1 with | .ex _ => none | _ => some r := id rfl
@[simp] theorem eIsX_s {tab : List (Nat × Bool)} {fe : EM} {ε : SE} : eIsX tab fe ε = (fzE fe ε).bind fun r => (r.1.res r.2).bind fun d => match d with | .exc c _ _ => (tab.lookup c).map fun b => (.d (.bl b), r.2) | _ => none := id rfl
@[simp] theorem eXFld_s {cs : List Nat} {f : Str} {fe : EM} {ε : SE} : eXFld cs f fe ε = (fzE fe ε).bind fun r => (r.1.res r.2).bind fun d => match d with | .exc c ns ds => if c ∈ cs then ((ns.zip ds).lookup f).map fun x => (.d x, r.2) else none | _ => none := id rfl
@[simp] theorem eBM0_s {p : D → Bool} {g : D → List D → Option Val} {fo : EM} {ε : SE} : eBM0 p g fo ε = eBM p g fo aNil ε := id rfl
@[simp] theorem cntBD_s {l : List D} {b : Bool} : cntBD (.lst l) [.bl b] = (blsOf l).map fun l' => .d (.int ((l'.countP (· == b) : Nat) : Int)) := id rfl
@[simp] theorem mask_c {x : Sl} {l : List Sl} : mask (x :: l) = keepD x :: mask l := id rfl
@[simp] theorem mask_n : mask [] = [] := id rfl
@[simp] theorem keepD_d {x : D} : keepD (.d x) = .d x := id rfl
@[simp] theorem keepD_o {m : MO} : keepD (.own m) = .no := id rfl
@[simp] theorem keepD_n : keepD .no = .no := id rfl
@[simp] theorem res_exc {ε : SE} {c : Nat} {ns : List Str} {l : List D} : Val.res ε (.d (.exc c ns l)) = some (.exc c ns l) := id rfl
end KD
namespace KD
@[simp] theorem eqTD_t {l : List D} : eqTD (.tup l) (.tup []) = some (.d (.bl l.isEmpty)) := id rfl
end KD

set_option maxHeartbeats 4000000
namespace KM
open PySem PySem.Spec PyProof.Rows L2 KD
noncomputable section
def xt_SizeError : List (Nat × Bool) := [(21, false), (22, false), (23, false), (24, false), (25, false), (26, false), (27, false), (28, false), (29, false), (30, false), (31, false), (32, false), (33, false), (35, false), (36, false), (37, false), (38, false), (39, false), (40, false), (41, false), (42, false), (44, true)]
def xt_QuestionError : List (Nat × Bool) := [(21, false), (22, false), (23, false), (24, false), (25, false), (26, false), (27, false), (28, false), (29, false), (30, false), (31, false), (32, false), (33, false), (35, true), (36, true), (37, true), (38, true), (39, true), (40, true), (41, true), (42, true), (44, false)]
def xt_ShapeError : List (Nat × Bool) := [(21, true), (22, true), (23, true), (24, true), (25, true), (26, true), (27, true), (28, true), (29, true), (30, true), (31, true), (32, true), (33, true), (35, false), (36, false), (37, false), (38, false), (39, false), (40, false), (41, false), (42, false), (44, false)]
def xt_ArithmeticError : List (Nat × Bool) := [(21, false), (22, false), (23, false), (24, false), (25, false), (26, false), (27, false), (28, false), (29, false), (30, false), (31, false), (32, false), (33, false), (35, false), (36, false), (37, false), (38, false), (39, false), (40, false), (41, false), (42, false), (44, true)]
def xt_LookupError : List (Nat × Bool) := [(21, false), (22, false), (23, false), (24, false), (25, false), (26, false), (27, false), (28, false), (29, false), (30, false), (31, false), (32, false), (33, false), (35, true), (36, true), (37, true), (38, true), (39, true), (40, true), (41, true), (42, true), (44, false)]
def xt_ValueError : List (Nat × Bool) := [(21, true), (22, true), (23, true), (24, true), (25, true), (26, true), (27, true), (28, true), (29, true), (30, true), (31, true), (32, true), (33, true), (35, false), (36, false), (37, false), (38, false), (39, false), (40, false), (41, false), (42, false), (44, false)]
def xt_InvalidText : List (Nat × Bool) := [(21, false), (22, false), (23, true), (24, false), (25, false), (26, false), (27, false), (28, false), (29, false), (30, false), (31, false), (32, false), (33, false), (35, false), (36, false), (37, false), (38, false), (39, false), (40, false), (41, false), (42, false), (44, false)]
def xt_InvalidTies : List (Nat × Bool) := [(21, false), (22, true), (23, false), (24, false), (25, false), (26, false), (27, false), (28, false), (29, false), (30, false), (31, false), (32, false), (33, false), (35, false), (36, false), (37, false), (38, false), (39, false), (40, false), (41, false), (42, false), (44, false)]
def xt_InvalidPlaces : List (Nat × Bool) := [(21, true), (22, false), (23, false), (24, false), (25, false), (26, false), (27, false), (28, false), (29, false), (30, false), (31, false), (32, false), (33, false), (35, false), (36, false), (37, false), (38, false), (39, false), (40, false), (41, false), (42, false), (44, false)]
def xt_InvalidColouring : List (Nat × Bool) := [(21, false), (22, false), (23, false), (24, false), (25, true), (26, false), (27, false), (28, false), (29, false), (30, false), (31, false), (32, false), (33, false), (35, false), (36, false), (37, false), (38, false), (39, false), (40, false), (41, false), (42, false), (44, false)]
def xt_InvalidColours : List (Nat × Bool) := [(21, false), (22, false), (23, false), (24, true), (25, false), (26, false), (27, false), (28, false), (29, false), (30, false), (31, false), (32, false), (33, false), (35, false), (36, false), (37, false), (38, false), (39, false), (40, false), (41, false), (42, false), (44, false)]
def xt_InvalidSeen : List (Nat × Bool) := [(21, false), (22, false), (23, false), (24, false), (25, false), (26, false), (27, false), (28, true), (29, false), (30, false), (31, false), (32, false), (33, false), (35, false), (36, false), (37, false), (38, false), (39, false), (40, false), (41, false), (42, false), (44, false)]
def xt_InvalidLot : List (Nat × Bool) := [(21, false), (22, false), (23, false), (24, false), (25, false), (26, false), (27, true), (28, false), (29, false), (30, false), (31, false), (32, false), (33, false), (35, false), (36, false), (37, false), (38, false), (39, false), (40, false), (41, false), (42, false), (44, false)]
def xt_InvalidArray : List (Nat × Bool) := [(21, false), (22, false), (23, false), (24, false), (25, false), (26, true), (27, false), (28, false), (29, false), (30, false), (31, false), (32, false), (33, false), (35, false), (36, false), (37, false), (38, false), (39, false), (40, false), (41, false), (42, false), (44, false)]
def xt_InvalidPromise : List (Nat × Bool) := [(21, false), (22, false), (23, false), (24, false), (25, false), (26, false), (27, false), (28, false), (29, false), (30, true), (31, false), (32, false), (33, false), (35, false), (36, false), (37, false), (38, false), (39, false), (40, false), (41, false), (42, false), (44, false)]
def xt_InvalidDeeds : List (Nat × Bool) := [(21, false), (22, false), (23, false), (24, false), (25, false), (26, false), (27, false), (28, false), (29, true), (30, false), (31, false), (32, false), (33, false), (35, false), (36, false), (37, false), (38, false), (39, false), (40, false), (41, false), (42, false), (44, false)]
def xt_NotAWeb : List (Nat × Bool) := [(21, false), (22, false), (23, false), (24, false), (25, false), (26, false), (27, false), (28, false), (29, false), (30, false), (31, false), (32, false), (33, true), (35, false), (36, false), (37, false), (38, false), (39, false), (40, false), (41, false), (42, false), (44, false)]
def xt_InvalidLine : List (Nat × Bool) := [(21, false), (22, false), (23, false), (24, false), (25, false), (26, false), (27, false), (28, false), (29, false), (30, false), (31, false), (32, true), (33, false), (35, false), (36, false), (37, false), (38, false), (39, false), (40, false), (41, false), (42, false), (44, false)]
def xt_InvalidIndex : List (Nat × Bool) := [(21, false), (22, false), (23, false), (24, false), (25, false), (26, false), (27, false), (28, false), (29, false), (30, false), (31, true), (32, false), (33, false), (35, false), (36, false), (37, false), (38, false), (39, false), (40, false), (41, false), (42, false), (44, false)]
def xt_UnknownColour : List (Nat × Bool) := [(21, false), (22, false), (23, false), (24, false), (25, false), (26, false), (27, false), (28, false), (29, false), (30, false), (31, false), (32, false), (33, false), (35, false), (36, false), (37, true), (38, false), (39, false), (40, false), (41, false), (42, false), (44, false)]
def xt_UnknownTie : List (Nat × Bool) := [(21, false), (22, false), (23, false), (24, false), (25, false), (26, false), (27, false), (28, false), (29, false), (30, false), (31, false), (32, false), (33, false), (35, false), (36, true), (37, false), (38, false), (39, false), (40, false), (41, false), (42, false), (44, false)]
def xt_UnknownPlace : List (Nat × Bool) := [(21, false), (22, false), (23, false), (24, false), (25, false), (26, false), (27, false), (28, false), (29, false), (30, false), (31, false), (32, false), (33, false), (35, true), (36, false), (37, false), (38, false), (39, false), (40, false), (41, false), (42, false), (44, false)]
def xt_TooMany : List (Nat × Bool) := [(21, false), (22, false), (23, false), (24, false), (25, false), (26, false), (27, false), (28, false), (29, false), (30, false), (31, false), (32, false), (33, false), (35, false), (36, false), (37, false), (38, false), (39, false), (40, false), (41, false), (42, false), (44, true)]
def xt_Broken : List (Nat × Bool) := [(21, false), (22, false), (23, false), (24, false), (25, false), (26, false), (27, false), (28, false), (29, false), (30, false), (31, false), (32, false), (33, false), (35, false), (36, false), (37, false), (38, false), (39, false), (40, false), (41, false), (42, true), (44, false)]
def xt_Refused : List (Nat × Bool) := [(21, false), (22, false), (23, false), (24, false), (25, false), (26, false), (27, false), (28, false), (29, false), (30, false), (31, false), (32, false), (33, false), (35, false), (36, false), (37, false), (38, false), (39, true), (40, false), (41, false), (42, false), (44, false)]
def xt_NothingToUndo : List (Nat × Bool) := [(21, false), (22, false), (23, false), (24, false), (25, false), (26, false), (27, false), (28, false), (29, false), (30, false), (31, false), (32, false), (33, false), (35, false), (36, false), (37, false), (38, false), (39, false), (40, false), (41, true), (42, false), (44, false)]
def xt_Busy : List (Nat × Bool) := [(21, false), (22, false), (23, false), (24, false), (25, false), (26, false), (27, false), (28, false), (29, false), (30, false), (31, false), (32, false), (33, false), (35, false), (36, false), (37, false), (38, false), (39, false), (40, true), (41, false), (42, false), (44, false)]
def xt_NoColouring : List (Nat × Bool) := [(21, false), (22, false), (23, false), (24, false), (25, false), (26, false), (27, false), (28, false), (29, false), (30, false), (31, false), (32, false), (33, false), (35, false), (36, false), (37, false), (38, true), (39, false), (40, false), (41, false), (42, false), (44, false)]
def xn_index : List Nat := [21, 22, 26, 27, 28, 29, 42]
def xn_limit : List Nat := [44]
def xn_value : List Nat := [23, 24, 25, 30, 31, 32, 33, 35, 36, 37, 39]
def m_l_draw : SM := (sSeq (sSetIx (eVar 0) (eC (.int 2)) (eOp addD (eOp ixD (eVar 0) (eC (.int 2))) (eC (.int 1))))
  (sSeq (sIf (eB (eOp gtD (eOp ixD (eVar 0) (eC (.int 0))) (eC (.int 0)))) (sSeq (sSet 4 (fzE (eOp modD (eCB intD' (aCons (eOp ixD (eVar 0) (eC (.int 0))) aNil)) (eVar 1))))
  (sSeq (sSetIx (eVar 0) (eC (.int 0)) (eOp fdivD (eOp ixD (eVar 0) (eC (.int 0))) (eVar 1)))
  (sRet (eVar 4)))) sNil)
  (sSeq (sSet 2 (fzE (eOp addD (eCB intD' (aCons (eOp ixD (eVar 0) (eC (.int 1))) aNil)) (eOp mulD (eC (.int 69031)) (eOp ixD (eVar 0) (eC (.int 2)))))))
  (sSeq (sSet 3 (fzE (eOp addD (eOp modD (eCB intD' (aCons (eVar 2) aNil)) (eC (.int 64033))) (eC (.int 53003)))))
  (sSeq (sSetIx (eVar 0) (eC (.int 1)) (eOp modD (eCB intD' (aCons (eOp addD (eOp addD (eOp mulD (eVar 2) (eVar 3)) (eOp mulD (eC (.int 11)) (eOp ixD (eVar 0) (eC (.int 2))))) (eC (.int 19))) aNil)) (eC (.int 2147483549))))
  (sRet (eOp modD (eOp fdivD (eCB intD' (aCons (eOp ixD (eVar 0) (eC (.int 1))) aNil)) (eC (.int 509))) (eVar 1))))))))
def f_l_draw : FM := runF 2 5 m_l_draw
def m_l_one : SM := (sRet (eOp ixD (eVar 1) (eCall f_l_draw [] (aCons (eVar 0) (aCons (eCB lenD (aCons (eVar 1) aNil)) aNil)))))
def f_l_one : FM := runF 2 2 m_l_one
def m_l_made_ones : SM := (sSeq (sSet 1 (fzE (eLst (aCons (eExc1 21 "index" (eVar 0)) (aCons (eExc1 22 "index" (eVar 0)) (aCons (eExc1 23 "value" (eVar 0)) (aCons (eExc1 24 "value" (eVar 0)) aNil)))))))
  (sSeq (sSet 1 (fzE (eOp addD (eVar 1) (eLst (aCons (eExc1 25 "value" (eVar 0)) (aCons (eExc1 26 "index" (eVar 0)) (aCons (eExc1 27 "index" (eVar 0)) (aCons (eExc1 28 "index" (eVar 0)) aNil))))))))
  (sSeq (sSet 1 (fzE (eOp addD (eVar 1) (eLst (aCons (eExc1 29 "index" (eVar 0)) (aCons (eExc1 30 "value" (eVar 0)) (aCons (eExc1 31 "value" (eVar 0)) (aCons (eExc1 32 "value" (eVar 0)) aNil))))))))
  (sSeq (sSet 1 (fzE (eOp addD (eVar 1) (eLst (aCons (eExc1 33 "value" (eVar 0)) (aCons (eExc1 35 "value" (eVar 0)) (aCons (eExc1 36 "value" (eVar 0)) (aCons (eExc1 37 "value" (eVar 0)) aNil))))))))
  (sSeq (sSet 1 (fzE (eOp addD (eVar 1) (eLst (aCons (eExc1 39 "value" (eVar 0)) (aCons (eExc1 42 "index" (eVar 0)) (aCons (eExc1 44 "limit" (eVar 0)) aNil)))))))
  (sSeq (sSet 1 (fzE (eOp addD (eVar 1) (eLst (aCons (eExc1 21 "index" (eVar 0)) (aCons (eExc1 22 "index" (eVar 0)) (aCons (eExc1 23 "value" (eVar 0)) aNil)))))))
  (sSeq (sSet 1 (fzE (eOp addD (eVar 1) (eLst (aCons (eExc1 24 "value" (eVar 0)) (aCons (eExc1 25 "value" (eVar 0)) (aCons (eExc1 26 "index" (eVar 0)) aNil)))))))
  (sSeq (sSet 1 (fzE (eOp addD (eVar 1) (eLst (aCons (eExc1 27 "index" (eVar 0)) (aCons (eExc1 28 "index" (eVar 0)) (aCons (eExc1 29 "index" (eVar 0)) aNil)))))))
  (sSeq (sSet 1 (fzE (eOp addD (eVar 1) (eLst (aCons (eExc1 30 "value" (eVar 0)) (aCons (eExc1 31 "value" (eVar 0)) (aCons (eExc1 32 "value" (eVar 0)) aNil)))))))
  (sSeq (sSet 1 (fzE (eOp addD (eVar 1) (eLst (aCons (eExc1 33 "value" (eVar 0)) (aCons (eExc1 35 "value" (eVar 0)) (aCons (eExc1 36 "value" (eVar 0)) aNil)))))))
  (sSeq (sSet 1 (fzE (eOp addD (eVar 1) (eLst (aCons (eExc1 37 "value" (eVar 0)) (aCons (eExc1 39 "value" (eVar 0)) (aCons (eExc1 42 "index" (eVar 0)) aNil)))))))
  (sSeq (sSet 1 (fzE (eOp addD (eVar 1) (eLst (aCons (eExc1 44 "limit" (eVar 0)) aNil)))))
  (sRet (eVar 1))))))))))))))
def f_l_made_ones : FM := runF 1 2 m_l_made_ones
def m_l_bases : SM := (sSeq (sSet 1 (fzE (eLst (aCons (eIsX xt_ShapeError (eVar 0)) (aCons (eIsX xt_QuestionError (eVar 0)) (aCons (eIsX xt_SizeError (eVar 0)) aNil))))))
  (sRet (eOp addD (eVar 1) (eLst (aCons (eIsX xt_ValueError (eVar 0)) (aCons (eIsX xt_LookupError (eVar 0)) (aCons (eIsX xt_ArithmeticError (eVar 0)) aNil)))))))
def f_l_bases : FM := runF 1 2 m_l_bases
def m_l_kind_of : SM := (sSeq (sSet 1 (fzE (eLst (aCons (eIsX xt_InvalidPlaces (eVar 0)) (aCons (eIsX xt_InvalidTies (eVar 0)) (aCons (eIsX xt_InvalidText (eVar 0)) aNil))))))
  (sSeq (sSet 1 (fzE (eOp addD (eVar 1) (eLst (aCons (eIsX xt_InvalidColours (eVar 0)) (aCons (eIsX xt_InvalidColouring (eVar 0)) aNil))))))
  (sSeq (sSet 1 (fzE (eOp addD (eVar 1) (eLst (aCons (eIsX xt_InvalidArray (eVar 0)) (aCons (eIsX xt_InvalidLot (eVar 0)) (aCons (eIsX xt_InvalidSeen (eVar 0)) aNil)))))))
  (sSeq (sSet 1 (fzE (eOp addD (eVar 1) (eLst (aCons (eIsX xt_InvalidDeeds (eVar 0)) (aCons (eIsX xt_InvalidPromise (eVar 0)) aNil))))))
  (sSeq (sSet 1 (fzE (eOp addD (eVar 1) (eLst (aCons (eIsX xt_InvalidIndex (eVar 0)) (aCons (eIsX xt_InvalidLine (eVar 0)) (aCons (eIsX xt_NotAWeb (eVar 0)) aNil)))))))
  (sSeq (sSet 1 (fzE (eOp addD (eVar 1) (eLst (aCons (eIsX xt_UnknownPlace (eVar 0)) (aCons (eIsX xt_UnknownTie (eVar 0)) (aCons (eIsX xt_UnknownColour (eVar 0)) aNil)))))))
  (sSeq (sSet 1 (fzE (eOp addD (eVar 1) (eLst (aCons (eIsX xt_Refused (eVar 0)) (aCons (eIsX xt_Broken (eVar 0)) (aCons (eIsX xt_TooMany (eVar 0)) aNil)))))))
  (sRet (eVar 1)))))))))
def f_l_kind_of : FM := runF 1 2 m_l_kind_of
def m_l_attribute : SM := (sSeq (sIf (eB (eOp inV1 (eVar 1) (eLst (aCons (eC (.int 0)) (aCons (eC (.int 1)) (aCons (eC (.int 5)) (aCons (eC (.int 6)) (aCons (eC (.int 7)) (aCons (eC (.int 8)) (aCons (eC (.int 17)) aNil)))))))))) (sRet (eXFld xn_index "index" (eVar 0))) sNil)
  (sRet (ifE (eB (eOp eqD (eVar 1) (eC (.int 18)))) (eXFld xn_limit "limit" (eVar 0)) (eXFld xn_value "value" (eVar 0)))))
def f_l_attribute : FM := runF 2 2 m_l_attribute
def c_l_right_v22_1 : EM := (eLc (iRange (aCons (eC (.int 19)) aNil)) (gN 11) yesB (eOp eqD (eVar 11) (eVar 10)) [11])
def b_l_right_v22_1 : SM := (sSeq (sPar [8, 10] (aConsN (fzE (eOp ixD (eVar 4) (eVar 5))) (aConsN (fzE (eOp modD (eCB intD' (aCons (eVar 5) aNil)) (eC (.int 19)))) aNil)))
  (sSeq (sSet 7 (fzE (eLst (aCons (eOp ltD (eVar 10) (eC (.int 13))) (aCons (eChain leD ltD (eC (.int 13)) (eVar 10) (eC (.int 18))) (aCons (eOp eqD (eVar 10) (eC (.int 18))) aNil))))))
  (sSeq (sIf (orB (eB (eOp neD (eCall f_l_kind_of [] (aCons (eVar 8) aNil)) c_l_right_v22_1)) (eB (eOp neD (eCall f_l_bases [] (aCons (eVar 8) aNil)) (eOp addD (eVar 7) (eVar 7))))) (sRet (eC (.bl false))) sNil)
  (sIf (eB (eOp neD (eCB repr3D (aCons (eCall f_l_attribute [] (aCons (eVar 8) (aCons (eVar 10) aNil))) aNil)) (eCB repr3D (aCons (eVar 3) aNil)))) (sRet (eC (.bl false))) sNil))))
def w_l_right_v22_1 : SM := (sFor (iRange (aCons (eC (.int 38)) aNil)) (gN 5) b_l_right_v22_1)
def c_l_right_v22_2 : EM := (eLc (iRange (aCons (eC (.int 3)) aNil)) (gN 11) yesB (eOp eqD (eVar 5) (eVar 11)) [11])
def b_l_right_v22_2 : SM := (sSeq (sIf (orB (eB (eOp neD (eCall f_l_bases [] (aCons (eVar 8) aNil)) (eOp mulD (eLst (aCons (eC (.bl false)) (aCons (eC (.bl true)) (aCons (eC (.bl false)) aNil)))) (eC (.int 2))))) (eB (eOp inV1 (eC (.bl true)) (eCall f_l_kind_of [] (aCons (eVar 8) aNil))))) (sRet (eC (.bl false))) sNil)
  (sSeq (sSet 9 (fzE (eLst (aCons (eIsX xt_NoColouring (eVar 8)) (aCons (eIsX xt_Busy (eVar 8)) (aCons (eIsX xt_NothingToUndo (eVar 8)) aNil))))))
  (sIf (eB (eOp neD (eVar 9) c_l_right_v22_2)) (sRet (eC (.bl false))) sNil)))
def w_l_right_v22_2 : SM := (sFor (iEnum1 (eVar 6)) (gT 2 (gsCons (gN 5) (gsCons (gN 8) gsNil))) b_l_right_v22_2)
def b_l_right_v22_3 : SM := (sSeq (sSet 2 (fzE (eLst (aCons (eC .non) (aCons (eC (.int 7)) (aCons (eC (.str ("a b" : Str))) (aCons (eTup (aCons (eC (.int 1)) (aCons (eC (.int 2)) aNil))) (aCons (eLst (aCons (eC (.int 3)) aNil)) (aCons eDnew (aCons (eC (.bl true)) (aCons (negE (eC (.int 1))) (aCons (eTup (aCons (eC (.str ("a" : Str))) (aCons (eC (.int 1)) aNil))) (aCons (eOp powD (eC (.int 10)) (eC (.int 30))) (aCons (eC (.str ("1212" : Str))) aNil))))))))))))))
  (sSeq (sSet 3 (fzE (eCall f_l_one [] (aCons (eVar 0) (aCons (eVar 2) aNil)))))
  (sSeq (sSet 4 (fzE (eCall f_l_made_ones [] (aCons (eVar 3) aNil))))
  (sSeq w_l_right_v22_1
  (sSeq (sSet 6 (fzE (eLst (aCons (eExc0 38) (aCons (eExc0 40) (aCons (eExc0 41) aNil))))))
  w_l_right_v22_2)))))
def w_l_right_v22_3 : SM := (sFor (iRange (aCons (eC (.int 3)) aNil)) (gN 1) b_l_right_v22_3)
def m_l_right_v22 : SM := (sSeq w_l_right_v22_3
  (sRet (eC (.bl true))))
def f_l_right_v22 : FM := runF 1 12 m_l_right_v22
def b_l_bag_1 : SM := (sSet 5 (fzE (eOp modD (eCB intD' (aCons (eOp addD (eOp addD (eOp mulD (eVar 5) (eC (.int 55711))) (eOp modD (eCB intD' (aCons (eVar 2) aNil)) (eC (.int 1000121)))) (eOp mulD (eC (.int 17)) (eVar 1))) aNil)) (eC (.int 2147483549)))))
def w_l_bag_1 : SM := (sFor (iSeq (eSlice (eVar 0) oNone (oSome (eC (.int 7))))) (gN 2) b_l_bag_1)
def m_l_bag : SM := (sSeq (sPar [4, 5] (aConsN (fzE (ifE (eB (eOp ltD (eVar 1) (eCB lenD (aCons (eVar 0) aNil)))) (eCB intD' (aCons (eOp ixD (eVar 0) (eVar 1)) aNil)) (eC (.int 0)))) (aConsN (fzE (eOp mulD (eC (.int 98909)) (eOp addD (eVar 1) (eC (.int 5))))) aNil)))
  (sSeq w_l_bag_1
  (sSeq (sSet 3 (fzE (ifE (orB (eB (eOp ltD (eVar 4) (eC (.int 0)))) (eB (eOp geD (eVar 4) (eOp powD (eC (.int 10)) (eC (.int 15)))))) (eCB absD (aCons (eVar 4) aNil)) (eC (.int 0)))))
  (sRet (eLst (aCons (eVar 3) (aCons (eOp modD (eCB intD' (aCons (eOp addD (eVar 5) (eOp mulD (eC (.int 92003)) (eOp modD (eCB intD' (aCons (eVar 4) aNil)) (eC (.int 999931))))) aNil)) (eC (.int 2147483549))) (aCons (eC (.int 0)) aNil))))))))
def f_l_bag : FM := runF 2 6 m_l_bag
def c_law_v22_1 : EM := (eLc (iRange (aCons (eCB max2D (aCons (eC (.int 2)) (aCons (eCB min2D (aCons (eCB lenD (aCons (eVar 0) aNil)) (aCons (eC (.int 4)) aNil))) aNil))) aNil)) (gN 1) yesB (eBag f_l_right_v22 [] (eCall f_l_bag [] (aCons (eVar 0) (aCons (eVar 1) aNil))) aNil) [1])
def m_law_v22 : SM := (sRet (eCB allD (aCons c_law_v22_1 aNil)))
def f_law_v22 : FM := runF 1 2 m_law_v22
end
end KM

set_option maxHeartbeats 4000000
namespace KM
open PySem PySem.Spec PyProof.Rows L2 KD
def Bag (z : Nat) (M : List MO) : Prop := ∃ a b c : Int, M = [.lst [.int a, .int b, .int c]] ∧ 0 ≤ a ∧ 0 ≤ b ∧ 0 ≤ c ∧ c ≤ (z : Int)
theorem Bag.mono {z y : Nat} {M : List MO} (h : Bag z M) (q : z ≤ y) : Bag y M := by
  obtain ⟨a, b, c, e, h1, h2, h3, h4⟩ := h
  exact ⟨a, b, c, e, h1, h2, h3, by omega⟩
theorem Bag.len {z : Nat} {M : List MO} (h : Bag z M) : M.length = 1 := by
  obtain ⟨a, b, c, rfl, _⟩ := h; rfl
def letters : List Nat := ("abcdefghijklmnopqrstuvwxyz" : Str).cps.toList
end KM

set_option maxHeartbeats 4000000
namespace KM
open PySem PySem.Spec PyProof.Rows L2 KD
@[simp] theorem subD_i {i j : Int} : subD (.int i) (.int j) = some (.d (.int (i - j))) := id rfl
def str2 (a b : Nat) : Str := ⟨#[a, b]⟩
def pairS (cs : List Nat) (p : Nat × Nat) : Str := str2 (cs.getD p.1 0) (cs.getD p.2 0)
def LexS (ps : List (Nat × Nat)) : Prop := ps.Pairwise fun p q => p.1 < q.1 ∨ (p.1 = q.1 ∧ p.2 < q.2)
structure Net (cs : List Nat) (ps : List (Nat × Nat)) : Prop where
  nd : cs.Nodup
  pos : 0 < cs.length
  le : cs.length ≤ 6
  let_ : ∀ c ∈ cs, c ∈ letters
  lex : LexS ps
  ok : ∀ p ∈ ps, p.1 < p.2 ∧ p.2 < cs.length
end KM

set_option maxHeartbeats 4000000
namespace KD
open PySem PySem.Spec PyProof.Rows L2
@[simp] theorem eIsi_s {tab : Kd → Option Bool} {fe : EM} {ε : SE} : eIsi tab fe ε = (fzE fe ε).bind fun r => (r.1.res r.2).bind fun d => (kindD r.2 d).bind fun kd => (tab kd).map fun b => (.d (.bl b), r.2) := id rfl
@[simp] theorem kindD_str {ε : SE} {s : Str} : kindD ε (.str s) = some (.ty "str") := id rfl
@[simp] theorem kindD_tup {ε : SE} {s : List D} : kindD ε (.tup s) = some (.ty "tuple") := id rfl
@[simp] theorem kindD_lst {ε : SE} {s : List D} : kindD ε (.lst s) = some (.ty "list") := id rfl
@[simp] theorem kindD_ins {ε : SE} {c : Nat} {ns : List Str} {s : List D} : kindD ε (.ins c ns s) = some (.cl c) := id rfl
@[simp] theorem kindD_int {ε : SE} {s : Int} : kindD ε (.int s) = some (.ty "int") := id rfl
@[simp] theorem kindD_non {ε : SE} : kindD ε .non = some (.ty "NoneType") := id rfl
@[simp] theorem tab_ss : tabT "str" (.ty "str") = some true := by decide +kernel
@[simp] theorem tab_tt : tabT "tuple" (.ty "tuple") = some true := by decide +kernel
@[simp] theorem compL_n {g : GM} {tt : BM} {te : EM} {vs : List Nat} {ε : SE} : compL g tt te vs [] ε = some ([], ε) := id rfl
@[simp] theorem blsD_n : blsD [] = some [] := id rfl
@[simp] theorem blsD_c {b : Bool} {l : List D} : blsD (.bl b :: l) = (blsD l).map fun r => b :: r := id rfl
@[simp] theorem isTupD_t {l : List D} : isTupD (.tup l) = true := id rfl
def fldO (c : Nat) (f : Str) (x : D) (v : Val) (ε : SE) : Option MO → Option Out
  | some (.ins c' ns ds) => if c' = c ∧ ns.length < 1000 ∧ ds.length = ns.length then some (.nx (put ε (.ins c' (putFD f x ns ds).1 (putFD f x ns ds).2) v)) else none
  | _ => none
@[simp] theorem fldO_s {c : Nat} {f : Str} {x : D} {v : Val} {ε : SE} {ns : List Str} {ds : List D} (h : ns.length < 1000 ∧ ds.length = ns.length) : fldO c f x v ε (some (.ins c ns ds)) = some (.nx (put ε (.ins c (putFD f x ns ds).1 (putFD f x ns ds).2) v)) := if_pos ⟨rfl, h⟩
@[simp] theorem sFldD_s {c : Nat} {f : Str} {fo fe : EM} {ε : SE} : sFldD c f fo fe ε = (escE fe ε).bind fun re => (fzE fo re.2).bind fun ro => fldO c f re.1 ro.1 ro.2 (tgt ro.2 ro.1) := by
  unfold sFldD
  refine congrArg _ (funext fun r => congrArg _ (funext fun d => ?_))
  unfold fldO
  split <;> simp_all
end KD
namespace KM
open PySem PySem.Spec PyProof.Rows L2 KD
@[simp] theorem leTD_2 {a b c d : Int} : leTD (.tup [.int a, .int b]) (.tup [.int c, .int d]) = some (.d (.bl (lexLe [a, b] [c, d]))) := id rfl
end KM

set_option maxHeartbeats 4000000
namespace KD
open PySem PySem.Spec PyProof.Rows L2
@[simp] theorem eKw_s {n m : Nat} {is : List Nat} {fm : FM} {dd : List D} {fa fk : AM} {ε : SE} : eKw n m is fm dd fa fk ε = (fa ε).bind fun r => (fk r.2).bind fun q => if r.1.length = n ∧ q.1.length = m then
  (escL q.2 (r.1 ++ q.1)).bind fun z => (fm (pick is (z.1 ++ dd)) z.2.M).bind fun o => if o.2.length = z.2.M.length then some (o.1, { z.2 with M := o.2 }) else none else none := id rfl
end KD
namespace KM
open PySem PySem.Spec PyProof.Rows L2 KD
def jn (ts : List Str) (a b : Nat) : Bool := decide (str2 a b ∈ ts) || decide (str2 b a ∈ ts)
end KM

set_option maxHeartbeats 4000000
namespace KM
open PySem PySem.Spec PyProof.Rows L2 KD
end KM

set_option maxHeartbeats 4000000
namespace KM
open PySem PySem.Spec PyProof.Rows L2 KD
end KM

set_option maxHeartbeats 4000000
namespace KM
open PySem PySem.Spec PyProof.Rows L2 KD
theorem Bag.no {z n : Nat} {m : MO} (h : Bag z [m]) : noPM n m = true := by
  obtain ⟨a, b, c, e, _⟩ := h
  cases e
  rfl
theorem Bag.one {z : Nat} {M : List MO} (h : Bag z M) : ∃ m, M = [m] := by
  obtain ⟨a, b, c, e, _⟩ := h
  exact ⟨_, e⟩
end KM

namespace PL
def deg (J : Nat → Nat → Bool) (L : List Nat) (b : Nat) : Nat := (L.filter fun a => J a b).length
def least (J : Nat → Nat → Bool) (L : List Nat) : Nat := match L with
  | [] => 0
  | a :: r => (r.map (deg J (a :: r))).foldl min (deg J (a :: r) a)
def first (J : Nat → Nat → Bool) (L : List Nat) : Nat := ((L.filter fun b => decide (deg J L b = least J L)).head?).getD 0
end PL

namespace PL
end PL

set_option maxHeartbeats 4000000
namespace KD
open PySem PySem.Spec PyProof.Rows L2
end KD
namespace KM
open PySem PySem.Spec PyProof.Rows L2 KD
end KM

set_option maxHeartbeats 4000000
namespace KM
open PySem PySem.Spec PyProof.Rows L2 KD
@[simp] theorem leD_nI {a b : Nat} : leD (nI a) (nI b) = some (.d (.bl (decide (a ≤ b)))) := by
  show some (Val.d (.bl (decide ((a : Int) ≤ (b : Int))))) = _
  by_cases h : a ≤ b
  · have : (a : Int) ≤ b := by omega
    simp [h, this]
  · have : ¬ (a : Int) ≤ b := by omega
    simp [h, this]
end KM

namespace PL
end PL

namespace PL
end PL

namespace PL
inductive R (J : Nat → Nat → Bool) (L : List Nat) (x : Nat) : Nat → Prop
  | refl : R J L x x
  | step {y z : Nat} : R J L x y → z ∈ L → J y z = true → R J L x z
section
variable {J : Nat → Nat → Bool} {L : List Nat}
theorem R.trans {x y z : Nat} (h : R J L x y) (g : R J L y z) : R J L x z := by
  induction g with
  | refl => exact h
  | step _ m j ih => exact ih.step m j
theorem R.mem {x y : Nat} (h : R J L x y) (hx : x ∈ L) : y ∈ L := by
  cases h with
  | refl => exact hx
  | step _ m _ => exact m
theorem R.symm (hJ : ∀ a b, J a b = J b a) {x y : Nat} (hx : x ∈ L) (h : R J L x y) : R J L y x := by
  induction h with
  | refl => exact .refl
  | @step y z h m j ih =>
    have h1 : R J L z y := R.step .refl (h.mem hx) (by rw [hJ]; exact j)
    exact h1.trans ih
theorem R.sub {M : List Nat} (hs : ∀ a ∈ L, a ∈ M) {x y : Nat} (h : R J L x y) : R J M x y := by
  induction h with
  | refl => exact .refl
  | step _ m j ih => exact ih.step (hs _ m) j
structure Grow (J : Nat → Nat → Bool) (L : List Nat) (x : Nat) (S : List Nat) : Prop where
  has : x ∈ S
  nd : S.Nodup
  sub : ∀ y ∈ S, y ∈ L
  all : ∀ y ∈ S, R J L x y
theorem Grow.one {x : Nat} (hx : x ∈ L) : Grow J L x [x] := by
  refine ⟨by simp, by simp, fun y hy => ?_, fun y hy => ?_⟩
  · have e : y = x := by simpa using hy
    rw [e]; exact hx
  · have e : y = x := by simpa using hy
    rw [e]; exact .refl
def layStep (J : Nat → Nat → Bool) (C left some : List Nat) (later : List Nat) (one : Nat) : List Nat := later ++ (C.filter fun o => J one o).filter fun o => decide (o ∈ left) && !decide (o ∈ some ++ later)
def layer (J : Nat → Nat → Bool) (C left some lay : List Nat) : List Nat := lay.foldl (layStep J C left some) []
theorem layStep_ok {C left some : List Nat} (hc : C.Nodup) {later : List Nat} {one : Nat} (hn : later.Nodup) (hs : ∀ y ∈ later, y ∈ left ∧ y ∉ some) :
    (layStep J C left some later one).Nodup ∧ (∀ y ∈ layStep J C left some later one, y ∈ left ∧ y ∉ some) ∧ ∀ y, y ∈ layStep J C left some later one ↔ y ∈ later ∨ (y ∈ C ∧ J one y = true ∧ y ∈ left ∧ y ∉ some) := by
  unfold layStep
  refine ⟨?_, fun y hy => ?_, fun y => ?_⟩
  · rw [List.nodup_append]
    refine ⟨hn, (hc.filter _).filter _, fun a ha b hb => ?_⟩
    rintro rfl
    have := (List.mem_filter.mp hb).2
    simp [ha] at this
  · rcases List.mem_append.mp hy with hy | hy
    · exact hs y hy
    · have := (List.mem_filter.mp hy).2
      simp at this
      exact ⟨this.1, this.2.1⟩
  · rw [List.mem_append, List.mem_filter, List.mem_filter]
    constructor
    · rintro (h | ⟨⟨h1, h2⟩, h3⟩)
      · exact .inl h
      · simp at h3
        exact .inr ⟨h1, h2, h3.1, h3.2.1⟩
    · rintro (h | ⟨h1, h2, h3, h4⟩)
      · exact .inl h
      · by_cases hl : y ∈ later
        · exact .inl hl
        · exact .inr ⟨⟨h1, h2⟩, by simp [h3, h4, hl]⟩
theorem layer_ok {C left some : List Nat} (hc : C.Nodup) : ∀ (lay later : List Nat), later.Nodup → (∀ y ∈ later, y ∈ left ∧ y ∉ some) →
    (lay.foldl (layStep J C left some) later).Nodup ∧ (∀ y ∈ lay.foldl (layStep J C left some) later, y ∈ left ∧ y ∉ some) ∧ ∀ y, y ∈ lay.foldl (layStep J C left some) later ↔ y ∈ later ∨ (y ∈ C ∧ y ∈ left ∧ y ∉ some ∧ ∃ one ∈ lay, J one y = true)
  | [], later, hn, hs => by
    refine ⟨hn, hs, fun y => ⟨fun h => .inl h, fun h => ?_⟩⟩
    rcases h with h | ⟨_, _, _, _, h, _⟩
    · exact h
    · cases h
  | one :: lay, later, hn, hs => by
    obtain ⟨q1, q2, q3⟩ := layStep_ok (J := J) (one := one) hc hn hs
    obtain ⟨r1, r2, r3⟩ := layer_ok hc lay (layStep J C left some later one) q1 q2
    refine ⟨r1, r2, fun y => ?_⟩
    show y ∈ lay.foldl (layStep J C left some) (layStep J C left some later one) ↔ _
    rw [r3 y, q3 y]
    constructor
    · rintro ((h | ⟨h1, h2, h3, h4⟩) | ⟨h1, h2, h3, o, ho, hj⟩)
      · exact .inl h
      · exact .inr ⟨h1, h3, h4, one, List.mem_cons_self, h2⟩
      · exact .inr ⟨h1, h2, h3, o, List.mem_cons_of_mem _ ho, hj⟩
    · rintro (h | ⟨h1, h2, h3, o, ho, hj⟩)
      · exact .inl (.inl h)
      · rcases List.mem_cons.mp ho with rfl | ho
        · exact .inl (.inr ⟨h1, hj, h2, h3⟩)
        · exact .inr ⟨h1, h2, h3, o, ho, hj⟩
structure Bfs (J : Nat → Nat → Bool) (left : List Nat) (x : Nat) (some lay : List Nat) : Prop where
  g : Grow J left x some
  lay_sub : ∀ y ∈ lay, y ∈ some
  done : ∀ y ∈ some, y ∉ lay → ∀ z ∈ left, J y z = true → z ∈ some
theorem Bfs.next {C left : List Nat} (hc : C.Nodup) (hl : ∀ y ∈ left, y ∈ C) {x : Nat} {some lay : List Nat} (h : Bfs J left x some lay) : Bfs J left x (some ++ layer J C left some lay) (layer J C left some lay) := by
  obtain ⟨q1, q2, q3⟩ := layer_ok (J := J) (C := C) (left := left) (some := some) hc lay [] (by simp) (fun y hy => by cases hy)
  refine ⟨⟨List.mem_append_left _ h.g.has, ?_, fun y hy => ?_, fun y hy => ?_⟩, fun y hy => List.mem_append_right _ hy, fun y hy hn z hz hj => ?_⟩
  · rw [List.nodup_append]
    exact ⟨h.g.nd, q1, fun a ha b hb => by rintro rfl; exact (q2 a hb).2 ha⟩
  · rcases List.mem_append.mp hy with hy | hy
    · exact h.g.sub y hy
    · exact (q2 y hy).1
  · rcases List.mem_append.mp hy with hy | hy
    · exact h.g.all y hy
    · rcases (q3 y).mp hy with hy' | ⟨_, h2, _, o, ho, hj⟩
      · cases hy'
      · exact (h.g.all o (h.lay_sub o ho)).step h2 hj
  · rcases List.mem_append.mp hy with hy | hy
    · by_cases hy' : y ∈ lay
      · by_cases hs : z ∈ some
        · exact List.mem_append_left _ hs
        · exact List.mem_append_right _ ((q3 z).mpr (.inr ⟨hl z hz, hz, hs, y, hy', hj⟩))
      · exact List.mem_append_left _ (h.done y hy hy' z hz hj)
    · exact absurd hy hn
theorem Bfs.one {left : List Nat} {x : Nat} (hx : x ∈ left) : Bfs J left x [x] [x] := ⟨Grow.one hx, fun y hy => hy, fun y hy hn => absurd hy hn⟩
end
end PL

set_option maxHeartbeats 4000000
namespace KD
open PySem PySem.Spec PyProof.Rows L2
def dg (c : Nat) : D := chD (c + 48)
def txt (col : List Nat) : Str := ⟨(col.map (· + 48)).toArray⟩
@[simp] theorem res_dg {ε : SE} {c : Nat} : Val.res ε (.d (dg c)) = some (dg c) := id rfl
@[simp] theorem kindD_dg {ε : SE} {c : Nat} : kindD ε (dg c) = some (.ty "str") := id rfl
@[simp] theorem txt_len {col : List Nat} : (txt col).length = col.length := by
  show (col.map (· + 48)).toArray.size = _
  simp
@[simp] theorem seqD_txt {col : List Nat} : seqD (.str (txt col)) = some (col.map dg) := by
  rw [seqD_s]
  show some ((col.map (· + 48)).toArray.toList.map chD) = _
  rw [List.toList_toArray, List.map_map]; rfl
@[simp] theorem txt_chs {col : List Nat} : (txt col).cps.toList.map chD = col.map dg := by
  show (col.map (· + 48)).toArray.toList.map chD = _
  rw [List.toList_toArray, List.map_map]; rfl
theorem Enc.dg : Enc KD.dg 0 := ⟨fun _ => rfl, fun _ => Nat.le_refl _, fun a b => by
  have := Enc.ch.eq (a + 48) (b + 48)
  show eqd (chD (a + 48)) (chD (b + 48)) = _
  rw [this]
  by_cases h : a = b
  · simp [h]
  · have : ¬ a + 48 = b + 48 := by omega
    simp [h, this]⟩
@[simp] theorem eqD_dg {a b : Nat} : eqD (dg a) (dg b) = some (.d (.bl (decide (a = b)))) := Enc.dg.eqD (by decide) a b
@[simp] theorem neD_dg {a b : Nat} : neD (dg a) (dg b) = some (.d (.bl (!decide (a = b)))) := Enc.dg.neD (by decide) a b
@[simp] theorem blsD_map' {α : Type} (f : α → Bool) : ∀ l : List α, blsD (l.map fun a => .bl (f a)) = some (l.map f)
  | [] => rfl
  | a :: l => by
    show ((blsD (l.map fun a => .bl (f a))).map fun r => f a :: r) = _
    rw [blsD_map' f l]; rfl
end KD
namespace KM
open PySem PySem.Spec PyProof.Rows L2 KD
def colOf (cs col : List Nat) (a : Nat) : Nat := col.getD (cs.idxOf a) 0
structure Col (cs : List Nat) (ps : List (Nat × Nat)) (k : Nat) (col : List Nat) : Prop where
  len : col.length = cs.length
  bd : ∀ c ∈ col, 1 ≤ c ∧ c ≤ k
  ok : ∀ p ∈ ps, col.getD p.1 0 ≠ col.getD p.2 0
theorem idx_lt {cs : List Nat} {a : Nat} (h : a ∈ cs) : cs.idxOf a < cs.length := List.idxOf_lt_length_of_mem h
theorem Col.at_ {cs : List Nat} {ps : List (Nat × Nat)} {k : Nat} {col : List Nat} (C : Col cs ps k col) {a : Nat} (h : a ∈ cs) : ∃ hi : cs.idxOf a < col.length, colOf cs col a = col[cs.idxOf a] ∧ 1 ≤ colOf cs col a ∧ colOf cs col a ≤ k := by
  have hi : cs.idxOf a < col.length := by rw [C.len]; exact idx_lt h
  have e : colOf cs col a = col[cs.idxOf a] := by unfold colOf; rw [List.getD_eq_getElem?_getD, List.getElem?_eq_getElem hi]; rfl
  have := C.bd _ (List.getElem_mem hi)
  exact ⟨hi, e, by rw [e]; exact this.1, by rw [e]; exact this.2⟩
end KM

set_option maxHeartbeats 4000000
namespace KM
open PySem PySem.Spec PyProof.Rows L2 KD
theorem bls_all : ∀ l : List D, blsD (l.map fun _ => D.bl true) = some (l.map fun _ => true)
  | [] => rfl
  | d :: l => by
    show ((blsD (l.map fun _ => D.bl true)).map fun r => true :: r) = _
    rw [bls_all l]
    rfl
end KM

set_option maxHeartbeats 4000000
namespace KD
open PySem PySem.Spec PyProof.Rows L2
end KD
namespace KM
open PySem PySem.Spec PyProof.Rows L2 KD
abbrev tupC (L : List Nat) : D := .tup (L.map chD)
@[simp] theorem res_tupC {ε : SE} {L : List Nat} : Val.res ε (.d (tupC L)) = some (tupC L) := id rfl
theorem Enc.tupC : Enc KM.tupC 1 := Enc.ch.tup
end KM

set_option maxHeartbeats 4000000
namespace KM
open PySem PySem.Spec PyProof.Rows L2 KD
theorem l_draw_spec {z : Nat} {M : List MO} {n : Int} (hB : Bag z M) (hz : z < 2 ^ 59) (h0 : 0 < n) (h1 : n < 1073741824) :
    ∃ (v : Nat) (M' : List MO), f_l_draw [.ptr 0, .int n] M = some (.d (.int (v : Int)), M') ∧ Bag (z + 1) M' ∧ (v : Int) < n := by
  obtain ⟨a, b, c, rfl, ha, hb, hc, hcz⟩ := hB
  have e1 : wid (69031 : Int) = true := wid_mk (by decide) (by decide)
  have e2 : wid (11 : Int) = true := wid_mk (by decide) (by decide)
  have e4 : wid ((b + 69031 * (c + 1)) % 64033 + 53003) = true := by
    have h1 := Int.emod_nonneg (b + 69031 * (c + 1)) (show (64033 : Int) ≠ 0 by omega)
    have h2 := Int.emod_lt_of_pos (b + 69031 * (c + 1)) (show (0 : Int) < 64033 by omega)
    exact wid_mk (by omega) (by omega)
  have main : ∃ (v : Int) (M' : List MO), f_l_draw [.ptr 0, .int n] [.lst [.int a, .int b, .int c]] = some (.d (.int v), M') ∧ Bag (z + 1) M' ∧ 0 ≤ v ∧ v < n := by
    unfold f_l_draw m_l_draw
    by_cases h : 0 < a
    · refine ⟨a % n, [.lst [.int (a / n), .int b, .int (c + 1)]], ?_, ⟨_, _, _, rfl, Int.ediv_nonneg ha (by omega), hb, by omega, by omega⟩, Int.emod_nonneg _ (by omega), Int.emod_lt_of_pos _ h0⟩
      simp [slots0, List.replicate, ixN, atI, modD_i, fdivD_i, h, h0, h1]
    · refine ⟨((b + 69031 * (c + 1)) * ((b + 69031 * (c + 1)) % 64033 + 53003) + 11 * (c + 1) + 19) % 2147483549 / 509 % n, [.lst [.int a, .int (((b + 69031 * (c + 1)) * ((b + 69031 * (c + 1)) % 64033 + 53003) + 11 * (c + 1) + 19) % 2147483549), .int (c + 1)]], ?_, ⟨_, _, _, rfl, ha, Int.emod_nonneg _ (by omega), by omega, by omega⟩, Int.emod_nonneg _ (by omega), Int.emod_lt_of_pos _ h0⟩
      simp [slots0, List.replicate, ixN, atI, modD_i, fdivD_i, mulD_l e1, mulD_l e2, mulD_r e4, h, h0, h1]
  obtain ⟨v, M', q1, q2, q3, q4⟩ := main
  obtain ⟨w, rfl⟩ := Int.eq_ofNat_of_zero_le q3
  exact ⟨w, M', q1, q2, q4⟩
theorem l_one_spec {α : Type} {e : α → D} {z : Nat} {M : List MO} {q : D} {t : List α} (hB : Bag z M) (hz : z < 2 ^ 50) (h0 : t ≠ []) (hl : t.length < 100000) (hq : q = .lst (t.map e) ∨ q = .tup (t.map e)) :
    ∃ (v : Nat) (hv : v < t.length) (M' : List MO), f_l_one [.ptr 0, q] M = some (.d (e t[v]), M') ∧ Bag (z + 1) M' := by
  have hp : 0 < t.length := List.length_pos_iff.mpr h0
  obtain ⟨v, M', e1, hB', hv⟩ := l_draw_spec (n := (t.length : Int)) hB (by omega) (by omega) (by omega)
  have hv' : v < t.length := by omega
  have ha : atI (t.map e) (v : Int) = some (e t[v]) := by
    rw [atI_nat' (by simpa using hv')]
    simp [List.getElem?_eq_getElem hv']
  refine ⟨v, hv', M', ?_, hB'⟩
  unfold f_l_one m_l_one
  rcases hq with rfl | rfl
  · simp [slots0, e1, ha, hB.len, hB'.len]
  · simp [slots0, e1, ha, hB.len, hB'.len]
theorem l_bag_spec {ns : List Int} {k : Nat} (hl : ns.length ≤ 63) (hk : k ≤ 63) : ∃ m, f_l_bag [.scr ns, .int (k : Int)] [] = some (.new m, []) ∧ Bag 0 [m] ∧ noPM 0 m = true := by
  have e1 : wid (55711 : Int) = true := wid_mk (by decide) (by decide)
  have e2 : wid (98909 : Int) = true := wid_mk (by decide) (by decide)
  have e3 : wid (17 : Int) = true := wid_mk (by decide) (by decide)
  have e4 : wid (92003 : Int) = true := wid_mk (by decide) (by decide)
  have pw : powD (.int 10) (.int 15) = some (.d (.int 1000000000000000)) := by
    show (if (decide ((0 : Int) ≤ 15) && decide ((15 : Int) ≤ 1000) && wid 10) = true then some (Val.d (.int ((10 : Int) ^ (15 : Int).toNat))) else none) = _
    rw [wid_mk (by decide) (by decide), if_pos (by decide)]
    rfl
  have loop : ∀ (l : List Int) (s : Int) (x x4 : Sl), ∃ (s' : Int) (x' : Sl), loopF (gN 2) b_l_bag_1 (l.map .int) ⟨[.d (.scr ns), .d (.int k), x, .no, x4, .d (.int s)], []⟩ = some (.nx ⟨[.d (.scr ns), .d (.int k), x', .no, x4, .d (.int s')], []⟩) := by
    intro l
    induction l with
    | nil => exact fun s x x4 => ⟨s, x, rfl⟩
    | cons a l ih =>
      intro s x x4
      rw [List.map_cons, loopF_c]
      unfold b_l_bag_1 at ih ⊢
      simp [mulD_r e1, mulD_l e3, modD_i]
      exact ih _ _ _
  have sl : KD.cutD (ns.map D.int) none (some 7) = (ns.map D.int).take 7 := by
    rw [cutD_to (by omega), show (7 : Int).toNat = 7 from rfl]
  obtain ⟨cell, hcell⟩ : ∃ cell : Int, (ifE (eB (eOp ltD (eVar 1) (eCB lenD (aCons (eVar 0) aNil)))) (eCB intD' (aCons (eOp ixD (eVar 0) (eVar 1)) aNil)) (eC (.int 0))) ⟨[.d (.scr ns), .d (.int k), .no, .no, .no, .no], []⟩ = some (.d (.int cell), ⟨[.d (.scr ns), .d (.int k), .no, .no, .no, .no], []⟩) := by
    by_cases hkl : k < ns.length
    · have hz : atI ns (k : Int) = some ns[k] := by rw [atI_nat' hkl]; exact List.getElem?_eq_getElem hkl
      exact ⟨ns[k], by simp [hkl, hz]⟩
    · exact ⟨0, by simp [hkl]⟩
  obtain ⟨s', x', hlp⟩ := loop (ns.take 7) (98909 * ((k : Int) + 5)) .no (.d (.int cell))
  rw [List.map_take] at hlp
  refine ⟨.lst [.int (if cell < 0 ∨ 1000000000000000 ≤ cell then (if cell < 0 then -cell else cell) else 0), .int ((s' + 92003 * (cell % 999931)) % 2147483549), .int 0], ?_, ⟨_, _, _, rfl, ?_, Int.emod_nonneg _ (by omega), by omega, by omega⟩, rfl⟩
  · unfold f_l_bag m_l_bag w_l_bag_1
    by_cases h : cell < 0
    · simp [-ifE_s, slots0, List.replicate, hcell, mulD_l e2, sl, hlp]
      simp [pw, mulD_l e4, modD_i, h]
    · by_cases h2 : 1000000000000000 ≤ cell
      · simp [-ifE_s, slots0, List.replicate, hcell, mulD_l e2, sl, hlp]
        simp [pw, mulD_l e4, modD_i, h, h2]
      · simp [-ifE_s, slots0, List.replicate, hcell, mulD_l e2, sl, hlp]
        simp [pw, mulD_l e4, modD_i, h, h2]
  · by_cases h : cell < 0
    · simp [h]; omega
    · by_cases h2 : 1000000000000000 ≤ cell
      · simp [h, h2]; omega
      · simp [h, h2]
end KM

namespace PL
open Classical in
noncomputable def reachB (J : Nat → Nat → Bool) (L : List Nat) (x y : Nat) : Bool := decide (R J L x y)
theorem reachB_iff {J : Nat → Nat → Bool} {L : List Nat} {x y : Nat} : reachB J L x y = true ↔ R J L x y := by
  unfold reachB
  exact @decide_eq_true_iff _ (Classical.propDecidable _)
section
variable {J : Nat → Nat → Bool} {L : List Nat}
def Closed (J : Nat → Nat → Bool) (L left : List Nat) : Prop := (∀ y ∈ left, y ∈ L) ∧ ∀ y ∈ left, ∀ z ∈ L, J y z = true → z ∈ left
theorem Closed.self : Closed J L L := ⟨fun _ h => h, fun _ _ z hz _ => hz⟩
theorem Closed.rest (hJ : ∀ a b, J a b = J b a) {left : List Nat} (h : Closed J L left) {x : Nat} : Closed J L (left.filter fun y => !reachB J L x y) := by
  refine ⟨fun y hy => h.1 y (List.mem_filter.mp hy).1, fun y hy z hz hj => ?_⟩
  obtain ⟨h1, h2⟩ := List.mem_filter.mp hy
  refine List.mem_filter.mpr ⟨h.2 y h1 z hz hj, ?_⟩
  have hn : ¬ R J L x y := fun r => by rw [reachB_iff.mpr r] at h2; cases h2
  have : ¬ R J L x z := fun r => hn (r.step (h.1 y h1) (by rw [hJ]; exact hj))
  have e : reachB J L x z = false := by
    rw [Bool.eq_false_iff]
    exact fun e => this (reachB_iff.mp e)
  rw [e]; rfl
end
end PL

set_option maxHeartbeats 4000000
namespace KD
open PySem PySem.Spec PyProof.Rows L2
@[simp] theorem extM_s {l m : List D} (h : FitE (l.length + m.length)) : extM (.lst l) [.lst m] = some (.lst (l ++ m), .non) := if_pos h
end KD
namespace KM
open PySem PySem.Spec PyProof.Rows L2 KD
end KM

set_option maxHeartbeats 4000000
namespace KD
open PySem PySem.Spec PyProof.Rows L2
@[simp] theorem inD_nIT {a : Nat} {l : List Nat} : inD (nI a) (.tup (l.map nI)) = some (decide (a ∈ l)) := Enc.nat.inTup (fun _ => rfl) a l
@[simp] theorem inD_nI2 {a i j : Nat} : inD (nI a) (.tup [nI i, nI j]) = some (decide (a = i) || decide (a = j)) := by
  have := inD_nIT (a := a) (l := [i, j])
  simp only [List.map_cons, List.map_nil] at this
  rw [this]
  simp
end KD
namespace KM
open PySem PySem.Spec PyProof.Rows L2 KD
end KM

set_option maxHeartbeats 4000000
namespace KD
open PySem PySem.Spec PyProof.Rows L2
end KD
namespace KM
open PySem PySem.Spec PyProof.Rows L2 KD
end KM

set_option maxHeartbeats 4000000
namespace KD
open PySem PySem.Spec PyProof.Rows L2
end KD
namespace KM
open PySem PySem.Spec PyProof.Rows L2 KD
--SPREAD
end KM

set_option maxHeartbeats 4000000
namespace KM
open PySem PySem.Spec PyProof.Rows L2 KD
end KM

namespace PL
end PL

set_option maxHeartbeats 4000000
namespace KM
open PySem PySem.Spec PyProof.Rows L2 KD
end KM
namespace KM
open PySem PySem.Spec PyProof.Rows L2 KD
end KM

set_option maxHeartbeats 4000000
namespace KD
open PySem PySem.Spec PyProof.Rows L2
end KD
namespace KM
open PySem PySem.Spec PyProof.Rows L2 KD
theorem getD_colOf {cs col : List Nat} (hn : cs.Nodup) {i : Nat} (hi : i < cs.length) : col.getD i 0 = colOf cs col (cs.getD i 0) := by
  unfold colOf
  rw [show cs.getD i 0 = cs[i] by rw [List.getD_eq_getElem?_getD, List.getElem?_eq_getElem hi]; rfl, hn.idxOf_getElem i hi]
end KM

set_option maxHeartbeats 4000000
namespace KD
open PySem PySem.Spec PyProof.Rows L2
end KD

set_option maxHeartbeats 4000000
namespace KM
open PySem PySem.Spec PyProof.Rows L2 KD
end KM

set_option maxHeartbeats 4000000
namespace KM
open PySem PySem.Spec PyProof.Rows L2 KD
end KM

set_option maxHeartbeats 4000000
namespace KM
open PySem PySem.Spec PyProof.Rows L2 KD
theorem str2_inj {a b c d : Nat} (h : str2 a b = str2 c d) : a = c ∧ b = d := by
  have e' : (#[a, b] : Array Nat) = #[c, d] := congrArg Str.cps h
  simpa using e'
theorem Col.un {cs : List Nat} {ps : List (Nat × Nat)} {k : Nat} {col : List Nat} (N : Net cs ps) (C : Col cs ps k col) {a b : Nat} (ha : a ∈ cs) (hb : b ∈ cs) (hj : jn (ps.map (pairS cs)) a b = true) : colOf cs col a ≠ colOf cs col b := by
  have key : ∀ x y, str2 x y ∈ ps.map (pairS cs) → colOf cs col x ≠ colOf cs col y := fun x y hm => by
    obtain ⟨p, hp, e⟩ := List.mem_map.mp hm
    obtain ⟨o1, o2⟩ := N.ok p hp
    obtain ⟨rfl, rfl⟩ := str2_inj e
    have := C.ok p hp
    rwa [getD_colOf N.nd (show p.1 < cs.length by omega), getD_colOf N.nd o2] at this
  unfold jn at hj
  rw [Bool.or_eq_true, decide_eq_true_iff, decide_eq_true_iff] at hj
  rcases hj with h | h
  · exact key a b h
  · exact fun e => key b a h e.symm
end KM
namespace KD
open PySem PySem.Spec PyProof.Rows L2
@[simp] theorem oR_nI {i : Nat} {ε : SE} : oR (nI i) ε = some (some (i : Int), ε) := id rfl
end KD
namespace KM
open PySem PySem.Spec PyProof.Rows L2 KD
end KM

set_option maxHeartbeats 4000000
namespace KD
open PySem PySem.Spec PyProof.Rows L2
end KD
namespace KM
open PySem PySem.Spec PyProof.Rows L2 KD
end KM

set_option maxHeartbeats 4000000
namespace KD
open PySem PySem.Spec PyProof.Rows L2
end KD
namespace KM
open PySem PySem.Spec PyProof.Rows L2 KD
end KM

set_option maxHeartbeats 4000000
namespace KM
open PySem PySem.Spec PyProof.Rows L2 KD
theorem law_bag {fr : FM} {q : Nat} (hq : q ≤ 60) (right : ∀ m, Bag 0 [m] → ∃ m' : MO, fr [.ptr 0] [m] = some (.d (.bl true), [m'])) (ns : List Int) (hl : ns.length ≤ 63) :
    runF 1 2 (sRet (eCB allD (aCons (eLc (iRange (aCons (eCB max2D (aCons (eC (.int 2)) (aCons (eCB min2D (aCons (eCB lenD (aCons (eVar 0) aNil)) (aCons (eC (.int (q : Int))) aNil))) aNil))) aNil)) (gN 1) yesB (eBag fr [] (eCall f_l_bag [] (aCons (eVar 0) (aCons (eVar 1) aNil))) aNil) [1]) aNil))) [.scr ns] [] = some (.d (.bl true), []) := by
  obtain ⟨n, hn⟩ : ∃ n : Nat, (n : Int) = (if (if (q : Int) < (ns.length : Int) then (q : Int) else (ns.length : Int)) > 2 then (if (q : Int) < (ns.length : Int) then (q : Int) else (ns.length : Int)) else 2) := Int.eq_ofNat_of_zero_le (by split <;> split <;> omega) |>.imp fun _ h => h.symm
  have hn6 : n ≤ 60 := by
    have : (n : Int) ≤ 60 := by rw [hn]; split <;> split <;> omega
    omega
  obtain ⟨ε', e, x, rfl⟩ := compL_pure (g := gN 1) (tt := yesB) (te := eBag fr [] (eCall f_l_bag [] (aCons (eVar 0) (aCons (eVar 1) aNil))) aNil) (vs := [1]) (fun _ => true) (fun _ => .bl true)
    (fun ε => ∃ x : Sl, ε = ⟨[.d (.scr ns), x], []⟩) (rngD 0 n) (fun ε ⟨x, e⟩ d hd => by
      subst e
      obtain ⟨i, hi, e⟩ := List.mem_iff_getElem.mp hd
      obtain ⟨hi', rfl⟩ := rngD_get (List.getElem?_eq_some_iff.mpr ⟨hi, e⟩)
      rw [show (0 : Int) + (i : Int) = (i : Int) by omega]
      refine ⟨⟨[.d (.scr ns), .d (.int (i : Int))], []⟩, by simp, ⟨[.d (.scr ns), .d (.int (i : Int))], []⟩, rfl, (fun h => by cases h), fun _ => ⟨⟨[.d (.scr ns), .d (.int (i : Int))], []⟩, ?_, _, rfl⟩⟩
      obtain ⟨m, e1, hB, hno⟩ := l_bag_spec (k := i) hl (by omega)
      obtain ⟨m', e2⟩ := right m hB
      have eb : eBag fr [] (eCall f_l_bag [] (aCons (eVar 0) (aCons (eVar 1) aNil))) aNil ⟨[.d (.scr ns), .d (.int (i : Int))], []⟩ = some (.d (.bl true), ⟨[.d (.scr ns), .d (.int (i : Int))], []⟩) := by
        have ec : eCall f_l_bag [] (aCons (eVar 0) (aCons (eVar 1) aNil)) ⟨[.d (.scr ns), .d (.int (i : Int))], []⟩ = some (.new m, ⟨[.d (.scr ns), .d (.int (i : Int))], []⟩) := by simp [e1]
        unfold eBag
        rw [ec]
        simp only [Option.bind_some, aNil_s, escL_n, List.length_nil, List.append_nil, List.nil_append]
        rw [if_pos ⟨hno, rfl, rfl⟩, e2, Option.bind_some]
        rfl
      simp only [escE_s, fzE_s, eb, Option.map_some, Option.bind_some, fzv_d, escV_d]) ⟨[.d (.scr ns), .no], []⟩ ⟨_, rfl⟩
  have b1 : bnd (n : Int) = true := bnd_mk (by omega) (by omega)
  have b2 : FitE n := by unfold FitE; omega
  rw [List.filter_eq_self.mpr (fun _ _ => rfl)] at e
  have eb := bls_all (rngD 0 n)
  have ea : ((rngD 0 n).map fun _ => true).all id = true := by simp
  rw [runF_s (n := 1) (ds := [.scr ns]) rfl]
  simp only [sRet_s, eCB_s, aCons_s, fzE_s, eLc_s, iRange_s, eC_s, Option.map_some, Option.bind_some, fzv_d, eVar_s, slots0, List.map_cons, List.map_nil, List.length_singleton, List.replicate, Nat.reduceSub, List.cons_append, List.nil_append, nth_0, varR_d, aNil_s, resL_c, resL_n, res_int, res_scr, lenD_c, min2D_i, max2D_i]
  rw [← hn]
  simp only [rngR_1 b1 (show FitE (n : Int).toNat from b2), Int.toNat_natCast, Option.bind_some, e, Option.map_some, fzv_n, toD_l, aNil_s, resL_c, resL_n, res_lst, allD_l, eb, ea, restS_c, restS_n, nth_1, keepS_n, setS_s, setN_1, finV_d]
end KM

set_option maxHeartbeats 4000000
namespace KM
open PySem PySem.Spec PyProof.Rows L2 KD
def Gd (n : Nat) (z : Str) : Prop := (∀ c ∈ TL.tl z, c < 128) ∧ z.length ≤ n
theorem Gd.ok {n : Nat} {z : Str} (h : Gd n z) (hn : n ≤ 16777216) : sOk z = true := by
  unfold sOk
  rw [Bool.and_eq_true]
  refine ⟨?_, decide_eq_true ?_⟩
  · rw [← Array.all_toList]
    exact List.all_eq_true.mpr fun c q => decide_eq_true (by have := h.1 c q; omega)
  · have := h.2
    show z.length ≤ _
    omega
theorem Gd.app {n m : Nat} {a b : Str} (h : Gd n a) (g : Gd m b) : Gd (n + m) (a ++ b) := by
  refine ⟨fun c hc => ?_, ?_⟩
  · rw [TL.tl_append] at hc
    exact (List.mem_append.mp hc).elim (h.1 c) (g.1 c)
  · rw [TL.len_tl, TL.tl_append, List.length_append, ← TL.len_tl, ← TL.len_tl]
    have := h.2; have := g.2; omega
theorem Gd.mono {n m : Nat} {a : Str} (h : Gd n a) (q : n ≤ m) : Gd m a := ⟨h.1, Nat.le_trans h.2 q⟩
theorem joinL_mem {S : List Nat} : ∀ {parts : List (List Nat)} {c : Nat}, c ∈ TL.joinL S parts → c ∈ S ∨ ∃ p ∈ parts, c ∈ p
  | [], c, h => by cases h
  | [p], c, h => .inr ⟨p, List.mem_cons_self, h⟩
  | p :: q :: r, c, h => by
    have h' : c ∈ p ++ (S ++ TL.joinL S (q :: r)) := h
    rcases List.mem_append.mp h' with h | h
    · exact .inr ⟨p, List.mem_cons_self, h⟩
    · rcases List.mem_append.mp h with h | h
      · exact .inl h
      · exact (joinL_mem h).imp id fun ⟨x, hx, hc⟩ => ⟨x, List.mem_cons_of_mem _ hx, hc⟩
theorem joinL_len {S : List Nat} {n : Nat} : ∀ {parts : List (List Nat)}, (∀ p ∈ parts, p.length ≤ n) → (TL.joinL S parts).length ≤ parts.length * (n + S.length)
  | [], _ => by simp [TL.joinL]
  | [p], h => by
    have := h p List.mem_cons_self
    show p.length ≤ 1 * (n + S.length)
    omega
  | p :: q :: r, h => by
    have h1 := h p List.mem_cons_self
    have h2 := joinL_len (S := S) (parts := q :: r) fun x hx => h x (List.mem_cons_of_mem _ hx)
    show (p ++ (S ++ TL.joinL S (q :: r))).length ≤ (r.length + 1 + 1) * (n + S.length)
    rw [List.length_append, List.length_append, Nat.succ_mul]
    have h3 : (q :: r).length = r.length + 1 := rfl
    rw [h3] at h2
    omega
theorem tl_jn (y : Str) (parts : List Str) : TL.tl (Txt.join y parts) = TL.joinL (TL.tl y) (parts.map TL.tl) := by rw [TL.join_eq, TL.tl_join]
theorem Gd.join {n m : Nat} {y : Str} {parts : List Str} (hy : Gd m y) (h : ∀ p ∈ parts, Gd n p) : Gd (parts.length * (n + m)) (Txt.join y parts) := by
  refine ⟨fun c hc => ?_, ?_⟩
  · rw [tl_jn] at hc
    rcases joinL_mem hc with q | ⟨p, hp, q⟩
    · exact hy.1 c q
    · obtain ⟨z, hz, rfl⟩ := List.mem_map.mp hp
      exact (h z hz).1 c q
  · rw [TL.len_tl, tl_jn]
    have e := joinL_len (S := TL.tl y) (n := n) (parts := parts.map TL.tl) fun p hp => by
      obtain ⟨z, hz, rfl⟩ := List.mem_map.mp hp
      rw [← TL.len_tl]; exact (h z hz).2
    rw [List.length_map, ← TL.len_tl] at e
    exact Nat.le_trans e (Nat.mul_le_mul_left _ (by have := hy.2; omega))
def row0 (P : List Str) : Str := ("places " : Str) ++ Txt.join ", " P
def row1 (T : List Str) : Str := ("ties " : Str) ++ (if T = [] then ("none" : Str) else Txt.join ", " T)
structure Nms (P T : List Str) : Prop where
  pne : P ≠ []
  pl : ∀ p ∈ P, (∀ c ∈ TL.tl p, c ∈ letters) ∧ p.length = 1
  tl : ∀ t ∈ T, (∀ c ∈ TL.tl t, c ∈ letters) ∧ t.length = 2
  pn : P.length ≤ 1000
  tn : T.length ≤ 1000
theorem letters_lt : ∀ c ∈ letters, c < 128 ∧ c ≠ 10 ∧ c ≠ 44 := by decide +kernel
theorem Nms.gp {P T : List Str} (N : Nms P T) : ∀ p ∈ P, Gd 2 p := fun p hp => ⟨fun c hc => (letters_lt c ((N.pl p hp).1 c hc)).1, by have := (N.pl p hp).2; omega⟩
theorem Nms.gt {P T : List Str} (N : Nms P T) : ∀ p ∈ T, Gd 2 p := fun p hp => ⟨fun c hc => (letters_lt c ((N.tl p hp).1 c hc)).1, by have := (N.tl p hp).2; omega⟩
theorem gd_sep : Gd 2 (", " : Str) := ⟨by decide +kernel, by decide +kernel⟩
theorem gd_pl : Gd 7 ("places " : Str) := ⟨by decide +kernel, by decide +kernel⟩
theorem gd_ti : Gd 5 ("ties " : Str) := ⟨by decide +kernel, by decide +kernel⟩
theorem gd_no : Gd 4 ("none" : Str) := ⟨by decide +kernel, by decide +kernel⟩
theorem Nms.gj {P T : List Str} (N : Nms P T) : Gd 4000 (Txt.join ", " P) := (Gd.join gd_sep N.gp).mono (by have := N.pn; omega)
theorem Nms.gi {P T : List Str} (N : Nms P T) : Gd 4000 (if T = [] then ("none" : Str) else Txt.join ", " T) := by
  by_cases q : T = []
  · rw [if_pos q]; exact gd_no.mono (by omega)
  · rw [if_neg q]; exact (Gd.join gd_sep N.gt).mono (by have := N.tn; omega)
theorem Nms.g0 {P T : List Str} (N : Nms P T) : Gd 4010 (row0 P) := (gd_pl.app N.gj).mono (by omega)
theorem Nms.g1 {P T : List Str} (N : Nms P T) : Gd 4010 (row1 T) := (gd_ti.app N.gi).mono (by omega)
theorem Nms.grows {P T : List Str} (N : Nms P T) : ∀ p ∈ [row0 P, row1 T], Gd 4010 p := fun p hp => by
  rcases List.mem_cons.mp hp with rfl | hp
  · exact N.g0
  · rw [List.mem_singleton] at hp; subst hp; exact N.g1
end KM
namespace KM
open PySem PySem.Spec PyProof.Rows L2 KD
end KM

set_option maxHeartbeats 4000000
namespace KM
open PySem PySem.Spec PyProof.Rows L2 KD
end KM

set_option maxHeartbeats 4000000
namespace KM
open PySem PySem.Spec PyProof.Rows L2 KD
theorem run_seq23 {s R : SM} {ε ε' : SE} (h : s ε = some (.nx ε')) : sSeq s R ε = R ε' := by rw [sSeq_s, h]; rfl
def things23 : List D := [.non, .int 7, .str "a b", .tup [.int 1, .int 2], .lst [.int 3], .dct [] [], .bl true, .int (-1), .tup [.str "a", .int 1], .int 1000000000000000000000000000000, .str "1212"]
noncomputable def u23_0 : SM := (sSet 2 (fzE (eLst (aCons (eC .non) (aCons (eC (.int 7)) (aCons (eC (.str ("a b" : Str))) (aCons (eTup (aCons (eC (.int 1)) (aCons (eC (.int 2)) aNil))) (aCons (eLst (aCons (eC (.int 3)) aNil)) (aCons eDnew (aCons (eC (.bl true)) (aCons (negE (eC (.int 1))) (aCons (eTup (aCons (eC (.str ("a" : Str))) (aCons (eC (.int 1)) aNil))) (aCons (eOp powD (eC (.int 10)) (eC (.int 30))) (aCons (eC (.str ("1212" : Str))) aNil))))))))))))))
noncomputable def u23_1 : SM := (sSet 3 (fzE (eCall f_l_one [] (aCons (eVar 0) (aCons (eVar 2) aNil)))))
noncomputable def u23_2 : SM := (sSet 4 (fzE (eCall f_l_made_ones [] (aCons (eVar 3) aNil))))
noncomputable def u23_4 : SM := (sSet 6 (fzE (eLst (aCons (eExc0 38) (aCons (eExc0 40) (aCons (eExc0 41) aNil))))))
theorem body23 : b_l_right_v22_3 = sSeq u23_0 (sSeq u23_1 (sSeq u23_2 (sSeq w_l_right_v22_1 (sSeq u23_4 w_l_right_v22_2)))) := rfl
section
variable {z n : Nat} {m : MO} {M : List MO} {x1 x2 x3 x4 x5 x6 x7 x8 x9 x10 x11 : Sl}
abbrev r23 (x1 x2 x3 x4 x5 x6 x7 x8 x9 x10 x11 : Sl) (M : List MO) : SE := ⟨[.d (.ptr 0), x1, x2, x3, x4, x5, x6, x7, x8, x9, x10, x11], M⟩
def endE : Option Out → Option (List MO × Option Sl × Nat)
  | some (.nx ε) => some (ε.M, ε.sl[0]?, ε.sl.length)
  | _ => none
theorem it23 {n : Nat} (h : n ≤ 1000) : iRange (aCons (eC (.int (n : Int))) aNil) = fun ε => some (rngD 0 n, ε) := funext fun ε => by
  have := rngR_1 (j := (n : Int)) (ε := ε) (bnd_mk (by omega) (by omega)) (fitE (by omega))
  rw [Int.toNat_natCast] at this
  simp only [iRange_s, aCons_s, eC_s, fzE_s, Option.map_some, Option.bind_some, fzv_d, aNil_s, resL_c, resL_n, res_int, this]
theorem it38 : iRange (aCons (eC (.int 38)) aNil) = fun ε => some (rngD 0 38, ε) := it23 (n := 38) (by decide)
theorem it19 : iRange (aCons (eC (.int 19)) aNil) = fun ε => some (rngD 0 19, ε) := it23 (n := 19) (by decide)
theorem it3 : iRange (aCons (eC (.int 3)) aNil) = fun ε => some (rngD 0 3, ε) := it23 (n := 3) (by decide)
theorem mul23 : eOp mulD (eLst (aCons (eC (.bl false)) (aCons (eC (.bl true)) (aCons (eC (.bl false)) aNil)))) (eC (.int 2)) = fun ε => some (.new (.lst [.bl false, .bl true, .bl false, .bl false, .bl true, .bl false]), ε) := funext fun ε => by
  have f3 : FitE 3 := fitE (by decide)
  have ml : mulD (.lst [.bl false, .bl true, .bl false]) (.int 2) = some (.new (.lst [.bl false, .bl true, .bl false, .bl false, .bl true, .bl false])) := by
    show (if bnd (2 : Int) = true ∧ [D.bl false, D.bl true, D.bl false].length * (2 : Int).toNat ≤ 16777216 then some (Val.new (.lst (repL 2 [D.bl false, D.bl true, D.bl false]))) else none) = _
    rw [if_pos ⟨bnd_mk (by omega) (by omega), by decide⟩]
    rfl
  simp [f3, ml]
theorem rest23_0 : endE ((sSeq u23_2 (sSeq w_l_right_v22_1 (sSeq u23_4 w_l_right_v22_2))) (r23 x1 x2 (.d (.non)) x4 x5 x6 x7 x8 x9 x10 x11 [m])) = some ([m], some (.d (.ptr 0)), 12) := by
  unfold w_l_right_v22_1 b_l_right_v22_1 c_l_right_v22_1 w_l_right_v22_2 b_l_right_v22_2 c_l_right_v22_2
  rw [it38, it19, it3, mul23]
  kernel_rfl
theorem rest23_1 : endE ((sSeq u23_2 (sSeq w_l_right_v22_1 (sSeq u23_4 w_l_right_v22_2))) (r23 x1 x2 (.d (.int 7)) x4 x5 x6 x7 x8 x9 x10 x11 [m])) = some ([m], some (.d (.ptr 0)), 12) := by
  unfold w_l_right_v22_1 b_l_right_v22_1 c_l_right_v22_1 w_l_right_v22_2 b_l_right_v22_2 c_l_right_v22_2
  rw [it38, it19, it3, mul23]
  kernel_rfl
theorem rest23_2 : endE ((sSeq u23_2 (sSeq w_l_right_v22_1 (sSeq u23_4 w_l_right_v22_2))) (r23 x1 x2 (.d (.str "a b")) x4 x5 x6 x7 x8 x9 x10 x11 [m])) = some ([m], some (.d (.ptr 0)), 12) := by
  unfold w_l_right_v22_1 b_l_right_v22_1 c_l_right_v22_1 w_l_right_v22_2 b_l_right_v22_2 c_l_right_v22_2
  rw [it38, it19, it3, mul23]
  kernel_rfl
theorem rest23_3 : endE ((sSeq u23_2 (sSeq w_l_right_v22_1 (sSeq u23_4 w_l_right_v22_2))) (r23 x1 x2 (.d (.tup [.int 1, .int 2])) x4 x5 x6 x7 x8 x9 x10 x11 [m])) = some ([m], some (.d (.ptr 0)), 12) := by
  unfold w_l_right_v22_1 b_l_right_v22_1 c_l_right_v22_1 w_l_right_v22_2 b_l_right_v22_2 c_l_right_v22_2
  rw [it38, it19, it3, mul23]
  kernel_rfl
theorem rest23_4 : endE ((sSeq u23_2 (sSeq w_l_right_v22_1 (sSeq u23_4 w_l_right_v22_2))) (r23 x1 x2 (.d (.lst [.int 3])) x4 x5 x6 x7 x8 x9 x10 x11 [m])) = some ([m], some (.d (.ptr 0)), 12) := by
  unfold w_l_right_v22_1 b_l_right_v22_1 c_l_right_v22_1 w_l_right_v22_2 b_l_right_v22_2 c_l_right_v22_2
  rw [it38, it19, it3, mul23]
  kernel_rfl
theorem rest23_5 : endE ((sSeq u23_2 (sSeq w_l_right_v22_1 (sSeq u23_4 w_l_right_v22_2))) (r23 x1 x2 (.d (.dct [] [])) x4 x5 x6 x7 x8 x9 x10 x11 [m])) = some ([m], some (.d (.ptr 0)), 12) := by
  unfold w_l_right_v22_1 b_l_right_v22_1 c_l_right_v22_1 w_l_right_v22_2 b_l_right_v22_2 c_l_right_v22_2
  rw [it38, it19, it3, mul23]
  kernel_rfl
theorem rest23_6 : endE ((sSeq u23_2 (sSeq w_l_right_v22_1 (sSeq u23_4 w_l_right_v22_2))) (r23 x1 x2 (.d (.bl true)) x4 x5 x6 x7 x8 x9 x10 x11 [m])) = some ([m], some (.d (.ptr 0)), 12) := by
  unfold w_l_right_v22_1 b_l_right_v22_1 c_l_right_v22_1 w_l_right_v22_2 b_l_right_v22_2 c_l_right_v22_2
  rw [it38, it19, it3, mul23]
  kernel_rfl
theorem rest23_7 : endE ((sSeq u23_2 (sSeq w_l_right_v22_1 (sSeq u23_4 w_l_right_v22_2))) (r23 x1 x2 (.d (.int (-1))) x4 x5 x6 x7 x8 x9 x10 x11 [m])) = some ([m], some (.d (.ptr 0)), 12) := by
  unfold w_l_right_v22_1 b_l_right_v22_1 c_l_right_v22_1 w_l_right_v22_2 b_l_right_v22_2 c_l_right_v22_2
  rw [it38, it19, it3, mul23]
  kernel_rfl
theorem rest23_8 : endE ((sSeq u23_2 (sSeq w_l_right_v22_1 (sSeq u23_4 w_l_right_v22_2))) (r23 x1 x2 (.d (.tup [.str "a", .int 1])) x4 x5 x6 x7 x8 x9 x10 x11 [m])) = some ([m], some (.d (.ptr 0)), 12) := by
  unfold w_l_right_v22_1 b_l_right_v22_1 c_l_right_v22_1 w_l_right_v22_2 b_l_right_v22_2 c_l_right_v22_2
  rw [it38, it19, it3, mul23]
  kernel_rfl
theorem rest23_9 : endE ((sSeq u23_2 (sSeq w_l_right_v22_1 (sSeq u23_4 w_l_right_v22_2))) (r23 x1 x2 (.d (.int 1000000000000000000000000000000)) x4 x5 x6 x7 x8 x9 x10 x11 [m])) = some ([m], some (.d (.ptr 0)), 12) := by
  unfold w_l_right_v22_1 b_l_right_v22_1 c_l_right_v22_1 w_l_right_v22_2 b_l_right_v22_2 c_l_right_v22_2
  rw [it38, it19, it3, mul23]
  kernel_rfl
theorem rest23_10 : endE ((sSeq u23_2 (sSeq w_l_right_v22_1 (sSeq u23_4 w_l_right_v22_2))) (r23 x1 x2 (.d (.str "1212")) x4 x5 x6 x7 x8 x9 x10 x11 [m])) = some ([m], some (.d (.ptr 0)), 12) := by
  unfold w_l_right_v22_1 b_l_right_v22_1 c_l_right_v22_1 w_l_right_v22_2 b_l_right_v22_2 c_l_right_v22_2
  rw [it38, it19, it3, mul23]
  kernel_rfl
theorem rest23 {x : D} (hx : x ∈ things23) : endE ((sSeq u23_2 (sSeq w_l_right_v22_1 (sSeq u23_4 w_l_right_v22_2))) (r23 x1 x2 (.d x) x4 x5 x6 x7 x8 x9 x10 x11 [m])) = some ([m], some (.d (.ptr 0)), 12) := by
  simp only [things23, List.mem_cons, List.mem_nil_iff, or_false] at hx
  rcases hx with rfl | rfl | rfl | rfl | rfl | rfl | rfl | rfl | rfl | rfl | rfl
  · exact rest23_0
  · exact rest23_1
  · exact rest23_2
  · exact rest23_3
  · exact rest23_4
  · exact rest23_5
  · exact rest23_6
  · exact rest23_7
  · exact rest23_8
  · exact rest23_9
  · exact rest23_10
theorem draw23 : u23_0 (r23 x1 x2 x3 x4 x5 x6 x7 x8 x9 x10 x11 [m]) = some (.nx (r23 x1 (.d (.lst things23)) x3 x4 x5 x6 x7 x8 x9 x10 x11 [m])) := by
  have pw : powD (.int 10) (.int 30) = some (.d (.int 1000000000000000000000000000000)) := by
    show (if (decide ((0 : Int) ≤ 30) && decide ((30 : Int) ≤ 1000) && wid 10) = true then some (Val.d (.int ((10 : Int) ^ (30 : Int).toNat))) else none) = _
    rw [wid_mk (by decide) (by decide), if_pos (by decide)]
    rfl
  have f1 : FitE 1 := fitE (by decide)
  have f2 : FitE 2 := fitE (by decide)
  have f11 : FitE 11 := fitE (by decide)
  unfold u23_0 things23
  simp [pw, f1, f2, f11, negE, eDnew]
theorem turn23 (hB : Bag z [m]) (hz : z < 2 ^ 40) : ∃ y1 y2 y3 y4 y5 y6 y7 y8 y9 y10 y11 m', b_l_right_v22_3 (r23 x1 x2 x3 x4 x5 x6 x7 x8 x9 x10 x11 [m]) = some (.nx (r23 y1 y2 y3 y4 y5 y6 y7 y8 y9 y10 y11 [m'])) ∧ Bag (z + 1) [m'] := by
  have hL : things23 ≠ [] := by unfold things23; simp
  obtain ⟨u, hu, M1, e1, hB1⟩ := l_one_spec (e := fun d : D => d) (t := things23) (q := .lst (things23.map fun d => d)) hB (by omega) hL (by unfold things23; simp) (.inl rfl)
  obtain ⟨m1, rfl⟩ := hB1.one
  have hd := List.getElem_mem hu
  generalize things23[u] = x at *
  have e1' : f_l_one [.ptr 0, .lst things23] [m] = some (.d x, [m1]) := by rw [List.map_id'] at e1; exact e1
  have rx : ∀ ε : SE, Val.res ε (.d x) = some x := by
    simp only [things23, List.mem_cons, List.mem_nil_iff, or_false] at hd
    rcases hd with rfl | rfl | rfl | rfl | rfl | rfl | rfl | rfl | rfl | rfl | rfl <;> exact fun _ => rfl
  have s1 : u23_1 (r23 x1 (.d (.lst things23)) x3 x4 x5 x6 x7 x8 x9 x10 x11 [m]) = some (.nx (r23 x1 (.d (.lst things23)) (.d x) x4 x5 x6 x7 x8 x9 x10 x11 [m1])) := by
    have rT : ∀ ε : SE, Val.res ε (.d (.lst things23)) = some (.lst things23) := fun _ => rfl
    unfold u23_1
    generalize things23 = TH at *
    simp [e1', rx, rT]
  have rs := rest23 (m := m1) (x1 := x1) (x2 := .d (.lst things23)) (x4 := x4) (x5 := x5) (x6 := x6) (x7 := x7) (x8 := x8) (x9 := x9) (x10 := x10) (x11 := x11) hd
  rw [body23, run_seq23 draw23, run_seq23 s1]
  generalize (sSeq u23_2 (sSeq w_l_right_v22_1 (sSeq u23_4 w_l_right_v22_2))) (r23 x1 (.d (.lst things23)) (.d x) x4 x5 x6 x7 x8 x9 x10 x11 [m1]) = o at *
  cases o with
  | none => cases rs
  | some o =>
    cases o with
    | nx ε =>
      obtain ⟨sl, M2⟩ := ε
      have rs' : (M2, sl[0]?, sl.length) = ([m1], some (Sl.d (.ptr 0)), 12) := Option.some.inj rs
      injection rs' with r1 r2
      injection r2 with r3 r4
      subst r1
      match sl, r3, r4 with
      | [a0, a1, a2, a3, a4, a5, a6, a7, a8, a9, a10, a11], r3, _ =>
        cases r3
        exact ⟨a1, a2, a3, a4, a5, a6, a7, a8, a9, a10, a11, m1, rfl, hB1⟩
    | _ => cases rs
theorem right23 (hB : Bag 0 [m]) : ∃ m' : MO, f_l_right_v22 [.ptr 0] [m] = some (.d (.bl true), [m']) := by
  obtain ⟨ε', e, y1, y2, y3, y4, y5, y6, y7, y8, y9, y10, y11, m1, rfl, hB1⟩ := for_ix (g := gN 1) (body := b_l_right_v22_3) nI (fun n ε => ∃ y1 y2 y3 y4 y5 y6 y7 y8 y9 y10 y11 m', ε = r23 y1 y2 y3 y4 y5 y6 y7 y8 y9 y10 y11 [m'] ∧ Bag n [m']) [0, 1, 2] (r23 .no .no .no .no .no .no .no .no .no .no .no [m]) ⟨_, _, _, _, _, _, _, _, _, _, _, m, rfl, hB⟩
    (fun n a ε ha ⟨y1, y2, y3, y4, y5, y6, y7, y8, y9, y10, y11, m1, e, hB1⟩ => by
      subst e
      have hn : n < 3 := by
        have := (List.getElem?_eq_some_iff.mp ha).1
        simpa using this
      obtain ⟨z1, z2, z3, z4, z5, z6, z7, z8, z9, z10, z11, m2, e, hB2⟩ := turn23 (x1 := .d (nI a)) (x2 := y2) (x3 := y3) (x4 := y4) (x5 := y5) (x6 := y6) (x7 := y7) (x8 := y8) (x9 := y9) (x10 := y10) (x11 := y11) hB1 (by omega)
      exact ⟨r23 (.d (nI a)) y2 y3 y4 y5 y6 y7 y8 y9 y10 y11 [m1], _, by simp, .inl e, _, _, _, _, _, _, _, _, _, _, _, m2, rfl, hB2⟩)
  refine ⟨m1, ?_⟩
  have it3' := it3
  unfold f_l_right_v22
  rw [runF_s (n := 1) (ds := [.ptr 0]) rfl]
  unfold m_l_right_v22 w_l_right_v22_3
  rw [it3']
  show ((sSeq _ _) (r23 .no .no .no .no .no .no .no .no .no .no .no [m])).bind finV = _
  have e' : (sFor (fun ε => some (rngD 0 3, ε)) (gN 1) b_l_right_v22_3) (r23 .no .no .no .no .no .no .no .no .no .no .no [m]) = some (.nx (r23 y1 y2 y3 y4 y5 y6 y7 y8 y9 y10 y11 [m1])) := by
    rw [sFor_s]
    exact e
  rw [run_seq23 e']
  rfl
theorem law_v22_true (ns : List Int) (hl : ns.length ≤ 63) : f_law_v22 [.scr ns] [] = some (.d (.bl true), []) :=
  law_bag (q := 4) (by decide) (fun m hB => right23 hB) ns hl
end
end KM

set_option maxHeartbeats 4000000
namespace L23
open PySem PySem.Spec PyProof.Rows L2 KD KM
abbrev Fx (w : World) (h : Heap) (K : PySem.W.Frag) : Prop := SaysY fa fn [] [] da exB w h K
section
variable {P : Program} {w : World} {K : PySem.W.Frag} {mg : Str → Option Value} {base h : Heap}
theorem fz (KX : K.In h) (G : h.Ns mainGlobals mg) (c : Fx w h K) {x : Str} (i : Nat) (e : fa[i]? = some (.free x)) : mg x = none := He.free_ok KX G (c.t.d.fact i e)
theorem gz (KX : K.In h) (G : h.Ns mainGlobals mg) (c : Fx w h K) {x : Str} (i : Nat) (e : fa[i]? = some (.glo x)) : mg x = some (.ref (He.ga K x)) := He.glo_ok KX G (c.t.d.fact i e)
theorem iz (KX : K.In h) (G : h.Ns mainGlobals mg) (c : Fx w h K) {x : Str} {z : Int} (i : Nat) (e : fa[i]? = some (.int x z)) : ∃ t, mg x = some (.int z t) := He.int_ok KX G (c.t.d.fact i e)
theorem sz_ (KX : K.In h) (G : h.Ns mainGlobals mg) (c : Fx w h K) {x z : Str} (i : Nat) (e : fa[i]? = some (.str x z)) : ∃ t, mg x = some (.str z t) := He.str_ok KX G (c.t.d.fact i e)
theorem cz (c : Fx w h K) {x : Str} (i : Nat) (e : fa[i]? = some (.cls x)) : Cls K (He.ga K x) := He.cls_ok (c.t.d.fact i e)
theorem nz (c : Fx w h K) {x f : Str} (i : Nat) (e : fa[i]? = some (.noat x f)) : NoAttr K (He.ga K x) f := He.noat_ok (c.t.d.fact i e)
theorem mz (c : Fx w h K) {x m : Str} (i : Nat) (e : fa[i]? = some (.meth x m)) : Meth K (He.ga K x) m (He.ma K (He.ga K x) m) := He.meth_ok (c.t.d.fact i e)
theorem yz (c : Fx w h K) {x : Str} (i : Nat) (e : fa[i]? = some (.mkr x)) : Mk K (He.ga K x) (He.ma K (He.ga K x) "__init__") := He.mkr_ok (c.t.d.fact i e)
theorem xz (c : Fx w h K) {f : PySem.W.Frag → Bool} (i : Nat) (e : exs[i]? = some f) : f K = true := List.all_eq_true.mp c.more f (List.mem_of_getElem? e)
theorem dz (c : Fx w h K) {d : He.DefD} (i : Nat) (e : fn[i]? = some d) : FunD K d.name d.qual d.params d.body d.scope (d.dvs K) (d.kws K) (He.fAd K d.at_) (fdOf K d) := sx_def c.x (List.mem_of_getElem? e)
theorem xct {K : PySem.W.Frag} : ns_.map (ctOf K) = xs_.map (He.ga K) := rfl
theorem xA_SizeError (c : Fx w h K) : ∀ q ∈ xt_SizeError, ExA K (ctOf K q.1) := tab_of (ns := ns_) (xs := xs_) (bs := [false, false, false, false, false, false, false, false, false, false, false, false, false, false, false, false, false, false, false, false, false, true]) (p := fun a _ => ExA K a) xct fun q hq => exasB_ok (xs := xs_) (xz c 23 rfl) q.1 (List.of_mem_zip hq).1
theorem xk_SizeError (c : Fx w h K) : ∀ q ∈ xt_SizeError, PySem.W.kitOne K (.ref (ctOf K q.1)) (.ref (He.ga K "SizeError")) = some q.2 := tab_of (ns := ns_) (xs := xs_) (bs := [false, false, false, false, false, false, false, false, false, false, false, false, false, false, false, false, false, false, false, false, false, true]) (p := fun a b => PySem.W.kitOne K (.ref a) (.ref (He.ga K "SizeError")) = some b) xct fun q hq => kitsB_ok (xz (f := fun K => kitsB K (.ref (He.ga K "SizeError")) (xs_.zip [false, false, false, false, false, false, false, false, false, false, false, false, false, false, false, false, false, false, false, false, false, true])) c 24 rfl) hq
theorem xA_QuestionError (c : Fx w h K) : ∀ q ∈ xt_QuestionError, ExA K (ctOf K q.1) := tab_of (ns := ns_) (xs := xs_) (bs := [false, false, false, false, false, false, false, false, false, false, false, false, false, true, true, true, true, true, true, true, true, false]) (p := fun a _ => ExA K a) xct fun q hq => exasB_ok (xs := xs_) (xz c 23 rfl) q.1 (List.of_mem_zip hq).1
theorem xk_QuestionError (c : Fx w h K) : ∀ q ∈ xt_QuestionError, PySem.W.kitOne K (.ref (ctOf K q.1)) (.ref (He.ga K "QuestionError")) = some q.2 := tab_of (ns := ns_) (xs := xs_) (bs := [false, false, false, false, false, false, false, false, false, false, false, false, false, true, true, true, true, true, true, true, true, false]) (p := fun a b => PySem.W.kitOne K (.ref a) (.ref (He.ga K "QuestionError")) = some b) xct fun q hq => kitsB_ok (xz (f := fun K => kitsB K (.ref (He.ga K "QuestionError")) (xs_.zip [false, false, false, false, false, false, false, false, false, false, false, false, false, true, true, true, true, true, true, true, true, false])) c 25 rfl) hq
theorem xA_ShapeError (c : Fx w h K) : ∀ q ∈ xt_ShapeError, ExA K (ctOf K q.1) := tab_of (ns := ns_) (xs := xs_) (bs := [true, true, true, true, true, true, true, true, true, true, true, true, true, false, false, false, false, false, false, false, false, false]) (p := fun a _ => ExA K a) xct fun q hq => exasB_ok (xs := xs_) (xz c 23 rfl) q.1 (List.of_mem_zip hq).1
theorem xk_ShapeError (c : Fx w h K) : ∀ q ∈ xt_ShapeError, PySem.W.kitOne K (.ref (ctOf K q.1)) (.ref (He.ga K "ShapeError")) = some q.2 := tab_of (ns := ns_) (xs := xs_) (bs := [true, true, true, true, true, true, true, true, true, true, true, true, true, false, false, false, false, false, false, false, false, false]) (p := fun a b => PySem.W.kitOne K (.ref a) (.ref (He.ga K "ShapeError")) = some b) xct fun q hq => kitsB_ok (xz (f := fun K => kitsB K (.ref (He.ga K "ShapeError")) (xs_.zip [true, true, true, true, true, true, true, true, true, true, true, true, true, false, false, false, false, false, false, false, false, false])) c 26 rfl) hq
theorem xA_ArithmeticError (c : Fx w h K) : ∀ q ∈ xt_ArithmeticError, ExA K (ctOf K q.1) := tab_of (ns := ns_) (xs := xs_) (bs := [false, false, false, false, false, false, false, false, false, false, false, false, false, false, false, false, false, false, false, false, false, true]) (p := fun a _ => ExA K a) xct fun q hq => exasB_ok (xs := xs_) (xz c 23 rfl) q.1 (List.of_mem_zip hq).1
theorem xk_ArithmeticError (c : Fx w h K) : ∀ q ∈ xt_ArithmeticError, PySem.W.kitOne K (.ref (ctOf K q.1)) (.type "ArithmeticError") = some q.2 := tab_of (ns := ns_) (xs := xs_) (bs := [false, false, false, false, false, false, false, false, false, false, false, false, false, false, false, false, false, false, false, false, false, true]) (p := fun a b => PySem.W.kitOne K (.ref a) (.type "ArithmeticError") = some b) xct fun q hq => kitsB_ok (xz (f := fun K => kitsB K (.type "ArithmeticError") (xs_.zip [false, false, false, false, false, false, false, false, false, false, false, false, false, false, false, false, false, false, false, false, false, true])) c 27 rfl) hq
theorem xA_LookupError (c : Fx w h K) : ∀ q ∈ xt_LookupError, ExA K (ctOf K q.1) := tab_of (ns := ns_) (xs := xs_) (bs := [false, false, false, false, false, false, false, false, false, false, false, false, false, true, true, true, true, true, true, true, true, false]) (p := fun a _ => ExA K a) xct fun q hq => exasB_ok (xs := xs_) (xz c 23 rfl) q.1 (List.of_mem_zip hq).1
theorem xk_LookupError (c : Fx w h K) : ∀ q ∈ xt_LookupError, PySem.W.kitOne K (.ref (ctOf K q.1)) (.type "LookupError") = some q.2 := tab_of (ns := ns_) (xs := xs_) (bs := [false, false, false, false, false, false, false, false, false, false, false, false, false, true, true, true, true, true, true, true, true, false]) (p := fun a b => PySem.W.kitOne K (.ref a) (.type "LookupError") = some b) xct fun q hq => kitsB_ok (xz (f := fun K => kitsB K (.type "LookupError") (xs_.zip [false, false, false, false, false, false, false, false, false, false, false, false, false, true, true, true, true, true, true, true, true, false])) c 28 rfl) hq
theorem xA_ValueError (c : Fx w h K) : ∀ q ∈ xt_ValueError, ExA K (ctOf K q.1) := tab_of (ns := ns_) (xs := xs_) (bs := [true, true, true, true, true, true, true, true, true, true, true, true, true, false, false, false, false, false, false, false, false, false]) (p := fun a _ => ExA K a) xct fun q hq => exasB_ok (xs := xs_) (xz c 23 rfl) q.1 (List.of_mem_zip hq).1
theorem xk_ValueError (c : Fx w h K) : ∀ q ∈ xt_ValueError, PySem.W.kitOne K (.ref (ctOf K q.1)) (.type "ValueError") = some q.2 := tab_of (ns := ns_) (xs := xs_) (bs := [true, true, true, true, true, true, true, true, true, true, true, true, true, false, false, false, false, false, false, false, false, false]) (p := fun a b => PySem.W.kitOne K (.ref a) (.type "ValueError") = some b) xct fun q hq => kitsB_ok (xz (f := fun K => kitsB K (.type "ValueError") (xs_.zip [true, true, true, true, true, true, true, true, true, true, true, true, true, false, false, false, false, false, false, false, false, false])) c 29 rfl) hq
theorem xA_InvalidText (c : Fx w h K) : ∀ q ∈ xt_InvalidText, ExA K (ctOf K q.1) := tab_of (ns := ns_) (xs := xs_) (bs := [false, false, true, false, false, false, false, false, false, false, false, false, false, false, false, false, false, false, false, false, false, false]) (p := fun a _ => ExA K a) xct fun q hq => exasB_ok (xs := xs_) (xz c 23 rfl) q.1 (List.of_mem_zip hq).1
theorem xk_InvalidText (c : Fx w h K) : ∀ q ∈ xt_InvalidText, PySem.W.kitOne K (.ref (ctOf K q.1)) (.ref (He.ga K "InvalidText")) = some q.2 := tab_of (ns := ns_) (xs := xs_) (bs := [false, false, true, false, false, false, false, false, false, false, false, false, false, false, false, false, false, false, false, false, false, false]) (p := fun a b => PySem.W.kitOne K (.ref a) (.ref (He.ga K "InvalidText")) = some b) xct fun q hq => kitsB_ok (xz (f := fun K => kitsB K (.ref (He.ga K "InvalidText")) (xs_.zip [false, false, true, false, false, false, false, false, false, false, false, false, false, false, false, false, false, false, false, false, false, false])) c 30 rfl) hq
theorem xA_InvalidTies (c : Fx w h K) : ∀ q ∈ xt_InvalidTies, ExA K (ctOf K q.1) := tab_of (ns := ns_) (xs := xs_) (bs := [false, true, false, false, false, false, false, false, false, false, false, false, false, false, false, false, false, false, false, false, false, false]) (p := fun a _ => ExA K a) xct fun q hq => exasB_ok (xs := xs_) (xz c 23 rfl) q.1 (List.of_mem_zip hq).1
theorem xk_InvalidTies (c : Fx w h K) : ∀ q ∈ xt_InvalidTies, PySem.W.kitOne K (.ref (ctOf K q.1)) (.ref (He.ga K "InvalidTies")) = some q.2 := tab_of (ns := ns_) (xs := xs_) (bs := [false, true, false, false, false, false, false, false, false, false, false, false, false, false, false, false, false, false, false, false, false, false]) (p := fun a b => PySem.W.kitOne K (.ref a) (.ref (He.ga K "InvalidTies")) = some b) xct fun q hq => kitsB_ok (xz (f := fun K => kitsB K (.ref (He.ga K "InvalidTies")) (xs_.zip [false, true, false, false, false, false, false, false, false, false, false, false, false, false, false, false, false, false, false, false, false, false])) c 31 rfl) hq
theorem xA_InvalidPlaces (c : Fx w h K) : ∀ q ∈ xt_InvalidPlaces, ExA K (ctOf K q.1) := tab_of (ns := ns_) (xs := xs_) (bs := [true, false, false, false, false, false, false, false, false, false, false, false, false, false, false, false, false, false, false, false, false, false]) (p := fun a _ => ExA K a) xct fun q hq => exasB_ok (xs := xs_) (xz c 23 rfl) q.1 (List.of_mem_zip hq).1
theorem xk_InvalidPlaces (c : Fx w h K) : ∀ q ∈ xt_InvalidPlaces, PySem.W.kitOne K (.ref (ctOf K q.1)) (.ref (He.ga K "InvalidPlaces")) = some q.2 := tab_of (ns := ns_) (xs := xs_) (bs := [true, false, false, false, false, false, false, false, false, false, false, false, false, false, false, false, false, false, false, false, false, false]) (p := fun a b => PySem.W.kitOne K (.ref a) (.ref (He.ga K "InvalidPlaces")) = some b) xct fun q hq => kitsB_ok (xz (f := fun K => kitsB K (.ref (He.ga K "InvalidPlaces")) (xs_.zip [true, false, false, false, false, false, false, false, false, false, false, false, false, false, false, false, false, false, false, false, false, false])) c 32 rfl) hq
theorem xA_InvalidColouring (c : Fx w h K) : ∀ q ∈ xt_InvalidColouring, ExA K (ctOf K q.1) := tab_of (ns := ns_) (xs := xs_) (bs := [false, false, false, false, true, false, false, false, false, false, false, false, false, false, false, false, false, false, false, false, false, false]) (p := fun a _ => ExA K a) xct fun q hq => exasB_ok (xs := xs_) (xz c 23 rfl) q.1 (List.of_mem_zip hq).1
theorem xk_InvalidColouring (c : Fx w h K) : ∀ q ∈ xt_InvalidColouring, PySem.W.kitOne K (.ref (ctOf K q.1)) (.ref (He.ga K "InvalidColouring")) = some q.2 := tab_of (ns := ns_) (xs := xs_) (bs := [false, false, false, false, true, false, false, false, false, false, false, false, false, false, false, false, false, false, false, false, false, false]) (p := fun a b => PySem.W.kitOne K (.ref a) (.ref (He.ga K "InvalidColouring")) = some b) xct fun q hq => kitsB_ok (xz (f := fun K => kitsB K (.ref (He.ga K "InvalidColouring")) (xs_.zip [false, false, false, false, true, false, false, false, false, false, false, false, false, false, false, false, false, false, false, false, false, false])) c 33 rfl) hq
theorem xA_InvalidColours (c : Fx w h K) : ∀ q ∈ xt_InvalidColours, ExA K (ctOf K q.1) := tab_of (ns := ns_) (xs := xs_) (bs := [false, false, false, true, false, false, false, false, false, false, false, false, false, false, false, false, false, false, false, false, false, false]) (p := fun a _ => ExA K a) xct fun q hq => exasB_ok (xs := xs_) (xz c 23 rfl) q.1 (List.of_mem_zip hq).1
theorem xk_InvalidColours (c : Fx w h K) : ∀ q ∈ xt_InvalidColours, PySem.W.kitOne K (.ref (ctOf K q.1)) (.ref (He.ga K "InvalidColours")) = some q.2 := tab_of (ns := ns_) (xs := xs_) (bs := [false, false, false, true, false, false, false, false, false, false, false, false, false, false, false, false, false, false, false, false, false, false]) (p := fun a b => PySem.W.kitOne K (.ref a) (.ref (He.ga K "InvalidColours")) = some b) xct fun q hq => kitsB_ok (xz (f := fun K => kitsB K (.ref (He.ga K "InvalidColours")) (xs_.zip [false, false, false, true, false, false, false, false, false, false, false, false, false, false, false, false, false, false, false, false, false, false])) c 34 rfl) hq
theorem xA_InvalidSeen (c : Fx w h K) : ∀ q ∈ xt_InvalidSeen, ExA K (ctOf K q.1) := tab_of (ns := ns_) (xs := xs_) (bs := [false, false, false, false, false, false, false, true, false, false, false, false, false, false, false, false, false, false, false, false, false, false]) (p := fun a _ => ExA K a) xct fun q hq => exasB_ok (xs := xs_) (xz c 23 rfl) q.1 (List.of_mem_zip hq).1
theorem xk_InvalidSeen (c : Fx w h K) : ∀ q ∈ xt_InvalidSeen, PySem.W.kitOne K (.ref (ctOf K q.1)) (.ref (He.ga K "InvalidSeen")) = some q.2 := tab_of (ns := ns_) (xs := xs_) (bs := [false, false, false, false, false, false, false, true, false, false, false, false, false, false, false, false, false, false, false, false, false, false]) (p := fun a b => PySem.W.kitOne K (.ref a) (.ref (He.ga K "InvalidSeen")) = some b) xct fun q hq => kitsB_ok (xz (f := fun K => kitsB K (.ref (He.ga K "InvalidSeen")) (xs_.zip [false, false, false, false, false, false, false, true, false, false, false, false, false, false, false, false, false, false, false, false, false, false])) c 35 rfl) hq
theorem xA_InvalidLot (c : Fx w h K) : ∀ q ∈ xt_InvalidLot, ExA K (ctOf K q.1) := tab_of (ns := ns_) (xs := xs_) (bs := [false, false, false, false, false, false, true, false, false, false, false, false, false, false, false, false, false, false, false, false, false, false]) (p := fun a _ => ExA K a) xct fun q hq => exasB_ok (xs := xs_) (xz c 23 rfl) q.1 (List.of_mem_zip hq).1
theorem xk_InvalidLot (c : Fx w h K) : ∀ q ∈ xt_InvalidLot, PySem.W.kitOne K (.ref (ctOf K q.1)) (.ref (He.ga K "InvalidLot")) = some q.2 := tab_of (ns := ns_) (xs := xs_) (bs := [false, false, false, false, false, false, true, false, false, false, false, false, false, false, false, false, false, false, false, false, false, false]) (p := fun a b => PySem.W.kitOne K (.ref a) (.ref (He.ga K "InvalidLot")) = some b) xct fun q hq => kitsB_ok (xz (f := fun K => kitsB K (.ref (He.ga K "InvalidLot")) (xs_.zip [false, false, false, false, false, false, true, false, false, false, false, false, false, false, false, false, false, false, false, false, false, false])) c 36 rfl) hq
theorem xA_InvalidArray (c : Fx w h K) : ∀ q ∈ xt_InvalidArray, ExA K (ctOf K q.1) := tab_of (ns := ns_) (xs := xs_) (bs := [false, false, false, false, false, true, false, false, false, false, false, false, false, false, false, false, false, false, false, false, false, false]) (p := fun a _ => ExA K a) xct fun q hq => exasB_ok (xs := xs_) (xz c 23 rfl) q.1 (List.of_mem_zip hq).1
theorem xk_InvalidArray (c : Fx w h K) : ∀ q ∈ xt_InvalidArray, PySem.W.kitOne K (.ref (ctOf K q.1)) (.ref (He.ga K "InvalidArray")) = some q.2 := tab_of (ns := ns_) (xs := xs_) (bs := [false, false, false, false, false, true, false, false, false, false, false, false, false, false, false, false, false, false, false, false, false, false]) (p := fun a b => PySem.W.kitOne K (.ref a) (.ref (He.ga K "InvalidArray")) = some b) xct fun q hq => kitsB_ok (xz (f := fun K => kitsB K (.ref (He.ga K "InvalidArray")) (xs_.zip [false, false, false, false, false, true, false, false, false, false, false, false, false, false, false, false, false, false, false, false, false, false])) c 37 rfl) hq
theorem xA_InvalidPromise (c : Fx w h K) : ∀ q ∈ xt_InvalidPromise, ExA K (ctOf K q.1) := tab_of (ns := ns_) (xs := xs_) (bs := [false, false, false, false, false, false, false, false, false, true, false, false, false, false, false, false, false, false, false, false, false, false]) (p := fun a _ => ExA K a) xct fun q hq => exasB_ok (xs := xs_) (xz c 23 rfl) q.1 (List.of_mem_zip hq).1
theorem xk_InvalidPromise (c : Fx w h K) : ∀ q ∈ xt_InvalidPromise, PySem.W.kitOne K (.ref (ctOf K q.1)) (.ref (He.ga K "InvalidPromise")) = some q.2 := tab_of (ns := ns_) (xs := xs_) (bs := [false, false, false, false, false, false, false, false, false, true, false, false, false, false, false, false, false, false, false, false, false, false]) (p := fun a b => PySem.W.kitOne K (.ref a) (.ref (He.ga K "InvalidPromise")) = some b) xct fun q hq => kitsB_ok (xz (f := fun K => kitsB K (.ref (He.ga K "InvalidPromise")) (xs_.zip [false, false, false, false, false, false, false, false, false, true, false, false, false, false, false, false, false, false, false, false, false, false])) c 38 rfl) hq
theorem xA_InvalidDeeds (c : Fx w h K) : ∀ q ∈ xt_InvalidDeeds, ExA K (ctOf K q.1) := tab_of (ns := ns_) (xs := xs_) (bs := [false, false, false, false, false, false, false, false, true, false, false, false, false, false, false, false, false, false, false, false, false, false]) (p := fun a _ => ExA K a) xct fun q hq => exasB_ok (xs := xs_) (xz c 23 rfl) q.1 (List.of_mem_zip hq).1
theorem xk_InvalidDeeds (c : Fx w h K) : ∀ q ∈ xt_InvalidDeeds, PySem.W.kitOne K (.ref (ctOf K q.1)) (.ref (He.ga K "InvalidDeeds")) = some q.2 := tab_of (ns := ns_) (xs := xs_) (bs := [false, false, false, false, false, false, false, false, true, false, false, false, false, false, false, false, false, false, false, false, false, false]) (p := fun a b => PySem.W.kitOne K (.ref a) (.ref (He.ga K "InvalidDeeds")) = some b) xct fun q hq => kitsB_ok (xz (f := fun K => kitsB K (.ref (He.ga K "InvalidDeeds")) (xs_.zip [false, false, false, false, false, false, false, false, true, false, false, false, false, false, false, false, false, false, false, false, false, false])) c 39 rfl) hq
theorem xA_NotAWeb (c : Fx w h K) : ∀ q ∈ xt_NotAWeb, ExA K (ctOf K q.1) := tab_of (ns := ns_) (xs := xs_) (bs := [false, false, false, false, false, false, false, false, false, false, false, false, true, false, false, false, false, false, false, false, false, false]) (p := fun a _ => ExA K a) xct fun q hq => exasB_ok (xs := xs_) (xz c 23 rfl) q.1 (List.of_mem_zip hq).1
theorem xk_NotAWeb (c : Fx w h K) : ∀ q ∈ xt_NotAWeb, PySem.W.kitOne K (.ref (ctOf K q.1)) (.ref (He.ga K "NotAWeb")) = some q.2 := tab_of (ns := ns_) (xs := xs_) (bs := [false, false, false, false, false, false, false, false, false, false, false, false, true, false, false, false, false, false, false, false, false, false]) (p := fun a b => PySem.W.kitOne K (.ref a) (.ref (He.ga K "NotAWeb")) = some b) xct fun q hq => kitsB_ok (xz (f := fun K => kitsB K (.ref (He.ga K "NotAWeb")) (xs_.zip [false, false, false, false, false, false, false, false, false, false, false, false, true, false, false, false, false, false, false, false, false, false])) c 40 rfl) hq
theorem xA_InvalidLine (c : Fx w h K) : ∀ q ∈ xt_InvalidLine, ExA K (ctOf K q.1) := tab_of (ns := ns_) (xs := xs_) (bs := [false, false, false, false, false, false, false, false, false, false, false, true, false, false, false, false, false, false, false, false, false, false]) (p := fun a _ => ExA K a) xct fun q hq => exasB_ok (xs := xs_) (xz c 23 rfl) q.1 (List.of_mem_zip hq).1
theorem xk_InvalidLine (c : Fx w h K) : ∀ q ∈ xt_InvalidLine, PySem.W.kitOne K (.ref (ctOf K q.1)) (.ref (He.ga K "InvalidLine")) = some q.2 := tab_of (ns := ns_) (xs := xs_) (bs := [false, false, false, false, false, false, false, false, false, false, false, true, false, false, false, false, false, false, false, false, false, false]) (p := fun a b => PySem.W.kitOne K (.ref a) (.ref (He.ga K "InvalidLine")) = some b) xct fun q hq => kitsB_ok (xz (f := fun K => kitsB K (.ref (He.ga K "InvalidLine")) (xs_.zip [false, false, false, false, false, false, false, false, false, false, false, true, false, false, false, false, false, false, false, false, false, false])) c 41 rfl) hq
theorem xA_InvalidIndex (c : Fx w h K) : ∀ q ∈ xt_InvalidIndex, ExA K (ctOf K q.1) := tab_of (ns := ns_) (xs := xs_) (bs := [false, false, false, false, false, false, false, false, false, false, true, false, false, false, false, false, false, false, false, false, false, false]) (p := fun a _ => ExA K a) xct fun q hq => exasB_ok (xs := xs_) (xz c 23 rfl) q.1 (List.of_mem_zip hq).1
theorem xk_InvalidIndex (c : Fx w h K) : ∀ q ∈ xt_InvalidIndex, PySem.W.kitOne K (.ref (ctOf K q.1)) (.ref (He.ga K "InvalidIndex")) = some q.2 := tab_of (ns := ns_) (xs := xs_) (bs := [false, false, false, false, false, false, false, false, false, false, true, false, false, false, false, false, false, false, false, false, false, false]) (p := fun a b => PySem.W.kitOne K (.ref a) (.ref (He.ga K "InvalidIndex")) = some b) xct fun q hq => kitsB_ok (xz (f := fun K => kitsB K (.ref (He.ga K "InvalidIndex")) (xs_.zip [false, false, false, false, false, false, false, false, false, false, true, false, false, false, false, false, false, false, false, false, false, false])) c 42 rfl) hq
theorem xA_UnknownColour (c : Fx w h K) : ∀ q ∈ xt_UnknownColour, ExA K (ctOf K q.1) := tab_of (ns := ns_) (xs := xs_) (bs := [false, false, false, false, false, false, false, false, false, false, false, false, false, false, false, true, false, false, false, false, false, false]) (p := fun a _ => ExA K a) xct fun q hq => exasB_ok (xs := xs_) (xz c 23 rfl) q.1 (List.of_mem_zip hq).1
theorem xk_UnknownColour (c : Fx w h K) : ∀ q ∈ xt_UnknownColour, PySem.W.kitOne K (.ref (ctOf K q.1)) (.ref (He.ga K "UnknownColour")) = some q.2 := tab_of (ns := ns_) (xs := xs_) (bs := [false, false, false, false, false, false, false, false, false, false, false, false, false, false, false, true, false, false, false, false, false, false]) (p := fun a b => PySem.W.kitOne K (.ref a) (.ref (He.ga K "UnknownColour")) = some b) xct fun q hq => kitsB_ok (xz (f := fun K => kitsB K (.ref (He.ga K "UnknownColour")) (xs_.zip [false, false, false, false, false, false, false, false, false, false, false, false, false, false, false, true, false, false, false, false, false, false])) c 43 rfl) hq
theorem xA_UnknownTie (c : Fx w h K) : ∀ q ∈ xt_UnknownTie, ExA K (ctOf K q.1) := tab_of (ns := ns_) (xs := xs_) (bs := [false, false, false, false, false, false, false, false, false, false, false, false, false, false, true, false, false, false, false, false, false, false]) (p := fun a _ => ExA K a) xct fun q hq => exasB_ok (xs := xs_) (xz c 23 rfl) q.1 (List.of_mem_zip hq).1
theorem xk_UnknownTie (c : Fx w h K) : ∀ q ∈ xt_UnknownTie, PySem.W.kitOne K (.ref (ctOf K q.1)) (.ref (He.ga K "UnknownTie")) = some q.2 := tab_of (ns := ns_) (xs := xs_) (bs := [false, false, false, false, false, false, false, false, false, false, false, false, false, false, true, false, false, false, false, false, false, false]) (p := fun a b => PySem.W.kitOne K (.ref a) (.ref (He.ga K "UnknownTie")) = some b) xct fun q hq => kitsB_ok (xz (f := fun K => kitsB K (.ref (He.ga K "UnknownTie")) (xs_.zip [false, false, false, false, false, false, false, false, false, false, false, false, false, false, true, false, false, false, false, false, false, false])) c 44 rfl) hq
theorem xA_UnknownPlace (c : Fx w h K) : ∀ q ∈ xt_UnknownPlace, ExA K (ctOf K q.1) := tab_of (ns := ns_) (xs := xs_) (bs := [false, false, false, false, false, false, false, false, false, false, false, false, false, true, false, false, false, false, false, false, false, false]) (p := fun a _ => ExA K a) xct fun q hq => exasB_ok (xs := xs_) (xz c 23 rfl) q.1 (List.of_mem_zip hq).1
theorem xk_UnknownPlace (c : Fx w h K) : ∀ q ∈ xt_UnknownPlace, PySem.W.kitOne K (.ref (ctOf K q.1)) (.ref (He.ga K "UnknownPlace")) = some q.2 := tab_of (ns := ns_) (xs := xs_) (bs := [false, false, false, false, false, false, false, false, false, false, false, false, false, true, false, false, false, false, false, false, false, false]) (p := fun a b => PySem.W.kitOne K (.ref a) (.ref (He.ga K "UnknownPlace")) = some b) xct fun q hq => kitsB_ok (xz (f := fun K => kitsB K (.ref (He.ga K "UnknownPlace")) (xs_.zip [false, false, false, false, false, false, false, false, false, false, false, false, false, true, false, false, false, false, false, false, false, false])) c 45 rfl) hq
theorem xA_TooMany (c : Fx w h K) : ∀ q ∈ xt_TooMany, ExA K (ctOf K q.1) := tab_of (ns := ns_) (xs := xs_) (bs := [false, false, false, false, false, false, false, false, false, false, false, false, false, false, false, false, false, false, false, false, false, true]) (p := fun a _ => ExA K a) xct fun q hq => exasB_ok (xs := xs_) (xz c 23 rfl) q.1 (List.of_mem_zip hq).1
theorem xk_TooMany (c : Fx w h K) : ∀ q ∈ xt_TooMany, PySem.W.kitOne K (.ref (ctOf K q.1)) (.ref (He.ga K "TooMany")) = some q.2 := tab_of (ns := ns_) (xs := xs_) (bs := [false, false, false, false, false, false, false, false, false, false, false, false, false, false, false, false, false, false, false, false, false, true]) (p := fun a b => PySem.W.kitOne K (.ref a) (.ref (He.ga K "TooMany")) = some b) xct fun q hq => kitsB_ok (xz (f := fun K => kitsB K (.ref (He.ga K "TooMany")) (xs_.zip [false, false, false, false, false, false, false, false, false, false, false, false, false, false, false, false, false, false, false, false, false, true])) c 46 rfl) hq
theorem xA_Broken (c : Fx w h K) : ∀ q ∈ xt_Broken, ExA K (ctOf K q.1) := tab_of (ns := ns_) (xs := xs_) (bs := [false, false, false, false, false, false, false, false, false, false, false, false, false, false, false, false, false, false, false, false, true, false]) (p := fun a _ => ExA K a) xct fun q hq => exasB_ok (xs := xs_) (xz c 23 rfl) q.1 (List.of_mem_zip hq).1
theorem xk_Broken (c : Fx w h K) : ∀ q ∈ xt_Broken, PySem.W.kitOne K (.ref (ctOf K q.1)) (.ref (He.ga K "Broken")) = some q.2 := tab_of (ns := ns_) (xs := xs_) (bs := [false, false, false, false, false, false, false, false, false, false, false, false, false, false, false, false, false, false, false, false, true, false]) (p := fun a b => PySem.W.kitOne K (.ref a) (.ref (He.ga K "Broken")) = some b) xct fun q hq => kitsB_ok (xz (f := fun K => kitsB K (.ref (He.ga K "Broken")) (xs_.zip [false, false, false, false, false, false, false, false, false, false, false, false, false, false, false, false, false, false, false, false, true, false])) c 47 rfl) hq
theorem xA_Refused (c : Fx w h K) : ∀ q ∈ xt_Refused, ExA K (ctOf K q.1) := tab_of (ns := ns_) (xs := xs_) (bs := [false, false, false, false, false, false, false, false, false, false, false, false, false, false, false, false, false, true, false, false, false, false]) (p := fun a _ => ExA K a) xct fun q hq => exasB_ok (xs := xs_) (xz c 23 rfl) q.1 (List.of_mem_zip hq).1
theorem xk_Refused (c : Fx w h K) : ∀ q ∈ xt_Refused, PySem.W.kitOne K (.ref (ctOf K q.1)) (.ref (He.ga K "Refused")) = some q.2 := tab_of (ns := ns_) (xs := xs_) (bs := [false, false, false, false, false, false, false, false, false, false, false, false, false, false, false, false, false, true, false, false, false, false]) (p := fun a b => PySem.W.kitOne K (.ref a) (.ref (He.ga K "Refused")) = some b) xct fun q hq => kitsB_ok (xz (f := fun K => kitsB K (.ref (He.ga K "Refused")) (xs_.zip [false, false, false, false, false, false, false, false, false, false, false, false, false, false, false, false, false, true, false, false, false, false])) c 48 rfl) hq
theorem xA_NothingToUndo (c : Fx w h K) : ∀ q ∈ xt_NothingToUndo, ExA K (ctOf K q.1) := tab_of (ns := ns_) (xs := xs_) (bs := [false, false, false, false, false, false, false, false, false, false, false, false, false, false, false, false, false, false, false, true, false, false]) (p := fun a _ => ExA K a) xct fun q hq => exasB_ok (xs := xs_) (xz c 23 rfl) q.1 (List.of_mem_zip hq).1
theorem xk_NothingToUndo (c : Fx w h K) : ∀ q ∈ xt_NothingToUndo, PySem.W.kitOne K (.ref (ctOf K q.1)) (.ref (He.ga K "NothingToUndo")) = some q.2 := tab_of (ns := ns_) (xs := xs_) (bs := [false, false, false, false, false, false, false, false, false, false, false, false, false, false, false, false, false, false, false, true, false, false]) (p := fun a b => PySem.W.kitOne K (.ref a) (.ref (He.ga K "NothingToUndo")) = some b) xct fun q hq => kitsB_ok (xz (f := fun K => kitsB K (.ref (He.ga K "NothingToUndo")) (xs_.zip [false, false, false, false, false, false, false, false, false, false, false, false, false, false, false, false, false, false, false, true, false, false])) c 49 rfl) hq
theorem xA_Busy (c : Fx w h K) : ∀ q ∈ xt_Busy, ExA K (ctOf K q.1) := tab_of (ns := ns_) (xs := xs_) (bs := [false, false, false, false, false, false, false, false, false, false, false, false, false, false, false, false, false, false, true, false, false, false]) (p := fun a _ => ExA K a) xct fun q hq => exasB_ok (xs := xs_) (xz c 23 rfl) q.1 (List.of_mem_zip hq).1
theorem xk_Busy (c : Fx w h K) : ∀ q ∈ xt_Busy, PySem.W.kitOne K (.ref (ctOf K q.1)) (.ref (He.ga K "Busy")) = some q.2 := tab_of (ns := ns_) (xs := xs_) (bs := [false, false, false, false, false, false, false, false, false, false, false, false, false, false, false, false, false, false, true, false, false, false]) (p := fun a b => PySem.W.kitOne K (.ref a) (.ref (He.ga K "Busy")) = some b) xct fun q hq => kitsB_ok (xz (f := fun K => kitsB K (.ref (He.ga K "Busy")) (xs_.zip [false, false, false, false, false, false, false, false, false, false, false, false, false, false, false, false, false, false, true, false, false, false])) c 50 rfl) hq
theorem xA_NoColouring (c : Fx w h K) : ∀ q ∈ xt_NoColouring, ExA K (ctOf K q.1) := tab_of (ns := ns_) (xs := xs_) (bs := [false, false, false, false, false, false, false, false, false, false, false, false, false, false, false, false, true, false, false, false, false, false]) (p := fun a _ => ExA K a) xct fun q hq => exasB_ok (xs := xs_) (xz c 23 rfl) q.1 (List.of_mem_zip hq).1
theorem xk_NoColouring (c : Fx w h K) : ∀ q ∈ xt_NoColouring, PySem.W.kitOne K (.ref (ctOf K q.1)) (.ref (He.ga K "NoColouring")) = some q.2 := tab_of (ns := ns_) (xs := xs_) (bs := [false, false, false, false, false, false, false, false, false, false, false, false, false, false, false, false, true, false, false, false, false, false]) (p := fun a b => PySem.W.kitOne K (.ref a) (.ref (He.ga K "NoColouring")) = some b) xct fun q hq => kitsB_ok (xz (f := fun K => kitsB K (.ref (He.ga K "NoColouring")) (xs_.zip [false, false, false, false, false, false, false, false, false, false, false, false, false, false, false, false, true, false, false, false, false, false])) c 51 rfl) hq
theorem xf_index (c : Fx w h K) : ∀ n ∈ xn_index, ExA K (ctOf K n) ∧ PySem.W.findIn K (.ref (ctOf K n)) "index" = some none := nos_of (p := fun C => ExA K C ∧ PySem.W.findIn K (.ref C) "index" = some none) (xs := ["InvalidPlaces", "InvalidTies", "InvalidArray", "InvalidLot", "InvalidSeen", "InvalidDeeds", "Broken"]) (ga := He.ga K) rfl fun x hx => ⟨exasB_ok (xz (f := fun K => exasB K ["InvalidPlaces", "InvalidTies", "InvalidArray", "InvalidLot", "InvalidSeen", "InvalidDeeds", "Broken"]) c 52 rfl) x hx, nofB_ok (xz (f := fun K => nofB K "index" ["InvalidPlaces", "InvalidTies", "InvalidArray", "InvalidLot", "InvalidSeen", "InvalidDeeds", "Broken"]) c 53 rfl) x hx⟩
theorem xf_limit (c : Fx w h K) : ∀ n ∈ xn_limit, ExA K (ctOf K n) ∧ PySem.W.findIn K (.ref (ctOf K n)) "limit" = some none := nos_of (p := fun C => ExA K C ∧ PySem.W.findIn K (.ref C) "limit" = some none) (xs := ["TooMany"]) (ga := He.ga K) rfl fun x hx => ⟨exasB_ok (xz (f := fun K => exasB K ["TooMany"]) c 54 rfl) x hx, nofB_ok (xz (f := fun K => nofB K "limit" ["TooMany"]) c 55 rfl) x hx⟩
theorem xf_value (c : Fx w h K) : ∀ n ∈ xn_value, ExA K (ctOf K n) ∧ PySem.W.findIn K (.ref (ctOf K n)) "value" = some none := nos_of (p := fun C => ExA K C ∧ PySem.W.findIn K (.ref C) "value" = some none) (xs := ["InvalidText", "InvalidColours", "InvalidColouring", "InvalidPromise", "InvalidIndex", "InvalidLine", "NotAWeb", "UnknownPlace", "UnknownTie", "UnknownColour", "Refused"]) (ga := He.ga K) rfl fun x hx => ⟨exasB_ok (xz (f := fun K => exasB K ["InvalidText", "InvalidColours", "InvalidColouring", "InvalidPromise", "InvalidIndex", "InvalidLine", "NotAWeb", "UnknownPlace", "UnknownTie", "UnknownColour", "Refused"]) c 56 rfl) x hx, nofB_ok (xz (f := fun K => nofB K "value" ["InvalidText", "InvalidColours", "InvalidColouring", "InvalidPromise", "InvalidIndex", "InvalidLine", "NotAWeb", "UnknownPlace", "UnknownTie", "UnknownColour", "Refused"]) c 57 rfl) x hx⟩
theorem F_InvalidColours_init (c : Fx w h K) : FunD K "__init__" "InvalidColours.__init__" (defArgs s_InvalidColours_init) (defBody s_InvalidColours_init) (defScope s_InvalidColours_init) [] [] (He.ma K (He.ga K "InvalidColours") "__init__") (fdOf K d_InvalidColours_init) := dz c 9 rfl
theorem kp_InvalidColours_init (c : Fx w h K) : PySem.W.keepIn K (.ref (He.ma K (He.ga K "InvalidColours") "__init__")) = true := (F_InvalidColours_init c).kp
theorem b_InvalidColours_init_2 (c : Fx w h K) : Binds K (fdOf K d_InvalidColours_init) ["self", "value"] [] := (F_InvalidColours_init c).bindsN fun _ _ _ _ _ _ us hl => match us, hl with | [_, _], _ => rfl
theorem kb_InvalidColours_init_1_value (c : Fx w h K) : KB K (fdOf K d_InvalidColours_init) ["self", "value"] 1 ["value"] [0, 1] [] [] := fd_kb (F_InvalidColours_init c) fun _ _ _ _ _ _ us ws hu hw => match us, ws, hu, hw with | [_], [_], _, _ => rfl
theorem oki_InvalidColours_init (KX : K.In h) (G : h.Ns mainGlobals mg) (c : Fx w h K) : FnOk P w K mg base CX0 1 (He.ma K (He.ga K "InvalidColours") "__init__") (fdOf K d_InvalidColours_init) ["self", "value"] (spI (He.ga K "InvalidColours") "value") := init_ok base_VE (exkB_ok (xz (f := fun K => exkB K "InvalidColours" tlVE "ValueError.__new__" "value") c 0 rfl)).k (exkB_ok (xz (f := fun K => exkB K "InvalidColours" tlVE "ValueError.__new__" "value") c 0 rfl)).f (F_InvalidColours_init c) sc_InvalidColours_init rfl rfl (by decide) (by decide)
theorem F_InvalidText_init (c : Fx w h K) : FunD K "__init__" "InvalidText.__init__" (defArgs s_InvalidText_init) (defBody s_InvalidText_init) (defScope s_InvalidText_init) [] [] (He.ma K (He.ga K "InvalidText") "__init__") (fdOf K d_InvalidText_init) := dz c 10 rfl
theorem kp_InvalidText_init (c : Fx w h K) : PySem.W.keepIn K (.ref (He.ma K (He.ga K "InvalidText") "__init__")) = true := (F_InvalidText_init c).kp
theorem b_InvalidText_init_2 (c : Fx w h K) : Binds K (fdOf K d_InvalidText_init) ["self", "value"] [] := (F_InvalidText_init c).bindsN fun _ _ _ _ _ _ us hl => match us, hl with | [_, _], _ => rfl
theorem kb_InvalidText_init_1_value (c : Fx w h K) : KB K (fdOf K d_InvalidText_init) ["self", "value"] 1 ["value"] [0, 1] [] [] := fd_kb (F_InvalidText_init c) fun _ _ _ _ _ _ us ws hu hw => match us, ws, hu, hw with | [_], [_], _, _ => rfl
theorem oki_InvalidText_init (KX : K.In h) (G : h.Ns mainGlobals mg) (c : Fx w h K) : FnOk P w K mg base CX0 1 (He.ma K (He.ga K "InvalidText") "__init__") (fdOf K d_InvalidText_init) ["self", "value"] (spI (He.ga K "InvalidText") "value") := init_ok base_VE (exkB_ok (xz (f := fun K => exkB K "InvalidText" tlVE "ValueError.__new__" "value") c 1 rfl)).k (exkB_ok (xz (f := fun K => exkB K "InvalidText" tlVE "ValueError.__new__" "value") c 1 rfl)).f (F_InvalidText_init c) sc_InvalidText_init rfl rfl (by decide) (by decide)
theorem F_InvalidTies_init (c : Fx w h K) : FunD K "__init__" "InvalidTies.__init__" (defArgs s_InvalidTies_init) (defBody s_InvalidTies_init) (defScope s_InvalidTies_init) [] [] (He.ma K (He.ga K "InvalidTies") "__init__") (fdOf K d_InvalidTies_init) := dz c 11 rfl
theorem kp_InvalidTies_init (c : Fx w h K) : PySem.W.keepIn K (.ref (He.ma K (He.ga K "InvalidTies") "__init__")) = true := (F_InvalidTies_init c).kp
theorem b_InvalidTies_init_2 (c : Fx w h K) : Binds K (fdOf K d_InvalidTies_init) ["self", "index"] [] := (F_InvalidTies_init c).bindsN fun _ _ _ _ _ _ us hl => match us, hl with | [_, _], _ => rfl
theorem kb_InvalidTies_init_1_index (c : Fx w h K) : KB K (fdOf K d_InvalidTies_init) ["self", "index"] 1 ["index"] [0, 1] [] [] := fd_kb (F_InvalidTies_init c) fun _ _ _ _ _ _ us ws hu hw => match us, ws, hu, hw with | [_], [_], _, _ => rfl
theorem oki_InvalidTies_init (KX : K.In h) (G : h.Ns mainGlobals mg) (c : Fx w h K) : FnOk P w K mg base CX0 1 (He.ma K (He.ga K "InvalidTies") "__init__") (fdOf K d_InvalidTies_init) ["self", "index"] (spI (He.ga K "InvalidTies") "index") := init_ok base_VE (exkB_ok (xz (f := fun K => exkB K "InvalidTies" tlVE "ValueError.__new__" "index") c 2 rfl)).k (exkB_ok (xz (f := fun K => exkB K "InvalidTies" tlVE "ValueError.__new__" "index") c 2 rfl)).f (F_InvalidTies_init c) sc_InvalidTies_init rfl rfl (by decide) (by decide)
theorem F_InvalidPlaces_init (c : Fx w h K) : FunD K "__init__" "InvalidPlaces.__init__" (defArgs s_InvalidPlaces_init) (defBody s_InvalidPlaces_init) (defScope s_InvalidPlaces_init) [] [] (He.ma K (He.ga K "InvalidPlaces") "__init__") (fdOf K d_InvalidPlaces_init) := dz c 12 rfl
theorem kp_InvalidPlaces_init (c : Fx w h K) : PySem.W.keepIn K (.ref (He.ma K (He.ga K "InvalidPlaces") "__init__")) = true := (F_InvalidPlaces_init c).kp
theorem b_InvalidPlaces_init_2 (c : Fx w h K) : Binds K (fdOf K d_InvalidPlaces_init) ["self", "index"] [] := (F_InvalidPlaces_init c).bindsN fun _ _ _ _ _ _ us hl => match us, hl with | [_, _], _ => rfl
theorem kb_InvalidPlaces_init_1_index (c : Fx w h K) : KB K (fdOf K d_InvalidPlaces_init) ["self", "index"] 1 ["index"] [0, 1] [] [] := fd_kb (F_InvalidPlaces_init c) fun _ _ _ _ _ _ us ws hu hw => match us, ws, hu, hw with | [_], [_], _, _ => rfl
theorem oki_InvalidPlaces_init (KX : K.In h) (G : h.Ns mainGlobals mg) (c : Fx w h K) : FnOk P w K mg base CX0 1 (He.ma K (He.ga K "InvalidPlaces") "__init__") (fdOf K d_InvalidPlaces_init) ["self", "index"] (spI (He.ga K "InvalidPlaces") "index") := init_ok base_VE (exkB_ok (xz (f := fun K => exkB K "InvalidPlaces" tlVE "ValueError.__new__" "index") c 3 rfl)).k (exkB_ok (xz (f := fun K => exkB K "InvalidPlaces" tlVE "ValueError.__new__" "index") c 3 rfl)).f (F_InvalidPlaces_init c) sc_InvalidPlaces_init rfl rfl (by decide) (by decide)
theorem F_InvalidSeen_init (c : Fx w h K) : FunD K "__init__" "InvalidSeen.__init__" (defArgs s_InvalidSeen_init) (defBody s_InvalidSeen_init) (defScope s_InvalidSeen_init) [] [] (He.ma K (He.ga K "InvalidSeen") "__init__") (fdOf K d_InvalidSeen_init) := dz c 13 rfl
theorem kp_InvalidSeen_init (c : Fx w h K) : PySem.W.keepIn K (.ref (He.ma K (He.ga K "InvalidSeen") "__init__")) = true := (F_InvalidSeen_init c).kp
theorem b_InvalidSeen_init_2 (c : Fx w h K) : Binds K (fdOf K d_InvalidSeen_init) ["self", "index"] [] := (F_InvalidSeen_init c).bindsN fun _ _ _ _ _ _ us hl => match us, hl with | [_, _], _ => rfl
theorem kb_InvalidSeen_init_1_index (c : Fx w h K) : KB K (fdOf K d_InvalidSeen_init) ["self", "index"] 1 ["index"] [0, 1] [] [] := fd_kb (F_InvalidSeen_init c) fun _ _ _ _ _ _ us ws hu hw => match us, ws, hu, hw with | [_], [_], _, _ => rfl
theorem oki_InvalidSeen_init (KX : K.In h) (G : h.Ns mainGlobals mg) (c : Fx w h K) : FnOk P w K mg base CX0 1 (He.ma K (He.ga K "InvalidSeen") "__init__") (fdOf K d_InvalidSeen_init) ["self", "index"] (spI (He.ga K "InvalidSeen") "index") := init_ok base_VE (exkB_ok (xz (f := fun K => exkB K "InvalidSeen" tlVE "ValueError.__new__" "index") c 4 rfl)).k (exkB_ok (xz (f := fun K => exkB K "InvalidSeen" tlVE "ValueError.__new__" "index") c 4 rfl)).f (F_InvalidSeen_init c) sc_InvalidSeen_init rfl rfl (by decide) (by decide)
theorem F_InvalidLot_init (c : Fx w h K) : FunD K "__init__" "InvalidLot.__init__" (defArgs s_InvalidLot_init) (defBody s_InvalidLot_init) (defScope s_InvalidLot_init) [] [] (He.ma K (He.ga K "InvalidLot") "__init__") (fdOf K d_InvalidLot_init) := dz c 14 rfl
theorem kp_InvalidLot_init (c : Fx w h K) : PySem.W.keepIn K (.ref (He.ma K (He.ga K "InvalidLot") "__init__")) = true := (F_InvalidLot_init c).kp
theorem b_InvalidLot_init_2 (c : Fx w h K) : Binds K (fdOf K d_InvalidLot_init) ["self", "index"] [] := (F_InvalidLot_init c).bindsN fun _ _ _ _ _ _ us hl => match us, hl with | [_, _], _ => rfl
theorem kb_InvalidLot_init_1_index (c : Fx w h K) : KB K (fdOf K d_InvalidLot_init) ["self", "index"] 1 ["index"] [0, 1] [] [] := fd_kb (F_InvalidLot_init c) fun _ _ _ _ _ _ us ws hu hw => match us, ws, hu, hw with | [_], [_], _, _ => rfl
theorem oki_InvalidLot_init (KX : K.In h) (G : h.Ns mainGlobals mg) (c : Fx w h K) : FnOk P w K mg base CX0 1 (He.ma K (He.ga K "InvalidLot") "__init__") (fdOf K d_InvalidLot_init) ["self", "index"] (spI (He.ga K "InvalidLot") "index") := init_ok base_VE (exkB_ok (xz (f := fun K => exkB K "InvalidLot" tlVE "ValueError.__new__" "index") c 5 rfl)).k (exkB_ok (xz (f := fun K => exkB K "InvalidLot" tlVE "ValueError.__new__" "index") c 5 rfl)).f (F_InvalidLot_init c) sc_InvalidLot_init rfl rfl (by decide) (by decide)
theorem F_InvalidArray_init (c : Fx w h K) : FunD K "__init__" "InvalidArray.__init__" (defArgs s_InvalidArray_init) (defBody s_InvalidArray_init) (defScope s_InvalidArray_init) [] [] (He.ma K (He.ga K "InvalidArray") "__init__") (fdOf K d_InvalidArray_init) := dz c 15 rfl
theorem kp_InvalidArray_init (c : Fx w h K) : PySem.W.keepIn K (.ref (He.ma K (He.ga K "InvalidArray") "__init__")) = true := (F_InvalidArray_init c).kp
theorem b_InvalidArray_init_2 (c : Fx w h K) : Binds K (fdOf K d_InvalidArray_init) ["self", "index"] [] := (F_InvalidArray_init c).bindsN fun _ _ _ _ _ _ us hl => match us, hl with | [_, _], _ => rfl
theorem kb_InvalidArray_init_1_index (c : Fx w h K) : KB K (fdOf K d_InvalidArray_init) ["self", "index"] 1 ["index"] [0, 1] [] [] := fd_kb (F_InvalidArray_init c) fun _ _ _ _ _ _ us ws hu hw => match us, ws, hu, hw with | [_], [_], _, _ => rfl
theorem oki_InvalidArray_init (KX : K.In h) (G : h.Ns mainGlobals mg) (c : Fx w h K) : FnOk P w K mg base CX0 1 (He.ma K (He.ga K "InvalidArray") "__init__") (fdOf K d_InvalidArray_init) ["self", "index"] (spI (He.ga K "InvalidArray") "index") := init_ok base_VE (exkB_ok (xz (f := fun K => exkB K "InvalidArray" tlVE "ValueError.__new__" "index") c 6 rfl)).k (exkB_ok (xz (f := fun K => exkB K "InvalidArray" tlVE "ValueError.__new__" "index") c 6 rfl)).f (F_InvalidArray_init c) sc_InvalidArray_init rfl rfl (by decide) (by decide)
theorem F_InvalidColouring_init (c : Fx w h K) : FunD K "__init__" "InvalidColouring.__init__" (defArgs s_InvalidColouring_init) (defBody s_InvalidColouring_init) (defScope s_InvalidColouring_init) [] [] (He.ma K (He.ga K "InvalidColouring") "__init__") (fdOf K d_InvalidColouring_init) := dz c 16 rfl
theorem kp_InvalidColouring_init (c : Fx w h K) : PySem.W.keepIn K (.ref (He.ma K (He.ga K "InvalidColouring") "__init__")) = true := (F_InvalidColouring_init c).kp
theorem b_InvalidColouring_init_2 (c : Fx w h K) : Binds K (fdOf K d_InvalidColouring_init) ["self", "value"] [] := (F_InvalidColouring_init c).bindsN fun _ _ _ _ _ _ us hl => match us, hl with | [_, _], _ => rfl
theorem kb_InvalidColouring_init_1_value (c : Fx w h K) : KB K (fdOf K d_InvalidColouring_init) ["self", "value"] 1 ["value"] [0, 1] [] [] := fd_kb (F_InvalidColouring_init c) fun _ _ _ _ _ _ us ws hu hw => match us, ws, hu, hw with | [_], [_], _, _ => rfl
theorem oki_InvalidColouring_init (KX : K.In h) (G : h.Ns mainGlobals mg) (c : Fx w h K) : FnOk P w K mg base CX0 1 (He.ma K (He.ga K "InvalidColouring") "__init__") (fdOf K d_InvalidColouring_init) ["self", "value"] (spI (He.ga K "InvalidColouring") "value") := init_ok base_VE (exkB_ok (xz (f := fun K => exkB K "InvalidColouring" tlVE "ValueError.__new__" "value") c 7 rfl)).k (exkB_ok (xz (f := fun K => exkB K "InvalidColouring" tlVE "ValueError.__new__" "value") c 7 rfl)).f (F_InvalidColouring_init c) sc_InvalidColouring_init rfl rfl (by decide) (by decide)
theorem F_InvalidLine_init (c : Fx w h K) : FunD K "__init__" "InvalidLine.__init__" (defArgs s_InvalidLine_init) (defBody s_InvalidLine_init) (defScope s_InvalidLine_init) [] [] (He.ma K (He.ga K "InvalidLine") "__init__") (fdOf K d_InvalidLine_init) := dz c 17 rfl
theorem kp_InvalidLine_init (c : Fx w h K) : PySem.W.keepIn K (.ref (He.ma K (He.ga K "InvalidLine") "__init__")) = true := (F_InvalidLine_init c).kp
theorem b_InvalidLine_init_2 (c : Fx w h K) : Binds K (fdOf K d_InvalidLine_init) ["self", "value"] [] := (F_InvalidLine_init c).bindsN fun _ _ _ _ _ _ us hl => match us, hl with | [_, _], _ => rfl
theorem kb_InvalidLine_init_1_value (c : Fx w h K) : KB K (fdOf K d_InvalidLine_init) ["self", "value"] 1 ["value"] [0, 1] [] [] := fd_kb (F_InvalidLine_init c) fun _ _ _ _ _ _ us ws hu hw => match us, ws, hu, hw with | [_], [_], _, _ => rfl
theorem oki_InvalidLine_init (KX : K.In h) (G : h.Ns mainGlobals mg) (c : Fx w h K) : FnOk P w K mg base CX0 1 (He.ma K (He.ga K "InvalidLine") "__init__") (fdOf K d_InvalidLine_init) ["self", "value"] (spI (He.ga K "InvalidLine") "value") := init_ok base_VE (exkB_ok (xz (f := fun K => exkB K "InvalidLine" tlVE "ValueError.__new__" "value") c 8 rfl)).k (exkB_ok (xz (f := fun K => exkB K "InvalidLine" tlVE "ValueError.__new__" "value") c 8 rfl)).f (F_InvalidLine_init c) sc_InvalidLine_init rfl rfl (by decide) (by decide)
theorem F_InvalidIndex_init (c : Fx w h K) : FunD K "__init__" "InvalidIndex.__init__" (defArgs s_InvalidIndex_init) (defBody s_InvalidIndex_init) (defScope s_InvalidIndex_init) [] [] (He.ma K (He.ga K "InvalidIndex") "__init__") (fdOf K d_InvalidIndex_init) := dz c 18 rfl
theorem kp_InvalidIndex_init (c : Fx w h K) : PySem.W.keepIn K (.ref (He.ma K (He.ga K "InvalidIndex") "__init__")) = true := (F_InvalidIndex_init c).kp
theorem b_InvalidIndex_init_2 (c : Fx w h K) : Binds K (fdOf K d_InvalidIndex_init) ["self", "value"] [] := (F_InvalidIndex_init c).bindsN fun _ _ _ _ _ _ us hl => match us, hl with | [_, _], _ => rfl
theorem kb_InvalidIndex_init_1_value (c : Fx w h K) : KB K (fdOf K d_InvalidIndex_init) ["self", "value"] 1 ["value"] [0, 1] [] [] := fd_kb (F_InvalidIndex_init c) fun _ _ _ _ _ _ us ws hu hw => match us, ws, hu, hw with | [_], [_], _, _ => rfl
theorem oki_InvalidIndex_init (KX : K.In h) (G : h.Ns mainGlobals mg) (c : Fx w h K) : FnOk P w K mg base CX0 1 (He.ma K (He.ga K "InvalidIndex") "__init__") (fdOf K d_InvalidIndex_init) ["self", "value"] (spI (He.ga K "InvalidIndex") "value") := init_ok base_VE (exkB_ok (xz (f := fun K => exkB K "InvalidIndex" tlVE "ValueError.__new__" "value") c 9 rfl)).k (exkB_ok (xz (f := fun K => exkB K "InvalidIndex" tlVE "ValueError.__new__" "value") c 9 rfl)).f (F_InvalidIndex_init c) sc_InvalidIndex_init rfl rfl (by decide) (by decide)
theorem F_InvalidPromise_init (c : Fx w h K) : FunD K "__init__" "InvalidPromise.__init__" (defArgs s_InvalidPromise_init) (defBody s_InvalidPromise_init) (defScope s_InvalidPromise_init) [] [] (He.ma K (He.ga K "InvalidPromise") "__init__") (fdOf K d_InvalidPromise_init) := dz c 19 rfl
theorem kp_InvalidPromise_init (c : Fx w h K) : PySem.W.keepIn K (.ref (He.ma K (He.ga K "InvalidPromise") "__init__")) = true := (F_InvalidPromise_init c).kp
theorem b_InvalidPromise_init_2 (c : Fx w h K) : Binds K (fdOf K d_InvalidPromise_init) ["self", "value"] [] := (F_InvalidPromise_init c).bindsN fun _ _ _ _ _ _ us hl => match us, hl with | [_, _], _ => rfl
theorem kb_InvalidPromise_init_1_value (c : Fx w h K) : KB K (fdOf K d_InvalidPromise_init) ["self", "value"] 1 ["value"] [0, 1] [] [] := fd_kb (F_InvalidPromise_init c) fun _ _ _ _ _ _ us ws hu hw => match us, ws, hu, hw with | [_], [_], _, _ => rfl
theorem oki_InvalidPromise_init (KX : K.In h) (G : h.Ns mainGlobals mg) (c : Fx w h K) : FnOk P w K mg base CX0 1 (He.ma K (He.ga K "InvalidPromise") "__init__") (fdOf K d_InvalidPromise_init) ["self", "value"] (spI (He.ga K "InvalidPromise") "value") := init_ok base_VE (exkB_ok (xz (f := fun K => exkB K "InvalidPromise" tlVE "ValueError.__new__" "value") c 10 rfl)).k (exkB_ok (xz (f := fun K => exkB K "InvalidPromise" tlVE "ValueError.__new__" "value") c 10 rfl)).f (F_InvalidPromise_init c) sc_InvalidPromise_init rfl rfl (by decide) (by decide)
theorem F_InvalidDeeds_init (c : Fx w h K) : FunD K "__init__" "InvalidDeeds.__init__" (defArgs s_InvalidDeeds_init) (defBody s_InvalidDeeds_init) (defScope s_InvalidDeeds_init) [] [] (He.ma K (He.ga K "InvalidDeeds") "__init__") (fdOf K d_InvalidDeeds_init) := dz c 20 rfl
theorem kp_InvalidDeeds_init (c : Fx w h K) : PySem.W.keepIn K (.ref (He.ma K (He.ga K "InvalidDeeds") "__init__")) = true := (F_InvalidDeeds_init c).kp
theorem b_InvalidDeeds_init_2 (c : Fx w h K) : Binds K (fdOf K d_InvalidDeeds_init) ["self", "index"] [] := (F_InvalidDeeds_init c).bindsN fun _ _ _ _ _ _ us hl => match us, hl with | [_, _], _ => rfl
theorem kb_InvalidDeeds_init_1_index (c : Fx w h K) : KB K (fdOf K d_InvalidDeeds_init) ["self", "index"] 1 ["index"] [0, 1] [] [] := fd_kb (F_InvalidDeeds_init c) fun _ _ _ _ _ _ us ws hu hw => match us, ws, hu, hw with | [_], [_], _, _ => rfl
theorem oki_InvalidDeeds_init (KX : K.In h) (G : h.Ns mainGlobals mg) (c : Fx w h K) : FnOk P w K mg base CX0 1 (He.ma K (He.ga K "InvalidDeeds") "__init__") (fdOf K d_InvalidDeeds_init) ["self", "index"] (spI (He.ga K "InvalidDeeds") "index") := init_ok base_VE (exkB_ok (xz (f := fun K => exkB K "InvalidDeeds" tlVE "ValueError.__new__" "index") c 11 rfl)).k (exkB_ok (xz (f := fun K => exkB K "InvalidDeeds" tlVE "ValueError.__new__" "index") c 11 rfl)).f (F_InvalidDeeds_init c) sc_InvalidDeeds_init rfl rfl (by decide) (by decide)
theorem F_UnknownColour_init (c : Fx w h K) : FunD K "__init__" "UnknownColour.__init__" (defArgs s_UnknownColour_init) (defBody s_UnknownColour_init) (defScope s_UnknownColour_init) [] [] (He.ma K (He.ga K "UnknownColour") "__init__") (fdOf K d_UnknownColour_init) := dz c 21 rfl
theorem kp_UnknownColour_init (c : Fx w h K) : PySem.W.keepIn K (.ref (He.ma K (He.ga K "UnknownColour") "__init__")) = true := (F_UnknownColour_init c).kp
theorem b_UnknownColour_init_2 (c : Fx w h K) : Binds K (fdOf K d_UnknownColour_init) ["self", "value"] [] := (F_UnknownColour_init c).bindsN fun _ _ _ _ _ _ us hl => match us, hl with | [_, _], _ => rfl
theorem kb_UnknownColour_init_1_value (c : Fx w h K) : KB K (fdOf K d_UnknownColour_init) ["self", "value"] 1 ["value"] [0, 1] [] [] := fd_kb (F_UnknownColour_init c) fun _ _ _ _ _ _ us ws hu hw => match us, ws, hu, hw with | [_], [_], _, _ => rfl
theorem oki_UnknownColour_init (KX : K.In h) (G : h.Ns mainGlobals mg) (c : Fx w h K) : FnOk P w K mg base CX0 1 (He.ma K (He.ga K "UnknownColour") "__init__") (fdOf K d_UnknownColour_init) ["self", "value"] (spI (He.ga K "UnknownColour") "value") := init_ok base_LE (exkB_ok (xz (f := fun K => exkB K "UnknownColour" tlLE "LookupError.__new__" "value") c 12 rfl)).k (exkB_ok (xz (f := fun K => exkB K "UnknownColour" tlLE "LookupError.__new__" "value") c 12 rfl)).f (F_UnknownColour_init c) sc_UnknownColour_init rfl rfl (by decide) (by decide)
theorem F_UnknownTie_init (c : Fx w h K) : FunD K "__init__" "UnknownTie.__init__" (defArgs s_UnknownTie_init) (defBody s_UnknownTie_init) (defScope s_UnknownTie_init) [] [] (He.ma K (He.ga K "UnknownTie") "__init__") (fdOf K d_UnknownTie_init) := dz c 22 rfl
theorem kp_UnknownTie_init (c : Fx w h K) : PySem.W.keepIn K (.ref (He.ma K (He.ga K "UnknownTie") "__init__")) = true := (F_UnknownTie_init c).kp
theorem b_UnknownTie_init_2 (c : Fx w h K) : Binds K (fdOf K d_UnknownTie_init) ["self", "value"] [] := (F_UnknownTie_init c).bindsN fun _ _ _ _ _ _ us hl => match us, hl with | [_, _], _ => rfl
theorem kb_UnknownTie_init_1_value (c : Fx w h K) : KB K (fdOf K d_UnknownTie_init) ["self", "value"] 1 ["value"] [0, 1] [] [] := fd_kb (F_UnknownTie_init c) fun _ _ _ _ _ _ us ws hu hw => match us, ws, hu, hw with | [_], [_], _, _ => rfl
theorem oki_UnknownTie_init (KX : K.In h) (G : h.Ns mainGlobals mg) (c : Fx w h K) : FnOk P w K mg base CX0 1 (He.ma K (He.ga K "UnknownTie") "__init__") (fdOf K d_UnknownTie_init) ["self", "value"] (spI (He.ga K "UnknownTie") "value") := init_ok base_LE (exkB_ok (xz (f := fun K => exkB K "UnknownTie" tlLE "LookupError.__new__" "value") c 13 rfl)).k (exkB_ok (xz (f := fun K => exkB K "UnknownTie" tlLE "LookupError.__new__" "value") c 13 rfl)).f (F_UnknownTie_init c) sc_UnknownTie_init rfl rfl (by decide) (by decide)
theorem F_UnknownPlace_init (c : Fx w h K) : FunD K "__init__" "UnknownPlace.__init__" (defArgs s_UnknownPlace_init) (defBody s_UnknownPlace_init) (defScope s_UnknownPlace_init) [] [] (He.ma K (He.ga K "UnknownPlace") "__init__") (fdOf K d_UnknownPlace_init) := dz c 23 rfl
theorem kp_UnknownPlace_init (c : Fx w h K) : PySem.W.keepIn K (.ref (He.ma K (He.ga K "UnknownPlace") "__init__")) = true := (F_UnknownPlace_init c).kp
theorem b_UnknownPlace_init_2 (c : Fx w h K) : Binds K (fdOf K d_UnknownPlace_init) ["self", "value"] [] := (F_UnknownPlace_init c).bindsN fun _ _ _ _ _ _ us hl => match us, hl with | [_, _], _ => rfl
theorem kb_UnknownPlace_init_1_value (c : Fx w h K) : KB K (fdOf K d_UnknownPlace_init) ["self", "value"] 1 ["value"] [0, 1] [] [] := fd_kb (F_UnknownPlace_init c) fun _ _ _ _ _ _ us ws hu hw => match us, ws, hu, hw with | [_], [_], _, _ => rfl
theorem oki_UnknownPlace_init (KX : K.In h) (G : h.Ns mainGlobals mg) (c : Fx w h K) : FnOk P w K mg base CX0 1 (He.ma K (He.ga K "UnknownPlace") "__init__") (fdOf K d_UnknownPlace_init) ["self", "value"] (spI (He.ga K "UnknownPlace") "value") := init_ok base_LE (exkB_ok (xz (f := fun K => exkB K "UnknownPlace" tlLE "LookupError.__new__" "value") c 14 rfl)).k (exkB_ok (xz (f := fun K => exkB K "UnknownPlace" tlLE "LookupError.__new__" "value") c 14 rfl)).f (F_UnknownPlace_init c) sc_UnknownPlace_init rfl rfl (by decide) (by decide)
theorem F_NotAWeb_init (c : Fx w h K) : FunD K "__init__" "NotAWeb.__init__" (defArgs s_NotAWeb_init) (defBody s_NotAWeb_init) (defScope s_NotAWeb_init) [] [] (He.ma K (He.ga K "NotAWeb") "__init__") (fdOf K d_NotAWeb_init) := dz c 24 rfl
theorem kp_NotAWeb_init (c : Fx w h K) : PySem.W.keepIn K (.ref (He.ma K (He.ga K "NotAWeb") "__init__")) = true := (F_NotAWeb_init c).kp
theorem b_NotAWeb_init_2 (c : Fx w h K) : Binds K (fdOf K d_NotAWeb_init) ["self", "value"] [] := (F_NotAWeb_init c).bindsN fun _ _ _ _ _ _ us hl => match us, hl with | [_, _], _ => rfl
theorem kb_NotAWeb_init_1_value (c : Fx w h K) : KB K (fdOf K d_NotAWeb_init) ["self", "value"] 1 ["value"] [0, 1] [] [] := fd_kb (F_NotAWeb_init c) fun _ _ _ _ _ _ us ws hu hw => match us, ws, hu, hw with | [_], [_], _, _ => rfl
theorem oki_NotAWeb_init (KX : K.In h) (G : h.Ns mainGlobals mg) (c : Fx w h K) : FnOk P w K mg base CX0 1 (He.ma K (He.ga K "NotAWeb") "__init__") (fdOf K d_NotAWeb_init) ["self", "value"] (spI (He.ga K "NotAWeb") "value") := init_ok base_VE (exkB_ok (xz (f := fun K => exkB K "NotAWeb" tlVE "ValueError.__new__" "value") c 15 rfl)).k (exkB_ok (xz (f := fun K => exkB K "NotAWeb" tlVE "ValueError.__new__" "value") c 15 rfl)).f (F_NotAWeb_init c) sc_NotAWeb_init rfl rfl (by decide) (by decide)
theorem F_TooMany_init (c : Fx w h K) : FunD K "__init__" "TooMany.__init__" (defArgs s_TooMany_init) (defBody s_TooMany_init) (defScope s_TooMany_init) [] [] (He.ma K (He.ga K "TooMany") "__init__") (fdOf K d_TooMany_init) := dz c 25 rfl
theorem kp_TooMany_init (c : Fx w h K) : PySem.W.keepIn K (.ref (He.ma K (He.ga K "TooMany") "__init__")) = true := (F_TooMany_init c).kp
theorem b_TooMany_init_2 (c : Fx w h K) : Binds K (fdOf K d_TooMany_init) ["self", "limit"] [] := (F_TooMany_init c).bindsN fun _ _ _ _ _ _ us hl => match us, hl with | [_, _], _ => rfl
theorem kb_TooMany_init_1_limit (c : Fx w h K) : KB K (fdOf K d_TooMany_init) ["self", "limit"] 1 ["limit"] [0, 1] [] [] := fd_kb (F_TooMany_init c) fun _ _ _ _ _ _ us ws hu hw => match us, ws, hu, hw with | [_], [_], _, _ => rfl
theorem oki_TooMany_init (KX : K.In h) (G : h.Ns mainGlobals mg) (c : Fx w h K) : FnOk P w K mg base CX0 1 (He.ma K (He.ga K "TooMany") "__init__") (fdOf K d_TooMany_init) ["self", "limit"] (spI (He.ga K "TooMany") "limit") := init_ok base_AE (exkB_ok (xz (f := fun K => exkB K "TooMany" tlAE "ArithmeticError.__new__" "limit") c 16 rfl)).k (exkB_ok (xz (f := fun K => exkB K "TooMany" tlAE "ArithmeticError.__new__" "limit") c 16 rfl)).f (F_TooMany_init c) sc_TooMany_init rfl rfl (by decide) (by decide)
theorem F_Broken_init (c : Fx w h K) : FunD K "__init__" "Broken.__init__" (defArgs s_Broken_init) (defBody s_Broken_init) (defScope s_Broken_init) [] [] (He.ma K (He.ga K "Broken") "__init__") (fdOf K d_Broken_init) := dz c 26 rfl
theorem kp_Broken_init (c : Fx w h K) : PySem.W.keepIn K (.ref (He.ma K (He.ga K "Broken") "__init__")) = true := (F_Broken_init c).kp
theorem b_Broken_init_2 (c : Fx w h K) : Binds K (fdOf K d_Broken_init) ["self", "index"] [] := (F_Broken_init c).bindsN fun _ _ _ _ _ _ us hl => match us, hl with | [_, _], _ => rfl
theorem kb_Broken_init_1_index (c : Fx w h K) : KB K (fdOf K d_Broken_init) ["self", "index"] 1 ["index"] [0, 1] [] [] := fd_kb (F_Broken_init c) fun _ _ _ _ _ _ us ws hu hw => match us, ws, hu, hw with | [_], [_], _, _ => rfl
theorem oki_Broken_init (KX : K.In h) (G : h.Ns mainGlobals mg) (c : Fx w h K) : FnOk P w K mg base CX0 1 (He.ma K (He.ga K "Broken") "__init__") (fdOf K d_Broken_init) ["self", "index"] (spI (He.ga K "Broken") "index") := init_ok base_LE (exkB_ok (xz (f := fun K => exkB K "Broken" tlLE "LookupError.__new__" "index") c 17 rfl)).k (exkB_ok (xz (f := fun K => exkB K "Broken" tlLE "LookupError.__new__" "index") c 17 rfl)).f (F_Broken_init c) sc_Broken_init rfl rfl (by decide) (by decide)
theorem F_Refused_init (c : Fx w h K) : FunD K "__init__" "Refused.__init__" (defArgs s_Refused_init) (defBody s_Refused_init) (defScope s_Refused_init) [] [] (He.ma K (He.ga K "Refused") "__init__") (fdOf K d_Refused_init) := dz c 27 rfl
theorem kp_Refused_init (c : Fx w h K) : PySem.W.keepIn K (.ref (He.ma K (He.ga K "Refused") "__init__")) = true := (F_Refused_init c).kp
theorem b_Refused_init_2 (c : Fx w h K) : Binds K (fdOf K d_Refused_init) ["self", "value"] [] := (F_Refused_init c).bindsN fun _ _ _ _ _ _ us hl => match us, hl with | [_, _], _ => rfl
theorem kb_Refused_init_1_value (c : Fx w h K) : KB K (fdOf K d_Refused_init) ["self", "value"] 1 ["value"] [0, 1] [] [] := fd_kb (F_Refused_init c) fun _ _ _ _ _ _ us ws hu hw => match us, ws, hu, hw with | [_], [_], _, _ => rfl
theorem oki_Refused_init (KX : K.In h) (G : h.Ns mainGlobals mg) (c : Fx w h K) : FnOk P w K mg base CX0 1 (He.ma K (He.ga K "Refused") "__init__") (fdOf K d_Refused_init) ["self", "value"] (spI (He.ga K "Refused") "value") := init_ok base_LE (exkB_ok (xz (f := fun K => exkB K "Refused" tlLE "LookupError.__new__" "value") c 18 rfl)).k (exkB_ok (xz (f := fun K => exkB K "Refused" tlLE "LookupError.__new__" "value") c 18 rfl)).f (F_Refused_init c) sc_Refused_init rfl rfl (by decide) (by decide)
theorem F_l_draw (c : Fx w h K) : FunD K "_law_draw" "_law_draw" (defArgs s_l_draw) (defBody s_l_draw) (defScope s_l_draw) [] [] (He.ga K "_law_draw") (fdOf K d_l_draw) := dz c 0 rfl
theorem kp_l_draw (c : Fx w h K) : PySem.W.keepIn K (.ref (He.ga K "_law_draw")) = true := (F_l_draw c).kp
theorem b_l_draw_2 (c : Fx w h K) : Binds K (fdOf K d_l_draw) ["_law_bag_here", "_law_wide"] [] := (F_l_draw c).bindsN fun _ _ _ _ _ _ us hl => match us, hl with | [_, _], _ => rfl
theorem ok_l_draw (KX : K.In h) (G : h.Ns mainGlobals mg) (c : Fx w h K) : FnOk P w K mg base CX0 1 (He.ga K "_law_draw") (fdOf K d_l_draw) ["_law_bag_here", "_law_wide"] (FnS K (ctOf K) 2 f_l_draw) := by
  refine fd_ok (F_l_draw c) sc_l_draw fun cdv A outer s H E hr => ?_
  have S := sc_l_draw
  have hu80 : (A.deeper (envOfC "_law_draw" (defScope s_l_draw) s.heap.objs.size (He.ga K "_law_draw") cdv)).units + 80 < cLine := by have := hr.un; omega
  have hu65 : (A.deeper (envOfC "_law_draw" (defScope s_l_draw) s.heap.objs.size (He.ga K "_law_draw") cdv)).units + 65 < cLine := by omega
  have hu64 : (A.deeper (envOfC "_law_draw" (defScope s_l_draw) s.heap.objs.size (He.ga K "_law_draw") cdv)).units + 64 < cLine := by omega
  have hu1 : (A.deeper (envOfC "_law_draw" (defScope s_l_draw) s.heap.objs.size (He.ga K "_law_draw") cdv)).units + 1 < cLine := by omega
  have hu0 : (A.deeper (envOfC "_law_draw" (defScope s_l_draw) s.heap.objs.size (He.ga K "_law_draw") cdv)).units < cLine := by omega
  exact (dss_cons (ds_setIx (ps_asg (de_fz (de_op op_addU os_add (de_ix ix_seq os_ix (de_var (pv 0)) (de_c pe_int (fun _ _ => .int _)) (fun _ _ => rfl)) (de_c pe_int (fun _ _ => .int _)))) (pg_sub (de_fz (de_var (pv 0))) (de_fz (de_c pe_int (fun _ _ => .int _))) set_list (fun _ => rfl))))
  (dss_cons (ds_if (dt_cmp op_gtU os_gt (de_ix ix_seq os_ix (de_var (pv 0)) (de_c pe_int (fun _ _ => .int _)) (fun _ _ => rfl)) (de_c pe_int (fun _ _ => .int _)) (nomark _)) (dss_cons (ds_set (ps_set (i := 4) S.nd rfl (by first | exact .inl rfl | exact .inr rfl) (de_fz (de_op op_mod os_mod (de_callTy cs_intU (call_intU) (da_cons (de_ix ix_seq os_ix (de_var (pv 0)) (de_c pe_int (fun _ _ => .int _)) (fun _ _ => rfl)) da_nil) (fz KX G c 4 rfl)) (de_var (pv 1))))))
  (dss_cons (ds_setIx (ps_asg (de_fz (de_op op_fdiv os_fdiv (de_ix ix_seq os_ix (de_var (pv 0)) (de_c pe_int (fun _ _ => .int _)) (fun _ _ => rfl)) (de_var (pv 1)))) (pg_sub (de_fz (de_var (pv 0))) (de_fz (de_c pe_int (fun _ _ => .int _))) set_list (fun _ => rfl))))
  (dss_one (ds_ret (de_var (pv 4)))))) dss_nil)
  (dss_cons (ds_set (ps_set (i := 2) S.nd rfl (by first | exact .inl rfl | exact .inr rfl) (de_fz (de_op op_addU os_add (de_callTy cs_intU (call_intU) (da_cons (de_ix ix_seq os_ix (de_var (pv 0)) (de_c pe_int (fun _ _ => .int _)) (fun _ _ => rfl)) da_nil) (fz KX G c 4 rfl)) (de_op op_mulU os_mul (de_c pe_int (fun _ _ => .int _)) (de_ix ix_seq os_ix (de_var (pv 0)) (de_c pe_int (fun _ _ => .int _)) (fun _ _ => rfl)))))))
  (dss_cons (ds_set (ps_set (i := 3) S.nd rfl (by first | exact .inl rfl | exact .inr rfl) (de_fz (de_op op_addU os_add (de_op op_mod os_mod (de_callTy cs_intU (call_intU) (da_cons (de_var (pv 2)) da_nil) (fz KX G c 4 rfl)) (de_c pe_int (fun _ _ => .int _))) (de_c pe_int (fun _ _ => .int _))))))
  (dss_cons (ds_setIx (ps_asg (de_fz (de_op op_mod os_mod (de_callTy cs_intU (call_intU) (da_cons (de_op op_addU os_add (de_op op_addU os_add (de_op op_mulU os_mul (de_var (pv 2)) (de_var (pv 3))) (de_op op_mulU os_mul (de_c pe_int (fun _ _ => .int _)) (de_ix ix_seq os_ix (de_var (pv 0)) (de_c pe_int (fun _ _ => .int _)) (fun _ _ => rfl)))) (de_c pe_int (fun _ _ => .int _))) da_nil) (fz KX G c 4 rfl)) (de_c pe_int (fun _ _ => .int _)))) (pg_sub (de_fz (de_var (pv 0))) (de_fz (de_c pe_int (fun _ _ => .int _))) set_list (fun _ => rfl))))
  (dss_one (ds_ret (de_op op_mod os_mod (de_op op_fdiv os_fdiv (de_callTy cs_intU (call_intU) (da_cons (de_ix ix_seq os_ix (de_var (pv 0)) (de_c pe_int (fun _ _ => .int _)) (fun _ _ => rfl)) da_nil) (fz KX G c 4 rfl)) (de_c pe_int (fun _ _ => .int _))) (de_var (pv 1))))))))))
theorem F_l_one (c : Fx w h K) : FunD K "_law_one" "_law_one" (defArgs s_l_one) (defBody s_l_one) (defScope s_l_one) [] [] (He.ga K "_law_one") (fdOf K d_l_one) := dz c 1 rfl
theorem kp_l_one (c : Fx w h K) : PySem.W.keepIn K (.ref (He.ga K "_law_one")) = true := (F_l_one c).kp
theorem b_l_one_2 (c : Fx w h K) : Binds K (fdOf K d_l_one) ["_law_bag_here", "_law_some"] [] := (F_l_one c).bindsN fun _ _ _ _ _ _ us hl => match us, hl with | [_, _], _ => rfl
theorem ok_l_one (KX : K.In h) (G : h.Ns mainGlobals mg) (c : Fx w h K) : FnOk P w K mg base CX0 2 (He.ga K "_law_one") (fdOf K d_l_one) ["_law_bag_here", "_law_some"] (FnS K (ctOf K) 2 f_l_one) := by
  refine fd_ok (F_l_one c) sc_l_one fun cdv A outer s H E hr => ?_
  have S := sc_l_one
  have hu80 : (A.deeper (envOfC "_law_one" (defScope s_l_one) s.heap.objs.size (He.ga K "_law_one") cdv)).units + 80 < cLine := by have := hr.un; omega
  have hu65 : (A.deeper (envOfC "_law_one" (defScope s_l_one) s.heap.objs.size (He.ga K "_law_one") cdv)).units + 65 < cLine := by omega
  have hu64 : (A.deeper (envOfC "_law_one" (defScope s_l_one) s.heap.objs.size (He.ga K "_law_one") cdv)).units + 64 < cLine := by omega
  have hu1 : (A.deeper (envOfC "_law_one" (defScope s_l_one) s.heap.objs.size (He.ga K "_law_one") cdv)).units + 1 < cLine := by omega
  have hu0 : (A.deeper (envOfC "_law_one" (defScope s_l_one) s.heap.objs.size (He.ga K "_law_one") cdv)).units < cLine := by omega
  exact (dss_one (ds_ret (de_ix ix_seq os_ix (de_var (pv 1)) (de_call (ok_l_draw KX G c) (hr.mono (by decide)) (gz KX G c 5 rfl) (kp_l_draw c) (b_l_draw_2 c) .nil pass0 (fun _ _ => .nil) (fun _ _ _ => runF_len) (da_cons (de_var (pv 0)) (da_cons (de_callB cs_len (call_len) (da_cons (de_var (pv 1)) da_nil) (fz KX G c 0 rfl)) da_nil))) (fun _ _ => rfl))))
theorem F_l_made_ones (c : Fx w h K) : FunD K "_law_made_ones" "_law_made_ones" (defArgs s_l_made_ones) (defBody s_l_made_ones) (defScope s_l_made_ones) [] [] (He.ga K "_law_made_ones") (fdOf K d_l_made_ones) := dz c 2 rfl
theorem kp_l_made_ones (c : Fx w h K) : PySem.W.keepIn K (.ref (He.ga K "_law_made_ones")) = true := (F_l_made_ones c).kp
theorem b_l_made_ones_1 (c : Fx w h K) : Binds K (fdOf K d_l_made_ones) ["_law_thing"] [] := (F_l_made_ones c).bindsN fun _ _ _ _ _ _ us hl => match us, hl with | [_], _ => rfl
theorem ok_l_made_ones (KX : K.In h) (G : h.Ns mainGlobals mg) (c : Fx w h K) : FnOk P w K mg base CX0 3 (He.ga K "_law_made_ones") (fdOf K d_l_made_ones) ["_law_thing"] (FnS K (ctOf K) 1 f_l_made_ones) := by
  refine fd_ok (F_l_made_ones c) sc_l_made_ones fun cdv A outer s H E hr => ?_
  have S := sc_l_made_ones
  have hu80 : (A.deeper (envOfC "_law_made_ones" (defScope s_l_made_ones) s.heap.objs.size (He.ga K "_law_made_ones") cdv)).units + 80 < cLine := by have := hr.un; omega
  have hu65 : (A.deeper (envOfC "_law_made_ones" (defScope s_l_made_ones) s.heap.objs.size (He.ga K "_law_made_ones") cdv)).units + 65 < cLine := by omega
  have hu64 : (A.deeper (envOfC "_law_made_ones" (defScope s_l_made_ones) s.heap.objs.size (He.ga K "_law_made_ones") cdv)).units + 64 < cLine := by omega
  have hu1 : (A.deeper (envOfC "_law_made_ones" (defScope s_l_made_ones) s.heap.objs.size (He.ga K "_law_made_ones") cdv)).units + 1 < cLine := by omega
  have hu0 : (A.deeper (envOfC "_law_made_ones" (defScope s_l_made_ones) s.heap.objs.size (He.ga K "_law_made_ones") cdv)).units < cLine := by omega
  exact (dss_cons (ds_set (ps_set (i := 1) S.nd rfl (by first | exact .inl rfl | exact .inr rfl) (de_fz (de_lst (da_cons (de_exc1 (c := 21) (f := "index") (pmk1 base_VE (exkB_ok (xz (f := fun K => exkB K "InvalidPlaces" tlVE "ValueError.__new__" "index") c 3 rfl)).k (exkB_ok (xz (f := fun K => exkB K "InvalidPlaces" tlVE "ValueError.__new__" "index") c 3 rfl)).i (exkB_ok (xz (f := fun K => exkB K "InvalidPlaces" tlVE "ValueError.__new__" "index") c 3 rfl)).t (oki_InvalidPlaces_init KX G c) (hr.mono (by decide)) (b_InvalidPlaces_init_2 c) (gz KX G c 10 rfl) (da_cons (de_var (pv 0)) da_nil) rfl (by decide) rfl)) (da_cons (de_exc1 (c := 22) (f := "index") (pmk1 base_VE (exkB_ok (xz (f := fun K => exkB K "InvalidTies" tlVE "ValueError.__new__" "index") c 2 rfl)).k (exkB_ok (xz (f := fun K => exkB K "InvalidTies" tlVE "ValueError.__new__" "index") c 2 rfl)).i (exkB_ok (xz (f := fun K => exkB K "InvalidTies" tlVE "ValueError.__new__" "index") c 2 rfl)).t (oki_InvalidTies_init KX G c) (hr.mono (by decide)) (b_InvalidTies_init_2 c) (gz KX G c 9 rfl) (da_cons (de_var (pv 0)) da_nil) rfl (by decide) rfl)) (da_cons (de_exc1 (c := 23) (f := "value") (pmk1 base_VE (exkB_ok (xz (f := fun K => exkB K "InvalidText" tlVE "ValueError.__new__" "value") c 1 rfl)).k (exkB_ok (xz (f := fun K => exkB K "InvalidText" tlVE "ValueError.__new__" "value") c 1 rfl)).i (exkB_ok (xz (f := fun K => exkB K "InvalidText" tlVE "ValueError.__new__" "value") c 1 rfl)).t (oki_InvalidText_init KX G c) (hr.mono (by decide)) (b_InvalidText_init_2 c) (gz KX G c 8 rfl) (da_cons (de_var (pv 0)) da_nil) rfl (by decide) rfl)) (da_cons (de_exc1 (c := 24) (f := "value") (pmk1 base_VE (exkB_ok (xz (f := fun K => exkB K "InvalidColours" tlVE "ValueError.__new__" "value") c 0 rfl)).k (exkB_ok (xz (f := fun K => exkB K "InvalidColours" tlVE "ValueError.__new__" "value") c 0 rfl)).i (exkB_ok (xz (f := fun K => exkB K "InvalidColours" tlVE "ValueError.__new__" "value") c 0 rfl)).t (oki_InvalidColours_init KX G c) (hr.mono (by decide)) (b_InvalidColours_init_2 c) (gz KX G c 7 rfl) (da_cons (de_var (pv 0)) da_nil) rfl (by decide) rfl)) da_nil))))))))
  (dss_cons (ds_set (ps_set (i := 1) S.nd rfl (by first | exact .inl rfl | exact .inr rfl) (de_fz (de_op op_addU os_add (de_var (pv 1)) (de_lst (da_cons (de_exc1 (c := 25) (f := "value") (pmk1 base_VE (exkB_ok (xz (f := fun K => exkB K "InvalidColouring" tlVE "ValueError.__new__" "value") c 7 rfl)).k (exkB_ok (xz (f := fun K => exkB K "InvalidColouring" tlVE "ValueError.__new__" "value") c 7 rfl)).i (exkB_ok (xz (f := fun K => exkB K "InvalidColouring" tlVE "ValueError.__new__" "value") c 7 rfl)).t (oki_InvalidColouring_init KX G c) (hr.mono (by decide)) (b_InvalidColouring_init_2 c) (gz KX G c 14 rfl) (da_cons (de_var (pv 0)) da_nil) rfl (by decide) rfl)) (da_cons (de_exc1 (c := 26) (f := "index") (pmk1 base_VE (exkB_ok (xz (f := fun K => exkB K "InvalidArray" tlVE "ValueError.__new__" "index") c 6 rfl)).k (exkB_ok (xz (f := fun K => exkB K "InvalidArray" tlVE "ValueError.__new__" "index") c 6 rfl)).i (exkB_ok (xz (f := fun K => exkB K "InvalidArray" tlVE "ValueError.__new__" "index") c 6 rfl)).t (oki_InvalidArray_init KX G c) (hr.mono (by decide)) (b_InvalidArray_init_2 c) (gz KX G c 13 rfl) (da_cons (de_var (pv 0)) da_nil) rfl (by decide) rfl)) (da_cons (de_exc1 (c := 27) (f := "index") (pmk1 base_VE (exkB_ok (xz (f := fun K => exkB K "InvalidLot" tlVE "ValueError.__new__" "index") c 5 rfl)).k (exkB_ok (xz (f := fun K => exkB K "InvalidLot" tlVE "ValueError.__new__" "index") c 5 rfl)).i (exkB_ok (xz (f := fun K => exkB K "InvalidLot" tlVE "ValueError.__new__" "index") c 5 rfl)).t (oki_InvalidLot_init KX G c) (hr.mono (by decide)) (b_InvalidLot_init_2 c) (gz KX G c 12 rfl) (da_cons (de_var (pv 0)) da_nil) rfl (by decide) rfl)) (da_cons (de_exc1 (c := 28) (f := "index") (pmk1 base_VE (exkB_ok (xz (f := fun K => exkB K "InvalidSeen" tlVE "ValueError.__new__" "index") c 4 rfl)).k (exkB_ok (xz (f := fun K => exkB K "InvalidSeen" tlVE "ValueError.__new__" "index") c 4 rfl)).i (exkB_ok (xz (f := fun K => exkB K "InvalidSeen" tlVE "ValueError.__new__" "index") c 4 rfl)).t (oki_InvalidSeen_init KX G c) (hr.mono (by decide)) (b_InvalidSeen_init_2 c) (gz KX G c 11 rfl) (da_cons (de_var (pv 0)) da_nil) rfl (by decide) rfl)) da_nil)))))))))
  (dss_cons (ds_set (ps_set (i := 1) S.nd rfl (by first | exact .inl rfl | exact .inr rfl) (de_fz (de_op op_addU os_add (de_var (pv 1)) (de_lst (da_cons (de_exc1 (c := 29) (f := "index") (pmk1 base_VE (exkB_ok (xz (f := fun K => exkB K "InvalidDeeds" tlVE "ValueError.__new__" "index") c 11 rfl)).k (exkB_ok (xz (f := fun K => exkB K "InvalidDeeds" tlVE "ValueError.__new__" "index") c 11 rfl)).i (exkB_ok (xz (f := fun K => exkB K "InvalidDeeds" tlVE "ValueError.__new__" "index") c 11 rfl)).t (oki_InvalidDeeds_init KX G c) (hr.mono (by decide)) (b_InvalidDeeds_init_2 c) (gz KX G c 18 rfl) (da_cons (de_var (pv 0)) da_nil) rfl (by decide) rfl)) (da_cons (de_exc1 (c := 30) (f := "value") (pmk1 base_VE (exkB_ok (xz (f := fun K => exkB K "InvalidPromise" tlVE "ValueError.__new__" "value") c 10 rfl)).k (exkB_ok (xz (f := fun K => exkB K "InvalidPromise" tlVE "ValueError.__new__" "value") c 10 rfl)).i (exkB_ok (xz (f := fun K => exkB K "InvalidPromise" tlVE "ValueError.__new__" "value") c 10 rfl)).t (oki_InvalidPromise_init KX G c) (hr.mono (by decide)) (b_InvalidPromise_init_2 c) (gz KX G c 17 rfl) (da_cons (de_var (pv 0)) da_nil) rfl (by decide) rfl)) (da_cons (de_exc1 (c := 31) (f := "value") (pmk1 base_VE (exkB_ok (xz (f := fun K => exkB K "InvalidIndex" tlVE "ValueError.__new__" "value") c 9 rfl)).k (exkB_ok (xz (f := fun K => exkB K "InvalidIndex" tlVE "ValueError.__new__" "value") c 9 rfl)).i (exkB_ok (xz (f := fun K => exkB K "InvalidIndex" tlVE "ValueError.__new__" "value") c 9 rfl)).t (oki_InvalidIndex_init KX G c) (hr.mono (by decide)) (b_InvalidIndex_init_2 c) (gz KX G c 16 rfl) (da_cons (de_var (pv 0)) da_nil) rfl (by decide) rfl)) (da_cons (de_exc1 (c := 32) (f := "value") (pmk1 base_VE (exkB_ok (xz (f := fun K => exkB K "InvalidLine" tlVE "ValueError.__new__" "value") c 8 rfl)).k (exkB_ok (xz (f := fun K => exkB K "InvalidLine" tlVE "ValueError.__new__" "value") c 8 rfl)).i (exkB_ok (xz (f := fun K => exkB K "InvalidLine" tlVE "ValueError.__new__" "value") c 8 rfl)).t (oki_InvalidLine_init KX G c) (hr.mono (by decide)) (b_InvalidLine_init_2 c) (gz KX G c 15 rfl) (da_cons (de_var (pv 0)) da_nil) rfl (by decide) rfl)) da_nil)))))))))
  (dss_cons (ds_set (ps_set (i := 1) S.nd rfl (by first | exact .inl rfl | exact .inr rfl) (de_fz (de_op op_addU os_add (de_var (pv 1)) (de_lst (da_cons (de_exc1 (c := 33) (f := "value") (pmk1 base_VE (exkB_ok (xz (f := fun K => exkB K "NotAWeb" tlVE "ValueError.__new__" "value") c 15 rfl)).k (exkB_ok (xz (f := fun K => exkB K "NotAWeb" tlVE "ValueError.__new__" "value") c 15 rfl)).i (exkB_ok (xz (f := fun K => exkB K "NotAWeb" tlVE "ValueError.__new__" "value") c 15 rfl)).t (oki_NotAWeb_init KX G c) (hr.mono (by decide)) (b_NotAWeb_init_2 c) (gz KX G c 22 rfl) (da_cons (de_var (pv 0)) da_nil) rfl (by decide) rfl)) (da_cons (de_exc1 (c := 35) (f := "value") (pmk1 base_LE (exkB_ok (xz (f := fun K => exkB K "UnknownPlace" tlLE "LookupError.__new__" "value") c 14 rfl)).k (exkB_ok (xz (f := fun K => exkB K "UnknownPlace" tlLE "LookupError.__new__" "value") c 14 rfl)).i (exkB_ok (xz (f := fun K => exkB K "UnknownPlace" tlLE "LookupError.__new__" "value") c 14 rfl)).t (oki_UnknownPlace_init KX G c) (hr.mono (by decide)) (b_UnknownPlace_init_2 c) (gz KX G c 21 rfl) (da_cons (de_var (pv 0)) da_nil) rfl (by decide) rfl)) (da_cons (de_exc1 (c := 36) (f := "value") (pmk1 base_LE (exkB_ok (xz (f := fun K => exkB K "UnknownTie" tlLE "LookupError.__new__" "value") c 13 rfl)).k (exkB_ok (xz (f := fun K => exkB K "UnknownTie" tlLE "LookupError.__new__" "value") c 13 rfl)).i (exkB_ok (xz (f := fun K => exkB K "UnknownTie" tlLE "LookupError.__new__" "value") c 13 rfl)).t (oki_UnknownTie_init KX G c) (hr.mono (by decide)) (b_UnknownTie_init_2 c) (gz KX G c 20 rfl) (da_cons (de_var (pv 0)) da_nil) rfl (by decide) rfl)) (da_cons (de_exc1 (c := 37) (f := "value") (pmk1 base_LE (exkB_ok (xz (f := fun K => exkB K "UnknownColour" tlLE "LookupError.__new__" "value") c 12 rfl)).k (exkB_ok (xz (f := fun K => exkB K "UnknownColour" tlLE "LookupError.__new__" "value") c 12 rfl)).i (exkB_ok (xz (f := fun K => exkB K "UnknownColour" tlLE "LookupError.__new__" "value") c 12 rfl)).t (oki_UnknownColour_init KX G c) (hr.mono (by decide)) (b_UnknownColour_init_2 c) (gz KX G c 19 rfl) (da_cons (de_var (pv 0)) da_nil) rfl (by decide) rfl)) da_nil)))))))))
  (dss_cons (ds_set (ps_set (i := 1) S.nd rfl (by first | exact .inl rfl | exact .inr rfl) (de_fz (de_op op_addU os_add (de_var (pv 1)) (de_lst (da_cons (de_exc1 (c := 39) (f := "value") (pmk1 base_LE (exkB_ok (xz (f := fun K => exkB K "Refused" tlLE "LookupError.__new__" "value") c 18 rfl)).k (exkB_ok (xz (f := fun K => exkB K "Refused" tlLE "LookupError.__new__" "value") c 18 rfl)).i (exkB_ok (xz (f := fun K => exkB K "Refused" tlLE "LookupError.__new__" "value") c 18 rfl)).t (oki_Refused_init KX G c) (hr.mono (by decide)) (b_Refused_init_2 c) (gz KX G c 25 rfl) (da_cons (de_var (pv 0)) da_nil) rfl (by decide) rfl)) (da_cons (de_exc1 (c := 42) (f := "index") (pmk1 base_LE (exkB_ok (xz (f := fun K => exkB K "Broken" tlLE "LookupError.__new__" "index") c 17 rfl)).k (exkB_ok (xz (f := fun K => exkB K "Broken" tlLE "LookupError.__new__" "index") c 17 rfl)).i (exkB_ok (xz (f := fun K => exkB K "Broken" tlLE "LookupError.__new__" "index") c 17 rfl)).t (oki_Broken_init KX G c) (hr.mono (by decide)) (b_Broken_init_2 c) (gz KX G c 24 rfl) (da_cons (de_var (pv 0)) da_nil) rfl (by decide) rfl)) (da_cons (de_exc1 (c := 44) (f := "limit") (pmk1 base_AE (exkB_ok (xz (f := fun K => exkB K "TooMany" tlAE "ArithmeticError.__new__" "limit") c 16 rfl)).k (exkB_ok (xz (f := fun K => exkB K "TooMany" tlAE "ArithmeticError.__new__" "limit") c 16 rfl)).i (exkB_ok (xz (f := fun K => exkB K "TooMany" tlAE "ArithmeticError.__new__" "limit") c 16 rfl)).t (oki_TooMany_init KX G c) (hr.mono (by decide)) (b_TooMany_init_2 c) (gz KX G c 23 rfl) (da_cons (de_var (pv 0)) da_nil) rfl (by decide) rfl)) da_nil))))))))
  (dss_cons (ds_set (ps_set (i := 1) S.nd rfl (by first | exact .inl rfl | exact .inr rfl) (de_fz (de_op op_addU os_add (de_var (pv 1)) (de_lst (da_cons (de_exc1 (c := 21) (f := "index") (pmkN base_VE (exkB_ok (xz (f := fun K => exkB K "InvalidPlaces" tlVE "ValueError.__new__" "index") c 3 rfl)).k (exkB_ok (xz (f := fun K => exkB K "InvalidPlaces" tlVE "ValueError.__new__" "index") c 3 rfl)).i (exkB_ok (xz (f := fun K => exkB K "InvalidPlaces" tlVE "ValueError.__new__" "index") c 3 rfl)).t (oki_InvalidPlaces_init KX G c) (hr.mono (by decide)) (kbe_of rfl (kb_InvalidPlaces_init_1_index c)) (gz KX G c 10 rfl) (dk_cons (de_var (pv 0)) dk_nil) rfl (by decide))) (da_cons (de_exc1 (c := 22) (f := "index") (pmkN base_VE (exkB_ok (xz (f := fun K => exkB K "InvalidTies" tlVE "ValueError.__new__" "index") c 2 rfl)).k (exkB_ok (xz (f := fun K => exkB K "InvalidTies" tlVE "ValueError.__new__" "index") c 2 rfl)).i (exkB_ok (xz (f := fun K => exkB K "InvalidTies" tlVE "ValueError.__new__" "index") c 2 rfl)).t (oki_InvalidTies_init KX G c) (hr.mono (by decide)) (kbe_of rfl (kb_InvalidTies_init_1_index c)) (gz KX G c 9 rfl) (dk_cons (de_var (pv 0)) dk_nil) rfl (by decide))) (da_cons (de_exc1 (c := 23) (f := "value") (pmkN base_VE (exkB_ok (xz (f := fun K => exkB K "InvalidText" tlVE "ValueError.__new__" "value") c 1 rfl)).k (exkB_ok (xz (f := fun K => exkB K "InvalidText" tlVE "ValueError.__new__" "value") c 1 rfl)).i (exkB_ok (xz (f := fun K => exkB K "InvalidText" tlVE "ValueError.__new__" "value") c 1 rfl)).t (oki_InvalidText_init KX G c) (hr.mono (by decide)) (kbe_of rfl (kb_InvalidText_init_1_value c)) (gz KX G c 8 rfl) (dk_cons (de_var (pv 0)) dk_nil) rfl (by decide))) da_nil))))))))
  (dss_cons (ds_set (ps_set (i := 1) S.nd rfl (by first | exact .inl rfl | exact .inr rfl) (de_fz (de_op op_addU os_add (de_var (pv 1)) (de_lst (da_cons (de_exc1 (c := 24) (f := "value") (pmkN base_VE (exkB_ok (xz (f := fun K => exkB K "InvalidColours" tlVE "ValueError.__new__" "value") c 0 rfl)).k (exkB_ok (xz (f := fun K => exkB K "InvalidColours" tlVE "ValueError.__new__" "value") c 0 rfl)).i (exkB_ok (xz (f := fun K => exkB K "InvalidColours" tlVE "ValueError.__new__" "value") c 0 rfl)).t (oki_InvalidColours_init KX G c) (hr.mono (by decide)) (kbe_of rfl (kb_InvalidColours_init_1_value c)) (gz KX G c 7 rfl) (dk_cons (de_var (pv 0)) dk_nil) rfl (by decide))) (da_cons (de_exc1 (c := 25) (f := "value") (pmkN base_VE (exkB_ok (xz (f := fun K => exkB K "InvalidColouring" tlVE "ValueError.__new__" "value") c 7 rfl)).k (exkB_ok (xz (f := fun K => exkB K "InvalidColouring" tlVE "ValueError.__new__" "value") c 7 rfl)).i (exkB_ok (xz (f := fun K => exkB K "InvalidColouring" tlVE "ValueError.__new__" "value") c 7 rfl)).t (oki_InvalidColouring_init KX G c) (hr.mono (by decide)) (kbe_of rfl (kb_InvalidColouring_init_1_value c)) (gz KX G c 14 rfl) (dk_cons (de_var (pv 0)) dk_nil) rfl (by decide))) (da_cons (de_exc1 (c := 26) (f := "index") (pmkN base_VE (exkB_ok (xz (f := fun K => exkB K "InvalidArray" tlVE "ValueError.__new__" "index") c 6 rfl)).k (exkB_ok (xz (f := fun K => exkB K "InvalidArray" tlVE "ValueError.__new__" "index") c 6 rfl)).i (exkB_ok (xz (f := fun K => exkB K "InvalidArray" tlVE "ValueError.__new__" "index") c 6 rfl)).t (oki_InvalidArray_init KX G c) (hr.mono (by decide)) (kbe_of rfl (kb_InvalidArray_init_1_index c)) (gz KX G c 13 rfl) (dk_cons (de_var (pv 0)) dk_nil) rfl (by decide))) da_nil))))))))
  (dss_cons (ds_set (ps_set (i := 1) S.nd rfl (by first | exact .inl rfl | exact .inr rfl) (de_fz (de_op op_addU os_add (de_var (pv 1)) (de_lst (da_cons (de_exc1 (c := 27) (f := "index") (pmkN base_VE (exkB_ok (xz (f := fun K => exkB K "InvalidLot" tlVE "ValueError.__new__" "index") c 5 rfl)).k (exkB_ok (xz (f := fun K => exkB K "InvalidLot" tlVE "ValueError.__new__" "index") c 5 rfl)).i (exkB_ok (xz (f := fun K => exkB K "InvalidLot" tlVE "ValueError.__new__" "index") c 5 rfl)).t (oki_InvalidLot_init KX G c) (hr.mono (by decide)) (kbe_of rfl (kb_InvalidLot_init_1_index c)) (gz KX G c 12 rfl) (dk_cons (de_var (pv 0)) dk_nil) rfl (by decide))) (da_cons (de_exc1 (c := 28) (f := "index") (pmkN base_VE (exkB_ok (xz (f := fun K => exkB K "InvalidSeen" tlVE "ValueError.__new__" "index") c 4 rfl)).k (exkB_ok (xz (f := fun K => exkB K "InvalidSeen" tlVE "ValueError.__new__" "index") c 4 rfl)).i (exkB_ok (xz (f := fun K => exkB K "InvalidSeen" tlVE "ValueError.__new__" "index") c 4 rfl)).t (oki_InvalidSeen_init KX G c) (hr.mono (by decide)) (kbe_of rfl (kb_InvalidSeen_init_1_index c)) (gz KX G c 11 rfl) (dk_cons (de_var (pv 0)) dk_nil) rfl (by decide))) (da_cons (de_exc1 (c := 29) (f := "index") (pmkN base_VE (exkB_ok (xz (f := fun K => exkB K "InvalidDeeds" tlVE "ValueError.__new__" "index") c 11 rfl)).k (exkB_ok (xz (f := fun K => exkB K "InvalidDeeds" tlVE "ValueError.__new__" "index") c 11 rfl)).i (exkB_ok (xz (f := fun K => exkB K "InvalidDeeds" tlVE "ValueError.__new__" "index") c 11 rfl)).t (oki_InvalidDeeds_init KX G c) (hr.mono (by decide)) (kbe_of rfl (kb_InvalidDeeds_init_1_index c)) (gz KX G c 18 rfl) (dk_cons (de_var (pv 0)) dk_nil) rfl (by decide))) da_nil))))))))
  (dss_cons (ds_set (ps_set (i := 1) S.nd rfl (by first | exact .inl rfl | exact .inr rfl) (de_fz (de_op op_addU os_add (de_var (pv 1)) (de_lst (da_cons (de_exc1 (c := 30) (f := "value") (pmkN base_VE (exkB_ok (xz (f := fun K => exkB K "InvalidPromise" tlVE "ValueError.__new__" "value") c 10 rfl)).k (exkB_ok (xz (f := fun K => exkB K "InvalidPromise" tlVE "ValueError.__new__" "value") c 10 rfl)).i (exkB_ok (xz (f := fun K => exkB K "InvalidPromise" tlVE "ValueError.__new__" "value") c 10 rfl)).t (oki_InvalidPromise_init KX G c) (hr.mono (by decide)) (kbe_of rfl (kb_InvalidPromise_init_1_value c)) (gz KX G c 17 rfl) (dk_cons (de_var (pv 0)) dk_nil) rfl (by decide))) (da_cons (de_exc1 (c := 31) (f := "value") (pmkN base_VE (exkB_ok (xz (f := fun K => exkB K "InvalidIndex" tlVE "ValueError.__new__" "value") c 9 rfl)).k (exkB_ok (xz (f := fun K => exkB K "InvalidIndex" tlVE "ValueError.__new__" "value") c 9 rfl)).i (exkB_ok (xz (f := fun K => exkB K "InvalidIndex" tlVE "ValueError.__new__" "value") c 9 rfl)).t (oki_InvalidIndex_init KX G c) (hr.mono (by decide)) (kbe_of rfl (kb_InvalidIndex_init_1_value c)) (gz KX G c 16 rfl) (dk_cons (de_var (pv 0)) dk_nil) rfl (by decide))) (da_cons (de_exc1 (c := 32) (f := "value") (pmkN base_VE (exkB_ok (xz (f := fun K => exkB K "InvalidLine" tlVE "ValueError.__new__" "value") c 8 rfl)).k (exkB_ok (xz (f := fun K => exkB K "InvalidLine" tlVE "ValueError.__new__" "value") c 8 rfl)).i (exkB_ok (xz (f := fun K => exkB K "InvalidLine" tlVE "ValueError.__new__" "value") c 8 rfl)).t (oki_InvalidLine_init KX G c) (hr.mono (by decide)) (kbe_of rfl (kb_InvalidLine_init_1_value c)) (gz KX G c 15 rfl) (dk_cons (de_var (pv 0)) dk_nil) rfl (by decide))) da_nil))))))))
  (dss_cons (ds_set (ps_set (i := 1) S.nd rfl (by first | exact .inl rfl | exact .inr rfl) (de_fz (de_op op_addU os_add (de_var (pv 1)) (de_lst (da_cons (de_exc1 (c := 33) (f := "value") (pmkN base_VE (exkB_ok (xz (f := fun K => exkB K "NotAWeb" tlVE "ValueError.__new__" "value") c 15 rfl)).k (exkB_ok (xz (f := fun K => exkB K "NotAWeb" tlVE "ValueError.__new__" "value") c 15 rfl)).i (exkB_ok (xz (f := fun K => exkB K "NotAWeb" tlVE "ValueError.__new__" "value") c 15 rfl)).t (oki_NotAWeb_init KX G c) (hr.mono (by decide)) (kbe_of rfl (kb_NotAWeb_init_1_value c)) (gz KX G c 22 rfl) (dk_cons (de_var (pv 0)) dk_nil) rfl (by decide))) (da_cons (de_exc1 (c := 35) (f := "value") (pmkN base_LE (exkB_ok (xz (f := fun K => exkB K "UnknownPlace" tlLE "LookupError.__new__" "value") c 14 rfl)).k (exkB_ok (xz (f := fun K => exkB K "UnknownPlace" tlLE "LookupError.__new__" "value") c 14 rfl)).i (exkB_ok (xz (f := fun K => exkB K "UnknownPlace" tlLE "LookupError.__new__" "value") c 14 rfl)).t (oki_UnknownPlace_init KX G c) (hr.mono (by decide)) (kbe_of rfl (kb_UnknownPlace_init_1_value c)) (gz KX G c 21 rfl) (dk_cons (de_var (pv 0)) dk_nil) rfl (by decide))) (da_cons (de_exc1 (c := 36) (f := "value") (pmkN base_LE (exkB_ok (xz (f := fun K => exkB K "UnknownTie" tlLE "LookupError.__new__" "value") c 13 rfl)).k (exkB_ok (xz (f := fun K => exkB K "UnknownTie" tlLE "LookupError.__new__" "value") c 13 rfl)).i (exkB_ok (xz (f := fun K => exkB K "UnknownTie" tlLE "LookupError.__new__" "value") c 13 rfl)).t (oki_UnknownTie_init KX G c) (hr.mono (by decide)) (kbe_of rfl (kb_UnknownTie_init_1_value c)) (gz KX G c 20 rfl) (dk_cons (de_var (pv 0)) dk_nil) rfl (by decide))) da_nil))))))))
  (dss_cons (ds_set (ps_set (i := 1) S.nd rfl (by first | exact .inl rfl | exact .inr rfl) (de_fz (de_op op_addU os_add (de_var (pv 1)) (de_lst (da_cons (de_exc1 (c := 37) (f := "value") (pmkN base_LE (exkB_ok (xz (f := fun K => exkB K "UnknownColour" tlLE "LookupError.__new__" "value") c 12 rfl)).k (exkB_ok (xz (f := fun K => exkB K "UnknownColour" tlLE "LookupError.__new__" "value") c 12 rfl)).i (exkB_ok (xz (f := fun K => exkB K "UnknownColour" tlLE "LookupError.__new__" "value") c 12 rfl)).t (oki_UnknownColour_init KX G c) (hr.mono (by decide)) (kbe_of rfl (kb_UnknownColour_init_1_value c)) (gz KX G c 19 rfl) (dk_cons (de_var (pv 0)) dk_nil) rfl (by decide))) (da_cons (de_exc1 (c := 39) (f := "value") (pmkN base_LE (exkB_ok (xz (f := fun K => exkB K "Refused" tlLE "LookupError.__new__" "value") c 18 rfl)).k (exkB_ok (xz (f := fun K => exkB K "Refused" tlLE "LookupError.__new__" "value") c 18 rfl)).i (exkB_ok (xz (f := fun K => exkB K "Refused" tlLE "LookupError.__new__" "value") c 18 rfl)).t (oki_Refused_init KX G c) (hr.mono (by decide)) (kbe_of rfl (kb_Refused_init_1_value c)) (gz KX G c 25 rfl) (dk_cons (de_var (pv 0)) dk_nil) rfl (by decide))) (da_cons (de_exc1 (c := 42) (f := "index") (pmkN base_LE (exkB_ok (xz (f := fun K => exkB K "Broken" tlLE "LookupError.__new__" "index") c 17 rfl)).k (exkB_ok (xz (f := fun K => exkB K "Broken" tlLE "LookupError.__new__" "index") c 17 rfl)).i (exkB_ok (xz (f := fun K => exkB K "Broken" tlLE "LookupError.__new__" "index") c 17 rfl)).t (oki_Broken_init KX G c) (hr.mono (by decide)) (kbe_of rfl (kb_Broken_init_1_index c)) (gz KX G c 24 rfl) (dk_cons (de_var (pv 0)) dk_nil) rfl (by decide))) da_nil))))))))
  (dss_cons (ds_set (ps_set (i := 1) S.nd rfl (by first | exact .inl rfl | exact .inr rfl) (de_fz (de_op op_addU os_add (de_var (pv 1)) (de_lst (da_cons (de_exc1 (c := 44) (f := "limit") (pmkN base_AE (exkB_ok (xz (f := fun K => exkB K "TooMany" tlAE "ArithmeticError.__new__" "limit") c 16 rfl)).k (exkB_ok (xz (f := fun K => exkB K "TooMany" tlAE "ArithmeticError.__new__" "limit") c 16 rfl)).i (exkB_ok (xz (f := fun K => exkB K "TooMany" tlAE "ArithmeticError.__new__" "limit") c 16 rfl)).t (oki_TooMany_init KX G c) (hr.mono (by decide)) (kbe_of rfl (kb_TooMany_init_1_limit c)) (gz KX G c 23 rfl) (dk_cons (de_var (pv 0)) dk_nil) rfl (by decide))) da_nil))))))
  (dss_one (ds_ret (de_var (pv 1))))))))))))))))
theorem F_l_bases (c : Fx w h K) : FunD K "_law_bases" "_law_bases" (defArgs s_l_bases) (defBody s_l_bases) (defScope s_l_bases) [] [] (He.ga K "_law_bases") (fdOf K d_l_bases) := dz c 3 rfl
theorem kp_l_bases (c : Fx w h K) : PySem.W.keepIn K (.ref (He.ga K "_law_bases")) = true := (F_l_bases c).kp
theorem b_l_bases_1 (c : Fx w h K) : Binds K (fdOf K d_l_bases) ["_law_e"] [] := (F_l_bases c).bindsN fun _ _ _ _ _ _ us hl => match us, hl with | [_], _ => rfl
theorem ok_l_bases (KX : K.In h) (G : h.Ns mainGlobals mg) (c : Fx w h K) : FnOk P w K mg base CX0 1 (He.ga K "_law_bases") (fdOf K d_l_bases) ["_law_e"] (FnS K (ctOf K) 1 f_l_bases) := by
  refine fd_ok (F_l_bases c) sc_l_bases fun cdv A outer s H E hr => ?_
  have S := sc_l_bases
  have hu80 : (A.deeper (envOfC "_law_bases" (defScope s_l_bases) s.heap.objs.size (He.ga K "_law_bases") cdv)).units + 80 < cLine := by have := hr.un; omega
  have hu65 : (A.deeper (envOfC "_law_bases" (defScope s_l_bases) s.heap.objs.size (He.ga K "_law_bases") cdv)).units + 65 < cLine := by omega
  have hu64 : (A.deeper (envOfC "_law_bases" (defScope s_l_bases) s.heap.objs.size (He.ga K "_law_bases") cdv)).units + 64 < cLine := by omega
  have hu1 : (A.deeper (envOfC "_law_bases" (defScope s_l_bases) s.heap.objs.size (He.ga K "_law_bases") cdv)).units + 1 < cLine := by omega
  have hu0 : (A.deeper (envOfC "_law_bases" (defScope s_l_bases) s.heap.objs.size (He.ga K "_law_bases") cdv)).units < cLine := by omega
  exact (dss_cons (ds_set (ps_set (i := 1) S.nd rfl (by first | exact .inl rfl | exact .inr rfl) (de_fz (de_lst (da_cons (de_isXO (xA_ShapeError c) (xk_ShapeError c) (fz KX G c 27 rfl) (gz KX G c 30 rfl) (de_var (pv 0))) (da_cons (de_isXO (xA_QuestionError c) (xk_QuestionError c) (fz KX G c 27 rfl) (gz KX G c 29 rfl) (de_var (pv 0))) (da_cons (de_isXO (xA_SizeError c) (xk_SizeError c) (fz KX G c 27 rfl) (gz KX G c 28 rfl) (de_var (pv 0))) da_nil)))))))
  (dss_one (ds_ret (de_op op_addU os_add (de_var (pv 1)) (de_lst (da_cons (de_isXB rfl (xA_ValueError c) (xk_ValueError c) (fz KX G c 27 rfl) (fz KX G c 33 rfl) (de_var (pv 0))) (da_cons (de_isXB rfl (xA_LookupError c) (xk_LookupError c) (fz KX G c 27 rfl) (fz KX G c 32 rfl) (de_var (pv 0))) (da_cons (de_isXB rfl (xA_ArithmeticError c) (xk_ArithmeticError c) (fz KX G c 27 rfl) (fz KX G c 31 rfl) (de_var (pv 0))) da_nil))))))))
theorem F_l_kind_of (c : Fx w h K) : FunD K "_law_kind_of" "_law_kind_of" (defArgs s_l_kind_of) (defBody s_l_kind_of) (defScope s_l_kind_of) [] [] (He.ga K "_law_kind_of") (fdOf K d_l_kind_of) := dz c 4 rfl
theorem kp_l_kind_of (c : Fx w h K) : PySem.W.keepIn K (.ref (He.ga K "_law_kind_of")) = true := (F_l_kind_of c).kp
theorem b_l_kind_of_1 (c : Fx w h K) : Binds K (fdOf K d_l_kind_of) ["_law_e"] [] := (F_l_kind_of c).bindsN fun _ _ _ _ _ _ us hl => match us, hl with | [_], _ => rfl
theorem ok_l_kind_of (KX : K.In h) (G : h.Ns mainGlobals mg) (c : Fx w h K) : FnOk P w K mg base CX0 1 (He.ga K "_law_kind_of") (fdOf K d_l_kind_of) ["_law_e"] (FnS K (ctOf K) 1 f_l_kind_of) := by
  refine fd_ok (F_l_kind_of c) sc_l_kind_of fun cdv A outer s H E hr => ?_
  have S := sc_l_kind_of
  have hu80 : (A.deeper (envOfC "_law_kind_of" (defScope s_l_kind_of) s.heap.objs.size (He.ga K "_law_kind_of") cdv)).units + 80 < cLine := by have := hr.un; omega
  have hu65 : (A.deeper (envOfC "_law_kind_of" (defScope s_l_kind_of) s.heap.objs.size (He.ga K "_law_kind_of") cdv)).units + 65 < cLine := by omega
  have hu64 : (A.deeper (envOfC "_law_kind_of" (defScope s_l_kind_of) s.heap.objs.size (He.ga K "_law_kind_of") cdv)).units + 64 < cLine := by omega
  have hu1 : (A.deeper (envOfC "_law_kind_of" (defScope s_l_kind_of) s.heap.objs.size (He.ga K "_law_kind_of") cdv)).units + 1 < cLine := by omega
  have hu0 : (A.deeper (envOfC "_law_kind_of" (defScope s_l_kind_of) s.heap.objs.size (He.ga K "_law_kind_of") cdv)).units < cLine := by omega
  exact (dss_cons (ds_set (ps_set (i := 1) S.nd rfl (by first | exact .inl rfl | exact .inr rfl) (de_fz (de_lst (da_cons (de_isXO (xA_InvalidPlaces c) (xk_InvalidPlaces c) (fz KX G c 27 rfl) (gz KX G c 10 rfl) (de_var (pv 0))) (da_cons (de_isXO (xA_InvalidTies c) (xk_InvalidTies c) (fz KX G c 27 rfl) (gz KX G c 9 rfl) (de_var (pv 0))) (da_cons (de_isXO (xA_InvalidText c) (xk_InvalidText c) (fz KX G c 27 rfl) (gz KX G c 8 rfl) (de_var (pv 0))) da_nil)))))))
  (dss_cons (ds_set (ps_set (i := 1) S.nd rfl (by first | exact .inl rfl | exact .inr rfl) (de_fz (de_op op_addU os_add (de_var (pv 1)) (de_lst (da_cons (de_isXO (xA_InvalidColours c) (xk_InvalidColours c) (fz KX G c 27 rfl) (gz KX G c 7 rfl) (de_var (pv 0))) (da_cons (de_isXO (xA_InvalidColouring c) (xk_InvalidColouring c) (fz KX G c 27 rfl) (gz KX G c 14 rfl) (de_var (pv 0))) da_nil)))))))
  (dss_cons (ds_set (ps_set (i := 1) S.nd rfl (by first | exact .inl rfl | exact .inr rfl) (de_fz (de_op op_addU os_add (de_var (pv 1)) (de_lst (da_cons (de_isXO (xA_InvalidArray c) (xk_InvalidArray c) (fz KX G c 27 rfl) (gz KX G c 13 rfl) (de_var (pv 0))) (da_cons (de_isXO (xA_InvalidLot c) (xk_InvalidLot c) (fz KX G c 27 rfl) (gz KX G c 12 rfl) (de_var (pv 0))) (da_cons (de_isXO (xA_InvalidSeen c) (xk_InvalidSeen c) (fz KX G c 27 rfl) (gz KX G c 11 rfl) (de_var (pv 0))) da_nil))))))))
  (dss_cons (ds_set (ps_set (i := 1) S.nd rfl (by first | exact .inl rfl | exact .inr rfl) (de_fz (de_op op_addU os_add (de_var (pv 1)) (de_lst (da_cons (de_isXO (xA_InvalidDeeds c) (xk_InvalidDeeds c) (fz KX G c 27 rfl) (gz KX G c 18 rfl) (de_var (pv 0))) (da_cons (de_isXO (xA_InvalidPromise c) (xk_InvalidPromise c) (fz KX G c 27 rfl) (gz KX G c 17 rfl) (de_var (pv 0))) da_nil)))))))
  (dss_cons (ds_set (ps_set (i := 1) S.nd rfl (by first | exact .inl rfl | exact .inr rfl) (de_fz (de_op op_addU os_add (de_var (pv 1)) (de_lst (da_cons (de_isXO (xA_InvalidIndex c) (xk_InvalidIndex c) (fz KX G c 27 rfl) (gz KX G c 16 rfl) (de_var (pv 0))) (da_cons (de_isXO (xA_InvalidLine c) (xk_InvalidLine c) (fz KX G c 27 rfl) (gz KX G c 15 rfl) (de_var (pv 0))) (da_cons (de_isXO (xA_NotAWeb c) (xk_NotAWeb c) (fz KX G c 27 rfl) (gz KX G c 22 rfl) (de_var (pv 0))) da_nil))))))))
  (dss_cons (ds_set (ps_set (i := 1) S.nd rfl (by first | exact .inl rfl | exact .inr rfl) (de_fz (de_op op_addU os_add (de_var (pv 1)) (de_lst (da_cons (de_isXO (xA_UnknownPlace c) (xk_UnknownPlace c) (fz KX G c 27 rfl) (gz KX G c 21 rfl) (de_var (pv 0))) (da_cons (de_isXO (xA_UnknownTie c) (xk_UnknownTie c) (fz KX G c 27 rfl) (gz KX G c 20 rfl) (de_var (pv 0))) (da_cons (de_isXO (xA_UnknownColour c) (xk_UnknownColour c) (fz KX G c 27 rfl) (gz KX G c 19 rfl) (de_var (pv 0))) da_nil))))))))
  (dss_cons (ds_set (ps_set (i := 1) S.nd rfl (by first | exact .inl rfl | exact .inr rfl) (de_fz (de_op op_addU os_add (de_var (pv 1)) (de_lst (da_cons (de_isXO (xA_Refused c) (xk_Refused c) (fz KX G c 27 rfl) (gz KX G c 25 rfl) (de_var (pv 0))) (da_cons (de_isXO (xA_Broken c) (xk_Broken c) (fz KX G c 27 rfl) (gz KX G c 24 rfl) (de_var (pv 0))) (da_cons (de_isXO (xA_TooMany c) (xk_TooMany c) (fz KX G c 27 rfl) (gz KX G c 23 rfl) (de_var (pv 0))) da_nil))))))))
  (dss_one (ds_ret (de_var (pv 1)))))))))))
theorem F_l_attribute (c : Fx w h K) : FunD K "_law_attribute" "_law_attribute" (defArgs s_l_attribute) (defBody s_l_attribute) (defScope s_l_attribute) [] [] (He.ga K "_law_attribute") (fdOf K d_l_attribute) := dz c 5 rfl
theorem kp_l_attribute (c : Fx w h K) : PySem.W.keepIn K (.ref (He.ga K "_law_attribute")) = true := (F_l_attribute c).kp
theorem b_l_attribute_2 (c : Fx w h K) : Binds K (fdOf K d_l_attribute) ["_law_e", "_law_at"] [] := (F_l_attribute c).bindsN fun _ _ _ _ _ _ us hl => match us, hl with | [_, _], _ => rfl
theorem ok_l_attribute (KX : K.In h) (G : h.Ns mainGlobals mg) (c : Fx w h K) : FnOk P w K mg base CX0 1 (He.ga K "_law_attribute") (fdOf K d_l_attribute) ["_law_e", "_law_at"] (FnS K (ctOf K) 2 f_l_attribute) := by
  refine fd_ok (F_l_attribute c) sc_l_attribute fun cdv A outer s H E hr => ?_
  have S := sc_l_attribute
  have hu80 : (A.deeper (envOfC "_law_attribute" (defScope s_l_attribute) s.heap.objs.size (He.ga K "_law_attribute") cdv)).units + 80 < cLine := by have := hr.un; omega
  have hu65 : (A.deeper (envOfC "_law_attribute" (defScope s_l_attribute) s.heap.objs.size (He.ga K "_law_attribute") cdv)).units + 65 < cLine := by omega
  have hu64 : (A.deeper (envOfC "_law_attribute" (defScope s_l_attribute) s.heap.objs.size (He.ga K "_law_attribute") cdv)).units + 64 < cLine := by omega
  have hu1 : (A.deeper (envOfC "_law_attribute" (defScope s_l_attribute) s.heap.objs.size (He.ga K "_law_attribute") cdv)).units + 1 < cLine := by omega
  have hu0 : (A.deeper (envOfC "_law_attribute" (defScope s_l_attribute) s.heap.objs.size (He.ga K "_law_attribute") cdv)).units < cLine := by omega
  exact (dss_cons (ds_if (dt_cmp (op_inU hu65) os_in (de_var (pv 1)) (de_lst (da_cons (de_c pe_int (fun _ _ => .int _)) (da_cons (de_c pe_int (fun _ _ => .int _)) (da_cons (de_c pe_int (fun _ _ => .int _)) (da_cons (de_c pe_int (fun _ _ => .int _)) (da_cons (de_c pe_int (fun _ _ => .int _)) (da_cons (de_c pe_int (fun _ _ => .int _)) (da_cons (de_c pe_int (fun _ _ => .int _)) da_nil)))))))) (by with_unfolding_all rfl)) (dss_one (ds_ret (de_xfld (xf_index c) (de_var (pv 0))))) dss_nil)
  (dss_one (ds_ret (de_if (dt_cmp (op_eqD hu64) os_eq (de_var (pv 1)) (de_c pe_int (fun _ _ => .int _)) (nomark _)) (de_xfld (xf_limit c) (de_var (pv 0))) (de_xfld (xf_value c) (de_var (pv 0)))))))
theorem F_l_right_v22 (c : Fx w h K) : FunD K "_law_right" "_law_right" (defArgs s_l_right_v22) (defBody s_l_right_v22) (defScope s_l_right_v22) [] [] (He.ga K "_law_right") (fdOf K d_l_right_v22) := dz c 6 rfl
theorem kp_l_right_v22 (c : Fx w h K) : PySem.W.keepIn K (.ref (He.ga K "_law_right")) = true := (F_l_right_v22 c).kp
theorem b_l_right_v22_1 (c : Fx w h K) : Binds K (fdOf K d_l_right_v22) ["_law_bag_here"] [] := (F_l_right_v22 c).bindsN fun _ _ _ _ _ _ us hl => match us, hl with | [_], _ => rfl
theorem ok_l_right_v22 (KX : K.In h) (G : h.Ns mainGlobals mg) (c : Fx w h K) : FnG P w K mg base 4 (He.ga K "_law_right") (fdOf K d_l_right_v22) ["_law_bag_here"] (FnS K (ctOf K) 1 f_l_right_v22) := by
  refine fd_okG (F_l_right_v22 c) sc_l_right_v22 fun cdv A outer s H E hgd hr => ?_
  have S := sc_l_right_v22
  have hu80 : (A.deeper (envOfC "_law_right" (defScope s_l_right_v22) s.heap.objs.size (He.ga K "_law_right") cdv)).units + 80 < cLine := by have := hr.un; omega
  have hu65 : (A.deeper (envOfC "_law_right" (defScope s_l_right_v22) s.heap.objs.size (He.ga K "_law_right") cdv)).units + 65 < cLine := by omega
  have hu64 : (A.deeper (envOfC "_law_right" (defScope s_l_right_v22) s.heap.objs.size (He.ga K "_law_right") cdv)).units + 64 < cLine := by omega
  have hu1 : (A.deeper (envOfC "_law_right" (defScope s_l_right_v22) s.heap.objs.size (He.ga K "_law_right") cdv)).units + 1 < cLine := by omega
  have hu0 : (A.deeper (envOfC "_law_right" (defScope s_l_right_v22) s.heap.objs.size (He.ga K "_law_right") cdv)).units < cLine := by omega
  exact (dss_cons (ds_for PassesOwn.never rfl (tg_name (i := 1)) (it_range1 (de_c pe_int (fun _ _ => .int _)) (fz KX G c 3 rfl)) (pg_name (i := 1) S.nd rfl (by first | exact .inl rfl | exact .inr rfl)) (dss_cons (ds_set (ps_set (i := 2) S.nd rfl (by first | exact .inl rfl | exact .inr rfl) (de_fz (de_lst (da_cons (de_c pe_non (fun _ _ => .non)) (da_cons (de_c pe_int (fun _ _ => .int _)) (da_cons (de_c pe_str (fun _ _ => .str _ (by decide +kernel))) (da_cons (de_tup (da_cons (de_c pe_int (fun _ _ => .int _)) (da_cons (de_c pe_int (fun _ _ => .int _)) da_nil))) (da_cons (de_lst (da_cons (de_c pe_int (fun _ _ => .int _)) da_nil)) (da_cons de_dnew (da_cons (de_c pe_bl (fun _ _ => .bl _)) (da_cons (de_neg (de_c pe_int (fun _ _ => .int _))) (da_cons (de_tup (da_cons (de_c pe_str (fun _ _ => .str _ (by decide +kernel))) (da_cons (de_c pe_int (fun _ _ => .int _)) da_nil))) (da_cons (de_op op_pow os_pow (de_c pe_int (fun _ _ => .int _)) (de_c pe_int (fun _ _ => .int _))) (da_cons (de_c pe_str (fun _ _ => .str _ (by decide +kernel))) da_nil)))))))))))))))
  (dss_cons (ds_set (ps_set (i := 3) S.nd rfl (by first | exact .inl rfl | exact .inr rfl) (de_fz (de_call (ok_l_one KX G c) (hr.mono (by decide)) (gz KX G c 6 rfl) (kp_l_one c) (b_l_one_2 c) .nil pass0 (fun _ _ => .nil) (fun _ _ _ => runF_len) (da_cons (de_var (pv 0)) (da_cons (de_var (pv 2)) da_nil))))))
  (dss_cons (ds_set (ps_set (i := 4) S.nd rfl (by first | exact .inl rfl | exact .inr rfl) (de_fz (de_call (ok_l_made_ones KX G c) (hr.mono (by decide)) (gz KX G c 26 rfl) (kp_l_made_ones c) (b_l_made_ones_1 c) .nil pass0 (fun _ _ => .nil) (fun _ _ _ => runF_len) (da_cons (de_var (pv 3)) da_nil)))))
  (dss_cons (ds_for PassesOwn.never rfl (tg_name (i := 5)) (it_range1 (de_c pe_int (fun _ _ => .int _)) (fz KX G c 3 rfl)) (pg_name (i := 5) S.nd rfl (by first | exact .inl rfl | exact .inr rfl)) (dss_cons (ds_parT (is := [8, 10]) (n := 2) rfl (by decide) (ps_asg (pe_tup (dan_cons (de_fz (de_ix ix_seq os_ix (de_var (pv 4)) (de_var (pv 5)) (fun _ _ => rfl))) (dan_cons (de_fz (de_op op_mod os_mod (de_callTy cs_intU (call_intU) (da_cons (de_var (pv 5)) da_nil) (fz KX G c 4 rfl)) (de_c pe_int (fun _ _ => .int _)))) dan_nil))) (pg_tup rfl (pgs_cons (pg_name (i := 8) S.nd rfl (by first | exact .inl rfl | exact .inr rfl)) (pgs_cons (pg_name (i := 10) S.nd rfl (by first | exact .inl rfl | exact .inr rfl)) pgs_nil)))))
  (dss_cons (ds_set (ps_set (i := 7) S.nd rfl (by first | exact .inl rfl | exact .inr rfl) (de_fz (de_lst (da_cons (de_cmp op_ltU os_lt (de_var (pv 10)) (de_c pe_int (fun _ _ => .int _)) (nomark _)) (da_cons (de_chain op_leU os_le op_ltU os_lt (de_c pe_int (fun _ _ => .int _)) (de_var (pv 10)) (de_c pe_int (fun _ _ => .int _))) (da_cons (de_cmp (op_eqD hu64) os_eq (de_var (pv 10)) (de_c pe_int (fun _ _ => .int _)) (nomark _)) da_nil)))))))
  (dss_cons (ds_if (PW.pt (dw_or (dt_cmp (op_neD hu64) os_ne (de_call (ok_l_kind_of KX G c) (hr.mono (by decide)) (gz KX G c 35 rfl) (kp_l_kind_of c) (b_l_kind_of_1 c) .nil pass0 (fun _ _ => .nil) (fun _ _ _ => runF_len) (da_cons (de_var (pv 8)) da_nil)) (de_lc rfl S.nd (it_range1 (de_c pe_int (fun _ _ => .int _)) (fz KX G c 3 rfl)) (own := [("_law_j", 11)]) (blk_of (by kernel_rfl)) (tg_name (i := 11)) (by decide) (fun _ _ _ _ _ => (pg_name (i := 11) S.nd rfl (by first | exact .inl rfl | exact .inr rfl))) (fun _ _ _ _ _ => dts_nil) (fun _ _ _ _ _ => (de_cmp (op_eqD hu64) os_eq (de_var (pv 11)) (de_var (pv 10)) (nomark _)))) (nomark _)) (dw_or1 (dt_cmp (op_neD hu64) os_ne (de_call (ok_l_bases KX G c) (hr.mono (by decide)) (gz KX G c 34 rfl) (kp_l_bases c) (b_l_bases_1 c) .nil pass0 (fun _ _ => .nil) (fun _ _ _ => runF_len) (da_cons (de_var (pv 8)) da_nil)) (de_op op_addU os_add (de_var (pv 7)) (de_var (pv 7))) (nomark _))))) (dss_one (ds_ret (de_c pe_bl (fun _ _ => .bl _)))) dss_nil)
  (dss_one (ds_if (dt_cmp (op_neD hu64) os_ne (de_callB cs_repr3 (call_repr3U (xz (f := sysB) c 19 rfl) hgd hu80) (da_cons (de_call (ok_l_attribute KX G c) (hr.mono (by decide)) (gz KX G c 36 rfl) (kp_l_attribute c) (b_l_attribute_2 c) .nil pass0 (fun _ _ => .nil) (fun _ _ _ => runF_len) (da_cons (de_var (pv 8)) (da_cons (de_var (pv 10)) da_nil))) da_nil) (fz KX G c 37 rfl)) (de_callB cs_repr3 (call_repr3U (xz (f := sysB) c 19 rfl) hgd hu80) (da_cons (de_var (pv 3)) da_nil) (fz KX G c 37 rfl)) (nomark _)) (dss_one (ds_ret (de_c pe_bl (fun _ _ => .bl _)))) dss_nil))))) (fun hi hg hb => ps_for PassesOwn.never rfl hi hg hb))
  (dss_cons (ds_set (ps_set (i := 6) S.nd rfl (by first | exact .inl rfl | exact .inr rfl) (de_fz (de_lst (da_cons (de_exc0 (c := 38) (pmk0 base_LE.eb (exnB_ok (xz (f := fun K => exnB K "NoColouring" tlLE "LookupError.__new__") c 22 rfl)).q (exnB_ok (xz (f := fun K => exnB K "NoColouring" tlLE "LookupError.__new__") c 22 rfl)).kp (raises_own (exnB_ok (xz (f := fun K => exnB K "NoColouring" tlLE "LookupError.__new__") c 22 rfl)).ex (exnB_ok (xz (f := fun K => exnB K "NoColouring" tlLE "LookupError.__new__") c 22 rfl)).ty) (gz KX G c 40 rfl) rfl (by decide))) (da_cons (de_exc0 (c := 40) (pmk0 base_LE.eb (exnB_ok (xz (f := fun K => exnB K "Busy" tlLE "LookupError.__new__") c 21 rfl)).q (exnB_ok (xz (f := fun K => exnB K "Busy" tlLE "LookupError.__new__") c 21 rfl)).kp (raises_own (exnB_ok (xz (f := fun K => exnB K "Busy" tlLE "LookupError.__new__") c 21 rfl)).ex (exnB_ok (xz (f := fun K => exnB K "Busy" tlLE "LookupError.__new__") c 21 rfl)).ty) (gz KX G c 39 rfl) rfl (by decide))) (da_cons (de_exc0 (c := 41) (pmk0 base_LE.eb (exnB_ok (xz (f := fun K => exnB K "NothingToUndo" tlLE "LookupError.__new__") c 20 rfl)).q (exnB_ok (xz (f := fun K => exnB K "NothingToUndo" tlLE "LookupError.__new__") c 20 rfl)).kp (raises_own (exnB_ok (xz (f := fun K => exnB K "NothingToUndo" tlLE "LookupError.__new__") c 20 rfl)).ex (exnB_ok (xz (f := fun K => exnB K "NothingToUndo" tlLE "LookupError.__new__") c 20 rfl)).ty) (gz KX G c 38 rfl) rfl (by decide))) da_nil)))))))
  (dss_one (ds_for PassesOwn.never rfl (tg_tup (tgs_cons (tg_name (i := 5)) (tgs_cons (tg_name (i := 8)) tgs_nil))) (it_enum (de_var (pv 6)) (fz KX G c 41 rfl)) (pg_tup rfl (pgs_cons (pg_name (i := 5) S.nd rfl (by first | exact .inl rfl | exact .inr rfl)) (pgs_cons (pg_name (i := 8) S.nd rfl (by first | exact .inl rfl | exact .inr rfl)) pgs_nil))) (dss_cons (ds_if (PW.pt (dw_or (dt_cmp (op_neD hu64) os_ne (de_call (ok_l_bases KX G c) (hr.mono (by decide)) (gz KX G c 34 rfl) (kp_l_bases c) (b_l_bases_1 c) .nil pass0 (fun _ _ => .nil) (fun _ _ _ => runF_len) (da_cons (de_var (pv 8)) da_nil)) (de_op op_mulU os_mul (de_lst (da_cons (de_c pe_bl (fun _ _ => .bl _)) (da_cons (de_c pe_bl (fun _ _ => .bl _)) (da_cons (de_c pe_bl (fun _ _ => .bl _)) da_nil)))) (de_c pe_int (fun _ _ => .int _))) (nomark _)) (dw_or1 (dt_cmp (op_inU hu65) os_in (de_c pe_bl (fun _ _ => .bl _)) (de_call (ok_l_kind_of KX G c) (hr.mono (by decide)) (gz KX G c 35 rfl) (kp_l_kind_of c) (b_l_kind_of_1 c) .nil pass0 (fun _ _ => .nil) (fun _ _ _ => runF_len) (da_cons (de_var (pv 8)) da_nil)) (by with_unfolding_all rfl))))) (dss_one (ds_ret (de_c pe_bl (fun _ _ => .bl _)))) dss_nil)
  (dss_cons (ds_set (ps_set (i := 9) S.nd rfl (by first | exact .inl rfl | exact .inr rfl) (de_fz (de_lst (da_cons (de_isXO (xA_NoColouring c) (xk_NoColouring c) (fz KX G c 27 rfl) (gz KX G c 40 rfl) (de_var (pv 8))) (da_cons (de_isXO (xA_Busy c) (xk_Busy c) (fz KX G c 27 rfl) (gz KX G c 39 rfl) (de_var (pv 8))) (da_cons (de_isXO (xA_NothingToUndo c) (xk_NothingToUndo c) (fz KX G c 27 rfl) (gz KX G c 38 rfl) (de_var (pv 8))) da_nil)))))))
  (dss_one (ds_if (dt_cmp (op_neD hu64) os_ne (de_var (pv 9)) (de_lc rfl S.nd (it_range1 (de_c pe_int (fun _ _ => .int _)) (fz KX G c 3 rfl)) (own := [("_law_j", 11)]) (blk_of (by kernel_rfl)) (tg_name (i := 11)) (by decide) (fun _ _ _ _ _ => (pg_name (i := 11) S.nd rfl (by first | exact .inl rfl | exact .inr rfl))) (fun _ _ _ _ _ => dts_nil) (fun _ _ _ _ _ => (de_cmp (op_eqD hu64) os_eq (de_var (pv 5)) (de_var (pv 11)) (nomark _)))) (nomark _)) (dss_one (ds_ret (de_c pe_bl (fun _ _ => .bl _)))) dss_nil)))) (fun hi hg hb => ps_for PassesOwn.never rfl hi hg hb)))))))) (fun hi hg hb => ps_for PassesOwn.never rfl hi hg hb))
  (dss_one (ds_ret (de_c pe_bl (fun _ _ => .bl _)))))
theorem F_l_bag (c : Fx w h K) : FunD K "_law_bag" "_law_bag" (defArgs s_l_bag) (defBody s_l_bag) (defScope s_l_bag) [] [] (He.ga K "_law_bag") (fdOf K d_l_bag) := dz c 7 rfl
theorem kp_l_bag (c : Fx w h K) : PySem.W.keepIn K (.ref (He.ga K "_law_bag")) = true := (F_l_bag c).kp
theorem b_l_bag_2 (c : Fx w h K) : Binds K (fdOf K d_l_bag) ["_law_script", "_law_k"] [] := (F_l_bag c).bindsN fun _ _ _ _ _ _ us hl => match us, hl with | [_, _], _ => rfl
theorem ok_l_bag (KX : K.In h) (G : h.Ns mainGlobals mg) (c : Fx w h K) : FnOk P w K mg base CX0 1 (He.ga K "_law_bag") (fdOf K d_l_bag) ["_law_script", "_law_k"] (FnS K (ctOf K) 2 f_l_bag) := by
  refine fd_ok (F_l_bag c) sc_l_bag fun cdv A outer s H E hr => ?_
  have S := sc_l_bag
  have hu80 : (A.deeper (envOfC "_law_bag" (defScope s_l_bag) s.heap.objs.size (He.ga K "_law_bag") cdv)).units + 80 < cLine := by have := hr.un; omega
  have hu65 : (A.deeper (envOfC "_law_bag" (defScope s_l_bag) s.heap.objs.size (He.ga K "_law_bag") cdv)).units + 65 < cLine := by omega
  have hu64 : (A.deeper (envOfC "_law_bag" (defScope s_l_bag) s.heap.objs.size (He.ga K "_law_bag") cdv)).units + 64 < cLine := by omega
  have hu1 : (A.deeper (envOfC "_law_bag" (defScope s_l_bag) s.heap.objs.size (He.ga K "_law_bag") cdv)).units + 1 < cLine := by omega
  have hu0 : (A.deeper (envOfC "_law_bag" (defScope s_l_bag) s.heap.objs.size (He.ga K "_law_bag") cdv)).units < cLine := by omega
  exact (dss_cons (ds_par (ps_par (i := 4) (j := 5) rfl S.nd rfl rfl (by decide) rfl rfl (dan_cons (de_fz (de_if (dt_cmp op_ltU os_lt (de_var (pv 1)) (de_callB cs_len (call_len) (da_cons (de_var (pv 0)) da_nil) (fz KX G c 0 rfl)) (nomark _)) (de_callTy cs_intU (call_intU) (da_cons (de_ix ix_seq os_ix (de_var (pv 0)) (de_var (pv 1)) (fun _ _ => rfl)) da_nil) (fz KX G c 4 rfl)) (de_c pe_int (fun _ _ => .int _)))) (dan_cons (de_fz (de_op op_mulU os_mul (de_c pe_int (fun _ _ => .int _)) (de_op op_addU os_add (de_var (pv 1)) (de_c pe_int (fun _ _ => .int _))))) dan_nil)) rfl))
  (dss_cons (ds_for PassesOwn.never rfl (tg_name (i := 2)) (it_any (de_slice (de_var (pv 0)) do_none (do_some (de_c pe_int (fun _ _ => .int _))))) (pg_name (i := 2) S.nd rfl (by first | exact .inl rfl | exact .inr rfl)) (dss_one (ds_set (ps_set (i := 5) S.nd rfl (by first | exact .inl rfl | exact .inr rfl) (de_fz (de_op op_mod os_mod (de_callTy cs_intU (call_intU) (da_cons (de_op op_addU os_add (de_op op_addU os_add (de_op op_mulU os_mul (de_var (pv 5)) (de_c pe_int (fun _ _ => .int _))) (de_op op_mod os_mod (de_callTy cs_intU (call_intU) (da_cons (de_var (pv 2)) da_nil) (fz KX G c 4 rfl)) (de_c pe_int (fun _ _ => .int _)))) (de_op op_mulU os_mul (de_c pe_int (fun _ _ => .int _)) (de_var (pv 1)))) da_nil) (fz KX G c 4 rfl)) (de_c pe_int (fun _ _ => .int _))))))) (fun hi hg hb => ps_for PassesOwn.never rfl hi hg hb))
  (dss_cons (ds_set (ps_set (i := 3) S.nd rfl (by first | exact .inl rfl | exact .inr rfl) (de_fz (de_if (PW.pt (dw_or (dt_cmp op_ltU os_lt (de_var (pv 4)) (de_c pe_int (fun _ _ => .int _)) (nomark _)) (dw_or1 (dt_cmp op_geU os_ge (de_var (pv 4)) (de_op op_pow os_pow (de_c pe_int (fun _ _ => .int _)) (de_c pe_int (fun _ _ => .int _))) (nomark _))))) (de_callB cs_abs (call_abs) (da_cons (de_var (pv 4)) da_nil) (fz KX G c 43 rfl)) (de_c pe_int (fun _ _ => .int _))))))
  (dss_one (ds_ret (de_lst (da_cons (de_var (pv 3)) (da_cons (de_op op_mod os_mod (de_callTy cs_intU (call_intU) (da_cons (de_op op_addU os_add (de_var (pv 5)) (de_op op_mulU os_mul (de_c pe_int (fun _ _ => .int _)) (de_op op_mod os_mod (de_callTy cs_intU (call_intU) (da_cons (de_var (pv 4)) da_nil) (fz KX G c 4 rfl)) (de_c pe_int (fun _ _ => .int _))))) da_nil) (fz KX G c 4 rfl)) (de_c pe_int (fun _ _ => .int _))) (da_cons (de_c pe_int (fun _ _ => .int _)) da_nil)))))))))
theorem F_law_v22 (c : Fx w h K) : FunD K "law" "law" (defArgs s_law_v22) (defBody s_law_v22) (defScope s_law_v22) [] [] (He.ga K "law") (fdOf K d_law_v22) := dz c 8 rfl
theorem kp_law_v22 (c : Fx w h K) : PySem.W.keepIn K (.ref (He.ga K "law")) = true := (F_law_v22 c).kp
theorem ok_law_v22 (KX : K.In h) (G : h.Ns mainGlobals mg) (c : Fx w h K) : FnG P w K mg base 5 (He.ga K "law") (fdOf K d_law_v22) ["_law_script"] (FnS K (ctOf K) 1 f_law_v22) := by
  refine fd_okG (F_law_v22 c) sc_law_v22 fun cdv A outer s H E hgd hr => ?_
  have S := sc_law_v22
  have hu80 : (A.deeper (envOfC "law" (defScope s_law_v22) s.heap.objs.size (He.ga K "law") cdv)).units + 80 < cLine := by have := hr.un; omega
  have hu65 : (A.deeper (envOfC "law" (defScope s_law_v22) s.heap.objs.size (He.ga K "law") cdv)).units + 65 < cLine := by omega
  have hu64 : (A.deeper (envOfC "law" (defScope s_law_v22) s.heap.objs.size (He.ga K "law") cdv)).units + 64 < cLine := by omega
  have hu1 : (A.deeper (envOfC "law" (defScope s_law_v22) s.heap.objs.size (He.ga K "law") cdv)).units + 1 < cLine := by omega
  have hu0 : (A.deeper (envOfC "law" (defScope s_law_v22) s.heap.objs.size (He.ga K "law") cdv)).units < cLine := by omega
  exact (dss_one (ds_ret (de_callB cs_all (cr_all rfl) (da_cons (de_lc rfl S.nd (it_range1 (de_callB cs_max2 (call_max2 rfl) (da_cons (de_c pe_int (fun _ _ => .int _)) (da_cons (de_callB cs_min2 (call_min2 rfl) (da_cons (de_callB cs_len (call_len) (da_cons (de_var (pv 0)) da_nil) (fz KX G c 0 rfl)) (da_cons (de_c pe_int (fun _ _ => .int _)) da_nil)) (fz KX G c 1 rfl)) da_nil)) (fz KX G c 2 rfl)) (fz KX G c 3 rfl)) (own := [("_law_k", 1)]) (blk_of (by kernel_rfl)) (tg_name (i := 1)) (by decide) (fun _ _ _ _ _ => (pg_name (i := 1) S.nd rfl (by first | exact .inl rfl | exact .inr rfl))) (fun _ _ _ _ _ => dts_nil) (fun _ _ _ _ _ => (de_bagG (ok_l_right_v22 KX G c) hgd (hr.mono (by decide)) (gz KX G c 42 rfl) (kp_l_right_v22 c) (b_l_right_v22_1 c) .nil (fun _ _ => .nil) (fun _ _ _ => runF_len) (de_call (ok_l_bag KX G c) (hr.mono (by decide)) (gz KX G c 44 rfl) (kp_l_bag c) (b_l_bag_2 c) .nil pass0 (fun _ _ => .nil) (fun _ _ _ => runF_len) (da_cons (de_var (pv 0)) (da_cons (de_var (pv 1)) da_nil))) da_nil))) da_nil) (fz KX G c 45 rfl))))
end
end L23

set_option maxHeartbeats 0
namespace L23
open PySem PySem.Spec PyProof.Rows L2 KD KM
theorem facts {P : Program} {w : World} {K : PySem.W.Frag} {h : Heap} {mg : Str → Option Value} {f : Addr} (X : K.In h) (G : h.Ns mainGlobals mg) (hfa : mg ("law" : Str) = some (.ref f)) (c : Fx w h K) :
    ∃ fd : FuncData, (∀ (s : Shared) (v : Value), BindsTo s fd ⟨[v], []⟩ [("_law_script", v)]) ∧ ∀ base : Heap, K.In base → base.Ns mainGlobals mg → FnG P w K mg base 5 f fd ["_law_script"] (FnS K (ctOf K) 1 f_law_v22) := by
  have e := hfa.symm.trans (gz X G c 46 rfl)
  cases e
  have b := FunD.bindsA (ps := ["_law_script"]) (F_law_v22 c) fun _ _ _ _ _ _ us hl => match us, hl with | [_], _ => rfl
  exact ⟨_, fun s v => b s [v] rfl, fun base _ _ => ok_law_v22 X G c⟩
end L23
open PySem PySem.W PySem.Calls PyProof.Rows
theorem PySem.Challenge.cw_kempemoves_k23_errors_made_holds : PySem.Challenge.rw_kempemoves_k23_errors_made.Holds := by
  w_on; o_law
  refine HandSHeadRun.head_any (r := OpenLaw.row PySem.Challenge.rw_kempemoves_k23_errors_made) (q := view (OpenLaw.row PySem.Challenge.rw_kempemoves_k23_errors_made).prog [35]) (H := L23.hk) (ob := L23.ob) (M := 20000) (loose := L23.names) (d := HandSHeadRun.topDef (OpenLaw.row PySem.Challenge.rw_kempemoves_k23_errors_made).prog 35) (kwd := []) L23.ob_eq
    (by kernel_rfl) (fun s => by kernel_rfl) L23.run (by kernel_rfl) (by kernel_rfl) (by kernel_rfl) (by rfl) (by first | assumption | decide +kernel) (by decide +kernel) ⟨rfl, rfl, rfl, rfl, rfl, by decide +kernel⟩ ?hw ?hc
  case hw => w_witness2
  case hc =>
    refine KD.walk_endG (l := PySem.Challenge.rw_kempemoves_k23_errors_made) (n := 63) (k := 5) (x := "_law_script") rfl (by decide) (by kernel_rfl) ⟨rfl, by decide, by decide⟩ ?F
    intro w mg fa h Y G hmg0
    obtain ⟨K, KX, c⟩ := Y
    have hmg : mg ("law" : PySem.Str) = some (.ref fa) := by
      have e : (HandSHeadRun.topDef (OpenLaw.row PySem.Challenge.rw_kempemoves_k23_errors_made).prog 35).name = ("law" : PySem.Str) := by kernel_rfl
      rw [← e]
      exact hmg0
    obtain ⟨fd, hb, hF⟩ := L23.facts (P := (PySem.Challenge.rw_kempemoves_k23_errors_made).prog) (w := w) KX G hmg c
    exact ⟨K, fd, _, KX, hb, fun H a ns hl _ hS => KD.law_sp hl hS (KM.law_v22_true ns hl), hF⟩

