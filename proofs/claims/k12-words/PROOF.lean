import PyProof.Rows.All
import Wide.All
import OpenK.AllK
import Wide.FinOn
import HandS.ForMost
import HandS.Exc
import HandS.ExcInit
import HandS.ExcField
import HandS.ExcOwn
import HandS.TryMany
import HandS.Wide
import HandS.WideBits
import HandS.Gcd
import HandS.Deep
import HandS.IsInst
import HandS.Walk
import HandS.Zip
import HandS.TupAny
import HandS.TupMul
import HandS.Style
import HandS.Flow
import HandS.DictTup
import HandS.Lambda
import HandS.EndTab
import HandS.Nested
import HandS.CallSlots
import HandS.Conv
import HandS.TupLen
import HandS.RaiseMore
import HandS.SetKeys
import HandS.SortKw
import HandS.SortOrd
import HandS.DictComp
import HandS.NoneIn
import HandS.Defaults
import HandS.BoundList
import KE.GoesMore
import HandS.Head0
import HandS.Head1
import HandS.Head2
import HandS.HeadHook1
import HandS.HeadHook2
import HandS.HeadHook3
import HandS.HeadHook4
import HandS.Head3
import HandS.HeadEnd
import HandS.HeadWalk
import PySem.Challenge.RW_freesigns_k12_words_and_turned
set_option Elab.async false
set_option linter.all false
set_option maxRecDepth 100000
set_option maxHeartbeats 4000000
/-! DL 1: pure data P, values D, the store, how they lie in the model's abstract heap. -/
namespace DL
open PySem PySem.Spec PyProof.Rows L2
abbrev Slots := L2.St

/-- pure data -/
inductive P where
  | non
  | bl (b : Bool)
  | int (i : Int)
  | str (s : Str)
  | tup (xs : List P)
  | lst (xs : List P)
  | dct (kvs : List (Key × P))
  | obj (g : Nat) (fs : List (Str × P))
  | ty (n : String)
  | glo (g : Nat)
/-- values: pure data, a thing of the store, rows with such in them, a lambda with what it has captured, the law's script -/
inductive D where
  | p (x : P)
  | ref (n : Nat)
  | tup (xs : List D)
  | lst (xs : List D)
  | lam (l : Nat) (cs : List P)
  | scr (ns : List Int)
/-- what stands in the store -/
inductive MO where
  | lst (xs : List D)
  | dK (kvs : List (Key × D))
  | dT (kvs : List (List Key × D))
  | ins (g : Nat) (fs : List (Str × D))
abbrev Sto := List MO
/-- an own error: its class, its fields -/
structure Exn where
  g : Nat
  fs : List (Str × P)
inductive Res (α : Type) where
  | ok (a : α) (G : Sto)
  | exc (x : Exn) (G : Sto)
  | stuck
def Res.bind {α β : Type} (r : Res α) (k : α → Sto → Res β) : Res β := match r with
  | .ok a G => k a G
  | .exc x G => .exc x G
  | .stuck => .stuck
@[simp] theorem Res.bind_ok {α β : Type} (a : α) (G : Sto) (k : α → Sto → Res β) : (Res.ok a G).bind k = k a G := rfl
@[simp] theorem Res.bind_exc {α β : Type} (x : Exn) (G : Sto) (k : α → Sto → Res β) : (Res.exc x G : Res α).bind k = .exc x G := rfl
@[simp] theorem Res.bind_stuck {α β : Type} (k : α → Sto → Res β) : (Res.stuck : Res α).bind k = .stuck := rfl
/-- an option as a result -/
def Res.of {α : Type} (o : Option α) (G : Sto) : Res α := match o with
  | some a => .ok a G
  | none => .stuck
@[simp] theorem Res.of_some {α : Type} (a : α) (G : Sto) : Res.of (some a) G = .ok a G := rfl
@[simp] theorem Res.of_none {α : Type} (G : Sto) : (Res.of none G : Res α) = .stuck := rfl

/-- the slots of a def: values, and which are captured by a lambda (these are stored no more) -/
structure Ro where
  v : List (Option D)
  z : List Nat

/-- a lambda of the text -/
structure LamD where
  qual : Str
  params : Arguments
  body : Expr
  scope : Scope
  free : List Str
/-- what is fixed of the program: the written part, where its things stand, its lambdas, the tables of code objects -/
structure Tb where
  K : PySem.W.Frag
  ga : Nat → Addr
  lam : Nat → Option LamD
  tabs : List (Addr × Str)
  con : List (P × V)

/-- not a table of code objects -/
def NT (o : HO) : Prop := ∀ ps, o ≠ .tbl ps
def SqLB (K : PySem.W.Frag) (B : Addr → Prop) (H : Hp) (a : Addr) (vs : List V) : Prop :=
  (Rd H a (.lst vs) ∧ ¬ B a) ∨
    ∃ (o : Obj) (its : Array Value) (n : Nat), K.lookup a = some o ∧ o.cls = .type "list" ∧ o.dict = none ∧ o.data = .seq its n ∧ its.size ≤ sizeLine ∧ Vals vs its.toList
/-- rows of the written part that may stand for a value: never a key -/
def kRow : List V → Bool
  | [] => false
  | v :: vs => (v :: vs).all fun v => match v with
    | .int _ => true
    | _ => false
def SqTB (K : PySem.W.Frag) (B : Addr → Prop) (H : Hp) (a : Addr) (vs : List V) : Prop := (H a = some (.tup vs) ∧ ¬ B a) ∨
  ((∃ (o : Obj) (its : Array Value) (n : Nat), K.lookup a = some o ∧ o.cls = .type "tuple" ∧ o.data = .seq its n ∧ its.size ≤ sizeLine ∧ Vals vs its.toList) ∧ kRow vs = true)
theorem SqLB.to {K : PySem.W.Frag} {B : Addr → Prop} {H : Hp} {a : Addr} {vs : List V} (h : SqLB K B H a vs) : SqL K H a vs := h.elim (fun x => .inl x.1) .inr
theorem SqTB.to {K : PySem.W.Frag} {B : Addr → Prop} {H : Hp} {a : Addr} {vs : List V} (h : SqTB K B H a vs) : SqT K H a vs := h.elim (fun x => .inl (.inl x.1)) fun x => .inr x.1
/-- what is neither changed nor let go -/
def Keep (B : Addr → Prop) (H : Hp) (B' : Addr → Prop) (H' : Hp) : Prop := ∀ a o, H a = some o → ¬ B a → NT o → H' a = some o ∧ ¬ B' a
theorem nt_lst {xs : List V} : NT (.lst xs) := fun _ z => nomatch z
theorem nt_tup {xs : List V} : NT (.tup xs) := fun _ z => nomatch z
theorem nt_frz {o : Obj} {u : HO} : NT (.frz o u) := fun _ z => nomatch z
theorem nt_dK {xs} : NT (.dK xs) := fun _ z => nomatch z
theorem nt_dT {xs} : NT (.dT xs) := fun _ z => nomatch z
theorem nt_ins {a b xs} : NT (.ins a b xs) := fun _ z => nomatch z
theorem nt_own {a} : NT (.own a) := fun _ z => nomatch z
theorem nt_xd {a} : NT (.xd a) := fun _ z => nomatch z
theorem nt_ext {a} : NT (.ext a) := fun _ z => nomatch z
section
variable {K : PySem.W.Frag} {B B' : Addr → Prop} {H H' : Hp} {a : Addr} {vs : List V}
theorem SqLB.keep (h : SqLB K B H a vs) (k : Keep B H B' H') : SqLB K B' H' a vs := by
  rcases h with ⟨h | ⟨o, h⟩, n⟩ | h
  · obtain ⟨h1, h2⟩ := k _ _ h n nt_lst
    exact .inl ⟨.inl h1, h2⟩
  · obtain ⟨h1, h2⟩ := k _ _ h n nt_frz
    exact .inl ⟨.inr ⟨o, h1⟩, h2⟩
  · exact .inr h
theorem SqTB.keep (h : SqTB K B H a vs) (k : Keep B H B' H') : SqTB K B' H' a vs := h.imp (fun h => k _ _ h.1 h.2 nt_tup) id
end

/-! ### pure data in the heap -/
mutual
inductive RP (K : PySem.W.Frag) (ga : Nat → Addr) (B : Addr → Prop) (H : Hp) : P → V → Prop
  | non : RP K ga B H .non .non
  | bl (b : Bool) : RP K ga B H (.bl b) (.bl b)
  | int (i : Int) : RP K ga B H (.int i) (.int i)
  | str (s : Str) : RP K ga B H (.str s) (.str s)
  | tup {a : Addr} {vs : List V} {xs : List P} : SqTB K B H a vs → RPs K ga B H xs vs → RP K ga B H (.tup xs) (.ref a)
  | lst {a : Addr} {vs : List V} {xs : List P} : H a = some (.lst vs) → ¬ B a → RPs K ga B H xs vs → RP K ga B H (.lst xs) (.ref a)
  | dct {a : Addr} {kvs : List (Key × P)} {vs : List (Key × V)} : H a = some (.dK vs) → ¬ B a → vs.map Prod.fst = kvs.map Prod.fst → RPs K ga B H (kvs.map Prod.snd) (vs.map Prod.snd) → RP K ga B H (.dct kvs) (.ref a)
  | obj {a dx : Addr} {g : Nat} {fs : List (Str × P)} {vs : List (Str × V)} : H a = some (.ins (ga g) dx vs) → ¬ B a → vs.map Prod.fst = fs.map Prod.fst → RPs K ga B H (fs.map Prod.snd) (vs.map Prod.snd) → RP K ga B H (.obj g fs) (.ref a)
  | ty (n : String) : RP K ga B H (.ty n) (.ty n)
  | glo (g : Nat) : RP K ga B H (.glo g) (.ref (ga g))
inductive RPs (K : PySem.W.Frag) (ga : Nat → Addr) (B : Addr → Prop) (H : Hp) : List P → List V → Prop
  | nil : RPs K ga B H [] []
  | cons {x : P} {v : V} {xs : List P} {vs : List V} : RP K ga B H x v → RPs K ga B H xs vs → RPs K ga B H (x :: xs) (v :: vs)
end
section
variable {K : PySem.W.Frag} {ga : Nat → Addr} {B B' : Addr → Prop} {H H' : Hp}
theorem RPs.length : ∀ {xs : List P} {vs : List V}, RPs K ga B H xs vs → xs.length = vs.length
  | _, _, .nil => rfl
  | _, _, .cons _ t => by rw [List.length_cons, List.length_cons, RPs.length t]
theorem RPs.get : ∀ {xs : List P} {vs : List V} {i : Nat} {x : P}, RPs K ga B H xs vs → xs[i]? = some x → ∃ v, vs[i]? = some v ∧ RP K ga B H x v
  | _, _, _, _, .nil, e => by simp at e
  | _, _, 0, _, .cons r _, e => by simp at e; subst e; exact ⟨_, rfl, r⟩
  | _, _, i + 1, x, .cons _ t, e => by
    obtain ⟨v, h1, h2⟩ := RPs.get (i := i) (x := x) t (by simpa using e)
    exact ⟨v, by simpa using h1, h2⟩
theorem RPs.getV {xs : List P} {vs : List V} {i : Nat} {v : V} (r : RPs K ga B H xs vs) (e : vs[i]? = some v) : ∃ x, xs[i]? = some x ∧ RP K ga B H x v := by
  have h : i < xs.length := by rw [r.length]; exact (List.getElem?_eq_some_iff.mp e).1
  obtain ⟨w, h1, h2⟩ := r.get (List.getElem?_eq_getElem h)
  rw [e] at h1; cases h1
  exact ⟨_, List.getElem?_eq_getElem h, h2⟩
theorem RPs.append : ∀ {xs ys : List P} {vs ws : List V}, RPs K ga B H xs vs → RPs K ga B H ys ws → RPs K ga B H (xs ++ ys) (vs ++ ws)
  | _, _, _, _, .nil, s => s
  | _, _, _, _, .cons r t, s => .cons r (RPs.append t s)
theorem RPs.take : ∀ {xs : List P} {vs : List V} (n : Nat), RPs K ga B H xs vs → RPs K ga B H (xs.take n) (vs.take n)
  | _, _, 0, _ => .nil
  | _, _, _ + 1, .nil => .nil
  | _, _, n + 1, .cons r t => .cons r (RPs.take n t)
theorem RPs.drop : ∀ {xs : List P} {vs : List V} (n : Nat), RPs K ga B H xs vs → RPs K ga B H (xs.drop n) (vs.drop n)
  | _, _, 0, r => r
  | _, _, _ + 1, .nil => .nil
  | _, _, n + 1, .cons _ t => RPs.drop n t
theorem RPs.reverse : ∀ {xs : List P} {vs : List V}, RPs K ga B H xs vs → RPs K ga B H xs.reverse vs.reverse
  | _, _, .nil => .nil
  | _, _, .cons r t => by
    rw [List.reverse_cons, List.reverse_cons]
    exact (RPs.reverse t).append (.cons r .nil)
mutual
theorem RP.keep (k : Keep B H B' H') : ∀ {x : P} {v : V}, RP K ga B H x v → RP K ga B' H' x v
  | _, _, .non => .non
  | _, _, .bl b => .bl b
  | _, _, .int b => .int b
  | _, _, .str b => .str b
  | _, _, .tup h r => .tup (h.keep k) (RPs.keep k r)
  | _, _, .lst h n r => .lst (k _ _ h n nt_lst).1 (k _ _ h n nt_lst).2 (RPs.keep k r)
  | _, _, .dct h n e r => .dct (k _ _ h n nt_dK).1 (k _ _ h n nt_dK).2 e (RPs.keep k r)
  | _, _, .obj h n e r => .obj (k _ _ h n nt_ins).1 (k _ _ h n nt_ins).2 e (RPs.keep k r)
  | _, _, .ty n => .ty n
  | _, _, .glo n => .glo n
theorem RPs.keep (k : Keep B H B' H') : ∀ {x : List P} {v : List V}, RPs K ga B H x v → RPs K ga B' H' x v
  | _, _, .nil => .nil
  | _, _, .cons r t => .cons (RP.keep k r) (RPs.keep k t)
end
/-- with fewer things that may change -/
theorem SqLB.less {a : Addr} {vs : List V} (h : SqLB K B H a vs) (k : ∀ a, B' a → B a) : SqLB K B' H a vs := h.elim (fun x => .inl ⟨x.1, fun z => x.2 (k _ z)⟩) .inr
theorem SqTB.less {a : Addr} {vs : List V} (h : SqTB K B H a vs) (k : ∀ a, B' a → B a) : SqTB K B' H a vs := h.imp (fun h => ⟨h.1, fun z => h.2 (k _ z)⟩) id
mutual
theorem RP.less (k : ∀ a, B' a → B a) : ∀ {x : P} {v : V}, RP K ga B H x v → RP K ga B' H x v
  | _, _, .non => .non
  | _, _, .bl b => .bl b
  | _, _, .int b => .int b
  | _, _, .str b => .str b
  | _, _, .tup h r => .tup (h.less k) (RPs.less k r)
  | _, _, .lst h n r => .lst h (fun z => n (k _ z)) (RPs.less k r)
  | _, _, .dct h n e r => .dct h (fun z => n (k _ z)) e (RPs.less k r)
  | _, _, .obj h n e r => .obj h (fun z => n (k _ z)) e (RPs.less k r)
  | _, _, .ty n => .ty n
  | _, _, .glo n => .glo n
theorem RPs.less (k : ∀ a, B' a → B a) : ∀ {x : List P} {v : List V}, RPs K ga B H x v → RPs K ga B' H x v
  | _, _, .nil => .nil
  | _, _, .cons r t => .cons (RP.less k r) (RPs.less k t)
end
end

/-! ### cells and lambdas -/
/-- the object at c is o -/
def isO (c : Addr) (o : Obj) : HO := .ext fun h => h.get? c = some o
/-- the lambda's function object -/
def lamO (f : Addr) (L : LamD) (cl : List (Str × Addr)) (c : Addr) : HO := .ext fun h => ∃ pm ctv : Value, h.get? f = some (PySem.W.kla_obj "<lambda>" L.qual L.params L.body L.scope cl pm c ctv)
/-- the cell at c holds w: it is tracked, or a cell of the frame at hand -/
def CellR (Cl : Addr → V → Prop) (B : Addr → Prop) (H : Hp) (c : Addr) (w : V) : Prop :=
  (∃ (o : Obj) (u : Value), H c = some (isO c o) ∧ ¬ B c ∧ o.data = .cell (some u) ∧ RelV w u) ∨ Cl c w
def LamR (T : Tb) (Cl : Addr → V → Prop) (B : Addr → Prop) (H : Hp) (l : Nat) (cs : List P) (v : V) : Prop :=
  ∃ (L : LamD) (f c : Addr) (cl : List (Str × Addr)) (ws : List V), v = .ref f ∧ T.lam l = some L ∧ H f = some (lamO f L cl c) ∧ ¬ B f ∧ H c = some (LamX.CodeO c L.qual) ∧ ¬ B c ∧
    RPs T.K T.ga B H cs ws ∧ (∀ y c', cl.lookup y = some c' → y ∈ L.free) ∧ (∀ x y c', cl.lookup x = some c' → cl.lookup y = some c' → x = y) ∧ L.free.length = ws.length ∧ ∀ (j : Nat) (y : Str) (w : V), L.free[j]? = some y → ws[j]? = some w → ∃ c', cl.lookup y = some c' ∧ CellR Cl B H c' w

/-! ### values -/
def Bad (Φ : Addr → Prop) (μ : List Addr) : Addr → Prop := fun a => Φ a ∨ a ∈ μ
mutual
inductive RD (T : Tb) (Cl : Addr → V → Prop) (Φ : Addr → Prop) (μ : List Addr) (H : Hp) : D → V → Prop
  | p {x : P} {v : V} : RP T.K T.ga (Bad Φ μ) H x v → RD T Cl Φ μ H (.p x) v
  | ref {n : Nat} {a : Addr} : μ[n]? = some a → RD T Cl Φ μ H (.ref n) (.ref a)
  | tup {a : Addr} {vs : List V} {xs : List D} : SqTB T.K (Bad Φ μ) H a vs → RDs T Cl Φ μ H xs vs → RD T Cl Φ μ H (.tup xs) (.ref a)
  | lst {a : Addr} {vs : List V} {xs : List D} : H a = some (.lst vs) → ¬ Bad Φ μ a → RDs T Cl Φ μ H xs vs → RD T Cl Φ μ H (.lst xs) (.ref a)
  | scr {a : Addr} {ns : List Int} : SqLB T.K (Bad Φ μ) H a (ns.map V.int) → RD T Cl Φ μ H (.scr ns) (.ref a)
  | lam {l : Nat} {cs : List P} {v : V} : LamR T Cl (Bad Φ μ) H l cs v → RD T Cl Φ μ H (.lam l cs) v
inductive RDs (T : Tb) (Cl : Addr → V → Prop) (Φ : Addr → Prop) (μ : List Addr) (H : Hp) : List D → List V → Prop
  | nil : RDs T Cl Φ μ H [] []
  | cons {x : D} {v : V} {xs : List D} {vs : List V} : RD T Cl Φ μ H x v → RDs T Cl Φ μ H xs vs → RDs T Cl Φ μ H (x :: xs) (v :: vs)
end
/-- from one point to a later one -/
structure Le (μ : List Addr) (H : Hp) (μ' : List Addr) (H' : Hp) : Prop where
  keep : ∀ a o, H a = some o → a ∉ μ → NT o → H' a = some o
  pre : ∃ l, μ' = μ ++ l
  out : ∀ a ∈ μ', a ∈ μ ∨ H a = none
  there : ∀ a, H a ≠ none → H' a ≠ none
section
variable {T : Tb} {Cl Cl' : Addr → V → Prop} {Φ : Addr → Prop} {μ μ' μ'' : List Addr} {H H' H'' : Hp}
theorem Le.refl : Le μ H μ H := ⟨fun _ _ h _ _ => h, ⟨[], by simp⟩, fun _ h => .inl h, fun _ h => h⟩
theorem Le.trans (a : Le μ H μ' H') (b : Le μ' H' μ'' H'') : Le μ H μ'' H'' := by
  refine ⟨fun c o h n t => ?_, ?_, fun c hc => ?_, fun c h => b.there c (a.there c h)⟩
  · refine b.keep c o (a.keep c o h n t) (fun z => ?_) t
    rcases a.out c z with y | y
    · exact n y
    · rw [h] at y; cases y
  · obtain ⟨l, e⟩ := a.pre
    obtain ⟨l', e'⟩ := b.pre
    exact ⟨l ++ l', by rw [e', e, List.append_assoc]⟩
  · rcases b.out c hc with y | y
    · exact a.out c y
    · refine .inr ?_
      cases q : H c with
      | none => rfl
      | some o => exact absurd y (a.there c (by rw [q]; simp))
theorem Le.bad (k : Le μ H μ' H') : Keep (Bad Φ μ) H (Bad Φ μ') H' := fun a o h n t => ⟨k.keep a o h (fun z => n (.inr z)) t, fun z => by
  rcases z with z | z
  · exact n (.inl z)
  · rcases k.out a z with y | y
    · exact n (.inr y)
    · rw [h] at y; cases y⟩
theorem CellR.keep {B B' : Addr → Prop} {c : Addr} {w : V} (h : CellR Cl B H c w) (k : Keep B H B' H') (hc : ∀ c w, Cl c w → Cl' c w) : CellR Cl' B' H' c w := by
  rcases h with ⟨o, u, h1, h2, h3, h4⟩ | h
  · obtain ⟨k1, k2⟩ := k _ _ h1 h2 nt_ext
    exact .inl ⟨o, u, k1, k2, h3, h4⟩
  · exact .inr (hc _ _ h)
theorem LamR.keep {B B' : Addr → Prop} {l : Nat} {cs : List P} {v : V} (h : LamR T Cl B H l cs v) (k : Keep B H B' H') (hc : ∀ c w, Cl c w → Cl' c w) : LamR T Cl' B' H' l cs v := by
  obtain ⟨L, f, c, cl, ws, e, hl, hf, nf, hcd, nc, r, hin, hinj, hlen, hcap⟩ := h
  obtain ⟨k1, k2⟩ := k _ _ hf nf nt_ext
  obtain ⟨k3, k4⟩ := k _ _ hcd nc nt_ext
  refine ⟨L, f, c, cl, ws, e, hl, k1, k2, k3, k4, r.keep k, hin, hinj, hlen, fun j y w h1 h2 => ?_⟩
  obtain ⟨c', e1, e2⟩ := hcap j y w h1 h2
  exact ⟨c', e1, e2.keep k hc⟩
theorem Le.get {n : Nat} {a : Addr} (k : Le μ H μ' H') (h : μ[n]? = some a) : μ'[n]? = some a := by
  obtain ⟨l, e⟩ := k.pre
  rw [e, List.getElem?_append_left (List.getElem?_eq_some_iff.mp h).1]
  exact h
mutual
theorem RD.move {Φ Φ' : Addr → Prop} (k : Keep (Bad Φ μ) H (Bad Φ' μ') H') (g : ∀ (n : Nat) (a : Addr), μ[n]? = some a → μ'[n]? = some a) (hc : ∀ c w, Cl c w → Cl' c w) : ∀ {x : D} {v : V}, RD T Cl Φ μ H x v → RD T Cl' Φ' μ' H' x v
  | _, _, .p h => .p (h.keep k)
  | _, _, .ref h => .ref (g _ _ h)
  | _, _, .tup h r => .tup (h.keep k) (RDs.move k g hc r)
  | _, _, .lst h n r => .lst (k _ _ h n nt_lst).1 (k _ _ h n nt_lst).2 (RDs.move k g hc r)
  | _, _, .scr h => .scr (h.keep k)
  | _, _, .lam h => .lam (h.keep k hc)
theorem RDs.move {Φ Φ' : Addr → Prop} (k : Keep (Bad Φ μ) H (Bad Φ' μ') H') (g : ∀ (n : Nat) (a : Addr), μ[n]? = some a → μ'[n]? = some a) (hc : ∀ c w, Cl c w → Cl' c w) : ∀ {x : List D} {v : List V}, RDs T Cl Φ μ H x v → RDs T Cl' Φ' μ' H' x v
  | _, _, .nil => .nil
  | _, _, .cons r t => .cons (RD.move k g hc r) (RDs.move k g hc t)
end
theorem RD.keepC (k : Le μ H μ' H') (hc : ∀ c w, Cl c w → Cl' c w) {x : D} {v : V} (r : RD T Cl Φ μ H x v) : RD T Cl' Φ μ' H' x v := r.move k.bad (fun _ _ => k.get) hc
theorem RDs.keepC (k : Le μ H μ' H') (hc : ∀ c w, Cl c w → Cl' c w) {x : List D} {v : List V} (r : RDs T Cl Φ μ H x v) : RDs T Cl' Φ μ' H' x v := r.move k.bad (fun _ _ => k.get) hc
theorem RD.keep (k : Le μ H μ' H') {x : D} {v : V} (r : RD T Cl Φ μ H x v) : RD T Cl Φ μ' H' x v := r.keepC k fun _ _ h => h
theorem RDs.keep (k : Le μ H μ' H') {x : List D} {v : List V} (r : RDs T Cl Φ μ H x v) : RDs T Cl Φ μ' H' x v := r.keepC k fun _ _ h => h
theorem RDs.length : ∀ {xs : List D} {vs : List V}, RDs T Cl Φ μ H xs vs → xs.length = vs.length
  | _, _, .nil => rfl
  | _, _, .cons _ t => by rw [List.length_cons, List.length_cons, RDs.length t]
theorem RDs.get : ∀ {xs : List D} {vs : List V} {i : Nat} {x : D}, RDs T Cl Φ μ H xs vs → xs[i]? = some x → ∃ v, vs[i]? = some v ∧ RD T Cl Φ μ H x v
  | _, _, _, _, .nil, e => by simp at e
  | _, _, 0, _, .cons r _, e => by simp at e; subst e; exact ⟨_, rfl, r⟩
  | _, _, i + 1, x, .cons _ t, e => by
    obtain ⟨v, h1, h2⟩ := RDs.get (i := i) (x := x) t (by simpa using e)
    exact ⟨v, by simpa using h1, h2⟩
theorem RDs.getV {xs : List D} {vs : List V} {i : Nat} {v : V} (r : RDs T Cl Φ μ H xs vs) (e : vs[i]? = some v) : ∃ x, xs[i]? = some x ∧ RD T Cl Φ μ H x v := by
  have h : i < xs.length := by rw [r.length]; exact (List.getElem?_eq_some_iff.mp e).1
  obtain ⟨w, h1, h2⟩ := r.get (List.getElem?_eq_getElem h)
  rw [e] at h1; cases h1
  exact ⟨_, List.getElem?_eq_getElem h, h2⟩
theorem RDs.append : ∀ {xs ys : List D} {vs ws : List V}, RDs T Cl Φ μ H xs vs → RDs T Cl Φ μ H ys ws → RDs T Cl Φ μ H (xs ++ ys) (vs ++ ws)
  | _, _, _, _, .nil, s => s
  | _, _, _, _, .cons r t, s => .cons r (RDs.append t s)
theorem RDs.set {x : D} {v : V} (r : RD T Cl Φ μ H x v) : ∀ {xs : List D} {vs : List V} (i : Nat), RDs T Cl Φ μ H xs vs → RDs T Cl Φ μ H (xs.set i x) (vs.set i v)
  | _, _, _, .nil => .nil
  | _, _, 0, .cons _ t => .cons r t
  | _, _, i + 1, .cons q t => .cons q (RDs.set r i t)
/-- pure rows -/
theorem RDs.ofP : ∀ {xs : List P} {vs : List V}, RPs T.K T.ga (Bad Φ μ) H xs vs → RDs T Cl Φ μ H (xs.map D.p) vs
  | _, _, .nil => .nil
  | _, _, .cons r t => .cons (.p r) (RDs.ofP t)
theorem RDs.toP : ∀ {xs : List P} {vs : List V}, RDs T Cl Φ μ H (xs.map D.p) vs → RPs T.K T.ga (Bad Φ μ) H xs vs
  | [], _, .nil => .nil
  | _ :: _, _, .cons (.p r) t => .cons r (RDs.toP t)
end

/-! ### the store -/
def MoR (T : Tb) (Cl : Addr → V → Prop) (Φ : Addr → Prop) (μ : List Addr) (H : Hp) (a : Addr) : MO → Prop
  | .lst xs => ∃ vs, H a = some (.lst vs) ∧ RDs T Cl Φ μ H xs vs
  | .dK kvs => ∃ vs, H a = some (.dK vs) ∧ vs.map Prod.fst = kvs.map Prod.fst ∧ RDs T Cl Φ μ H (kvs.map Prod.snd) (vs.map Prod.snd)
  | .dT kvs => ∃ vs, H a = some (.dT vs) ∧ vs.map Prod.fst = kvs.map Prod.fst ∧ RDs T Cl Φ μ H (kvs.map Prod.snd) (vs.map Prod.snd)
  | .ins g fs => ∃ dx vs, H a = some (.ins (T.ga g) dx vs) ∧ vs.map Prod.fst = fs.map Prod.fst ∧ RDs T Cl Φ μ H (fs.map Prod.snd) (vs.map Prod.snd)
/-- an object that may be changed by others: no table, no code -/
def MuO (o : HO) : Prop := NT o ∧ ∀ c q, o ≠ LamX.CodeO c q
theorem code_is (c : Addr) (q : Str) : ∃ φ, LamX.CodeO c q = .ext φ := ⟨_, rfl⟩
theorem mu_lst {xs : List V} : MuO (.lst xs) := ⟨nt_lst, fun c q z => by obtain ⟨φ, e⟩ := code_is c q; rw [e] at z; cases z⟩
theorem mu_dK {xs} : MuO (.dK xs) := ⟨nt_dK, fun c q z => by obtain ⟨φ, e⟩ := code_is c q; rw [e] at z; cases z⟩
theorem mu_dT {xs} : MuO (.dT xs) := ⟨nt_dT, fun c q z => by obtain ⟨φ, e⟩ := code_is c q; rw [e] at z; cases z⟩
theorem mu_ins {a b xs} : MuO (.ins a b xs) := ⟨nt_ins, fun c q z => by obtain ⟨φ, e⟩ := code_is c q; rw [e] at z; cases z⟩
structure RG (T : Tb) (Cl : Addr → V → Prop) (Φ : Addr → Prop) (μ : List Addr) (H : Hp) (G : Sto) : Prop where
  len : μ.length = G.length
  nd : μ.Nodup
  dis : ∀ a ∈ μ, ¬ Φ a
  phi : ∀ a, Φ a → ∃ o, H a = some o ∧ MuO o
  obj : ∀ (n : Nat) (a : Addr) (mo : MO), μ[n]? = some a → G[n]? = some mo → MoR T Cl Φ μ H a mo
  tabs : LamX.Tabs T.tabs H
  con : ∀ q ∈ T.con, RP T.K T.ga (Bad Φ μ) H q.1 q.2
section
variable {T : Tb} {Cl Cl' : Addr → V → Prop} {Φ : Addr → Prop} {μ μ' μ'' : List Addr} {H H' H'' : Hp} {G : Sto} {a : Addr}
theorem MoR.there {mo : MO} (h : MoR T Cl Φ μ H a mo) : H a ≠ none := by
  cases mo with
  | lst xs => obtain ⟨_, e, _⟩ := h; rw [e]; simp
  | dK xs => obtain ⟨_, e, _⟩ := h; rw [e]; simp
  | dT xs => obtain ⟨_, e, _⟩ := h; rw [e]; simp
  | ins g xs => obtain ⟨_, _, e, _⟩ := h; rw [e]; simp
theorem MoR.notTbl {mo : MO} (h : MoR T Cl Φ μ H a mo) {ps} : H a ≠ some (.tbl ps) := by
  cases mo with
  | lst xs => obtain ⟨_, e, _⟩ := h; rw [e]; simp
  | dK xs => obtain ⟨_, e, _⟩ := h; rw [e]; simp
  | dT xs => obtain ⟨_, e, _⟩ := h; rw [e]; simp
  | ins g xs => obtain ⟨_, _, e, _⟩ := h; rw [e]; simp
theorem MoR.mu {mo : MO} (h : MoR T Cl Φ μ H a mo) : ∃ o, H a = some o ∧ MuO o := by
  cases mo with
  | lst xs => obtain ⟨_, e, _⟩ := h; exact ⟨_, e, mu_lst⟩
  | dK xs => obtain ⟨_, e, _⟩ := h; exact ⟨_, e, mu_dK⟩
  | dT xs => obtain ⟨_, e, _⟩ := h; exact ⟨_, e, mu_dT⟩
  | ins g xs => obtain ⟨_, _, e, _⟩ := h; exact ⟨_, e, mu_ins⟩
theorem MoR.move {Φ' : Addr → Prop} {mo : MO} (k : Keep (Bad Φ μ) H (Bad Φ' μ') H') (g : ∀ (n : Nat) (a : Addr), μ[n]? = some a → μ'[n]? = some a) (hc : ∀ c w, Cl c w → Cl' c w) (e : H' a = H a) (h : MoR T Cl Φ μ H a mo) : MoR T Cl' Φ' μ' H' a mo := by
  cases mo with
  | lst xs => obtain ⟨vs, e1, r⟩ := h; exact ⟨vs, e.trans e1, r.move k g hc⟩
  | dK xs => obtain ⟨vs, e1, e2, r⟩ := h; exact ⟨vs, e.trans e1, e2, r.move k g hc⟩
  | dT xs => obtain ⟨vs, e1, e2, r⟩ := h; exact ⟨vs, e.trans e1, e2, r.move k g hc⟩
  | ins g' xs => obtain ⟨dx, vs, e1, e2, r⟩ := h; exact ⟨dx, vs, e.trans e1, e2, r.move k g hc⟩
theorem MoR.keep {mo : MO} (k : Le μ H μ' H') (e : H' a = H a) (h : MoR T Cl Φ μ H a mo) : MoR T Cl Φ μ' H' a mo := h.move k.bad (fun _ _ => k.get) (fun _ _ h => h) e
theorem RG.at (g : RG T Cl Φ μ H G) (h : a ∈ μ) : ∃ (n : Nat) (mo : MO), μ[n]? = some a ∧ G[n]? = some mo ∧ MoR T Cl Φ μ H a mo := by
  obtain ⟨n, hn⟩ := List.getElem?_of_mem h
  have hl : n < G.length := by rw [← g.len]; exact (List.getElem?_eq_some_iff.mp hn).1
  exact ⟨n, G[n], hn, List.getElem?_eq_getElem hl, g.obj n a _ hn (List.getElem?_eq_getElem hl)⟩
theorem RG.muB (g : RG T Cl Φ μ H G) (h : Bad Φ μ a) : ∃ o, H a = some o ∧ MuO o := h.elim (g.phi a) fun h => by
  obtain ⟨n, mo, _, _, m⟩ := g.at h
  exact m.mu
theorem RG.mem (g : RG T Cl Φ μ H G) (h : a ∈ μ) : H a ≠ none := by
  obtain ⟨n, mo, _, _, m⟩ := g.at h
  exact m.there
theorem RG.phi0 (g : RG T Cl Φ μ H G) (h : Φ a) : H a ≠ none := by
  obtain ⟨o, e, _⟩ := g.phi a h
  rw [e]; simp
theorem RG.bad (g : RG T Cl Φ μ H G) (h : H a = none) : ¬ Bad Φ μ a := fun z => by
  rcases z with z | z
  · exact g.phi0 z h
  · exact g.mem z h
theorem RG.look (g : RG T Cl Φ μ H G) {n : Nat} {mo : MO} (h : μ[n]? = some a) (e : G[n]? = some mo) : MoR T Cl Φ μ H a mo := g.obj n a mo h e
/-- a new thing that no one changes -/
theorem le_new {p : Addr} {o : HO} (hp : H p = none) : Le μ H μ (upd H p o) :=
  ⟨fun a u h _ _ => by rw [upd_ne (ne_of_none h hp)]; exact h, ⟨[], by simp⟩, fun _ h => .inl h, fun a h => by
    by_cases e : a = p
    · rw [e, upd_same]; simp
    · rw [upd_ne e]; exact h⟩
theorem tabs_new {tabs : List (Addr × Str)} {p : Addr} {o : HO} (hp : H p = none) (h : LamX.Tabs tabs H) : LamX.Tabs tabs (upd H p o) := h.ext fun b u e => by rw [upd_ne (ne_of_none e hp)]; exact e
theorem RG.new (g : RG T Cl Φ μ H G) {p : Addr} {o : HO} (hp : H p = none) : RG T Cl Φ μ (upd H p o) G :=
  ⟨g.len, g.nd, g.dis, fun a h => let ⟨o, e, m⟩ := g.phi a h; ⟨o, by rw [upd_ne (ne_of_none e hp)]; exact e, m⟩, fun n a mo h1 h2 => (g.obj n a mo h1 h2).keep (le_new hp) (upd_ne (fun z => (g.obj n a mo h1 h2).there (by rw [z]; exact hp))), tabs_new hp g.tabs, fun q hq => (g.con q hq).keep (le_new (μ := μ) hp).bad⟩
/-- the lambda's cells seen otherwise -/
theorem MoR.cells {mo : MO} (hc : ∀ c w, Cl c w → Cl' c w) (h : MoR T Cl Φ μ H a mo) : MoR T Cl' Φ μ H a mo := by
  cases mo with
  | lst xs => obtain ⟨vs, e1, r⟩ := h; exact ⟨vs, e1, r.keepC .refl hc⟩
  | dK xs => obtain ⟨vs, e1, e2, r⟩ := h; exact ⟨vs, e1, e2, r.keepC .refl hc⟩
  | dT xs => obtain ⟨vs, e1, e2, r⟩ := h; exact ⟨vs, e1, e2, r.keepC .refl hc⟩
  | ins g xs => obtain ⟨dx, vs, e1, e2, r⟩ := h; exact ⟨dx, vs, e1, e2, r.keepC .refl hc⟩
theorem RG.cells (hc : ∀ c w, Cl c w → Cl' c w) (g : RG T Cl Φ μ H G) : RG T Cl' Φ μ H G := ⟨g.len, g.nd, g.dis, g.phi, fun n a mo h1 h2 => (g.obj n a mo h1 h2).cells hc, g.tabs, g.con⟩
end
end DL

set_option Elab.async false
set_option linter.all false
set_option maxRecDepth 100000
set_option maxHeartbeats 4000000
/-! DL 2: outcomes; what an expression of the text does, told of D. -/
namespace DL
open PySem PySem.Spec PyProof.Rows L2

/-- how the cells of the frame at hand are seen: which of them a lambda has captured; which slots may be at hand -/
structure CF where
  c : Ro → Slots → Addr → V → Prop
  ok : Ro → Prop
/-- the cells of the frame at hand that a lambda has captured -/
def ClX (X : Cx) (ρ : Ro) (σ : Slots) : Addr → V → Prop := fun c w =>
  ∃ (i : Nat) (x : Str), i ∈ ρ.z ∧ X.N[i]? = some x ∧ (X.env.kindOf x = some .cell ∨ X.env.kindOf x = some .free) ∧ X.env.cells.lookup x = some c ∧ σ[i]? = some (some w)
def CX1 (X : Cx) : CF := ⟨ClX X, fun _ => True⟩
/-- no lambda has captured anything -/
def CB : CF := ⟨fun _ _ _ _ => False, fun ρ => ρ.z = []⟩
theorem clX_nil {X : Cx} {ρ : Ro} {σ : Slots} (h : ρ.z = []) : ClX X ρ σ = fun _ _ => False := by
  funext c w
  refine propext ⟨fun ⟨i, x, hi, _⟩ => ?_, False.elim⟩
  rw [h] at hi
  cases hi
structure RE (T : Tb) (Cl : Addr → V → Prop) (Φ : Addr → Prop) (μ : List Addr) (H : Hp) (ρ : Ro) (σ : Slots) : Prop where
  len : ρ.v.length = σ.length
  val : ∀ (i : Nat) (d : D), ρ.v[i]? = some (some d) → ∃ v, σ[i]? = some (some v) ∧ RD T Cl Φ μ H d v
theorem RE.keep {T : Tb} {Cl : Addr → V → Prop} {Φ : Addr → Prop} {μ μ' : List Addr} {H H' : Hp} {ρ : Ro} {σ : Slots} (r : RE T Cl Φ μ H ρ σ) (k : Le μ H μ' H') : RE T Cl Φ μ' H' ρ σ :=
  ⟨r.len, fun i d h => let ⟨v, h1, h2⟩ := r.val i d h; ⟨v, h1, h2.keep k⟩⟩
structure Rel (C : CF) (T : Tb) (Φ : Addr → Prop) (μ : List Addr) (H : Hp) (σ : Slots) (ρ : Ro) (G : Sto) : Prop where
  g : RG T (C.c ρ σ) Φ μ H G
  e : RE T (C.c ρ σ) Φ μ H ρ σ
  k : C.ok ρ
/-- an own error as it lies -/
def ExR (T : Tb) (Φ : Addr → Prop) (μ : List Addr) (H : Hp) (x : Exn) (cls : Value) (dx : Option Addr) : Prop :=
  cls = .ref (T.ga x.g) ∧ ((x.fs = [] ∧ dx = none) ∨ ∃ (d : Addr) (vs : List (Str × V)), dx = some d ∧ H d = some (.xd vs) ∧ ¬ Bad Φ μ d ∧ vs.map Prod.fst = x.fs.map Prod.fst ∧ RPs T.K T.ga (Bad Φ μ) H (x.fs.map Prod.snd) (vs.map Prod.snd))
/-- an outcome and what is wanted of it -/
def Out (C : CF) (T : Tb) (W : WX) (Φ : Addr → Prop) (ρ : Ro) (σ : Slots) {α β : Type} (R : List Addr → Hp → α → β → Prop) (μ : List Addr) (H : Hp) (r : Res α) (Q : β → Hp → Prop) : Prop :=
  match r with
  | .ok a G' => ∀ μ' H' b, Le μ H μ' H' → RG T (C.c ρ σ) Φ μ' H' G' → R μ' H' a b → Q b H'
  | .exc x G' => ∀ μ' H' cls dx, Le μ H μ' H' → RG T (C.c ρ σ) Φ μ' H' G' → ExR T Φ μ' H' x cls dx → W cls dx σ H'
  | .stuck => False
section
variable {X : Cx} {C : CF} {T : Tb} {W : WX} {Φ : Addr → Prop} {ρ : Ro} {σ : Slots} {α β γ δ : Type} {R : List Addr → Hp → α → β → Prop} {R' : List Addr → Hp → γ → δ → Prop} {μ μ' : List Addr} {H H' : Hp} {r : Res α} {Q Q' : β → Hp → Prop}
theorem Out.later (k : Le μ H μ' H') (h : Out C T W Φ ρ σ R μ H r Q) : Out C T W Φ ρ σ R μ' H' r Q := by
  cases r with
  | ok a G' => exact fun μ2 H2 b k2 => h μ2 H2 b (k.trans k2)
  | exc x G' => exact fun μ2 H2 c d k2 => h μ2 H2 c d (k.trans k2)
  | stuck => exact h
/-- first r, then k -/
theorem Out.bind {k : α → Sto → Res γ} {Q : δ → Hp → Prop} (h : Out C T W Φ ρ σ R' μ H (r.bind k) Q) (hq : ∀ (b : β) (H1 : Hp), (∃ μ1 G1 a, Le μ H μ1 H1 ∧ RG T (C.c ρ σ) Φ μ1 H1 G1 ∧ R μ1 H1 a b ∧ Out C T W Φ ρ σ R' μ1 H1 (k a G1) Q) → Q' b H1) :
    Out C T W Φ ρ σ R μ H r Q' := by
  cases r with
  | ok a G1 => exact fun μ1 H1 b k1 g1 r1 => hq b H1 ⟨μ1, G1, a, k1, g1, r1, h.later k1⟩
  | exc x G1 => exact h
  | stuck => exact h
theorem Out.mono (h : Out C T W Φ ρ σ R μ H r Q) (hq : ∀ b H1, Q b H1 → Q' b H1) : Out C T W Φ ρ σ R μ H r Q' := by
  cases r with
  | ok a G1 => exact fun μ1 H1 b k1 g1 r1 => hq b H1 (h μ1 H1 b k1 g1 r1)
  | exc x G1 => exact h
  | stuck => exact h
end
abbrev EF := Ro → Sto → Res D
abbrev TF := Ro → Sto → Res Bool
abbrev AF := Ro → Sto → Res (List D)
def eOf (C : CF) (T : Tb) (W : WX) (f : EF) : TE := fun σ H Q => ∃ Φ μ ρ G, Rel C T Φ μ H σ ρ G ∧ Out C T W Φ ρ σ (RD T (C.c ρ σ) Φ) μ H (f ρ G) Q
def bOf (C : CF) (T : Tb) (W : WX) (f : TF) : TT := fun σ H Q => ∃ Φ μ ρ G, Rel C T Φ μ H σ ρ G ∧ Out C T W Φ ρ σ (fun _ _ (a b : Bool) => a = b) μ H (f ρ G) Q
def aOf (C : CF) (T : Tb) (W : WX) (f : AF) : TA := fun σ H Q => ∃ Φ μ ρ G, Rel C T Φ μ H σ ρ G ∧ Out C T W Φ ρ σ (RDs T (C.c ρ σ) Φ) μ H (f ρ G) Q
theorem Rel.later {C : CF} {T : Tb} {Φ : Addr → Prop} {μ μ' : List Addr} {H H' : Hp} {σ : Slots} {ρ : Ro} {G G' : Sto} (r : Rel C T Φ μ H σ ρ G) (k : Le μ H μ' H') (g : RG T (C.c ρ σ) Φ μ' H' G') : Rel C T Φ μ' H' σ ρ G' := ⟨g, r.e.keep k, r.k⟩

section
variable {X : Cx}
theorem peImp {e : Expr} {t t' : TE} (h : PE X e t) (k : ∀ σ H Q, t' σ H Q → t σ H Q) : PE X e t' := ⟨fun pins s σ H Q I hw => h.run pins s σ H Q I (k _ _ _ hw)⟩
theorem ptImp {e : Expr} {t t' : TT} (h : PT X e t) (k : ∀ σ H Q, t' σ H Q → t σ H Q) : PT X e t' := ⟨fun pins s σ H Q I hw => h.run pins s σ H Q I (k _ _ _ hw)⟩
theorem pwImp {e : Expr} {t t' : TT} (h : PW X e t) (k : ∀ σ H Q, t' σ H Q → t σ H Q) : PW X e t' := ⟨fun wh pins s σ H Q I hw => h.run wh pins s σ H Q I (k _ _ _ hw)⟩
theorem paImp {e : List Expr} {t t' : TA} (h : PA X e t) (k : ∀ σ H Q, t' σ H Q → t σ H Q) : PA X e t' := ⟨fun pos pins s σ H Q I hw => h.run pos pins s σ H Q I (k _ _ _ hw)⟩
theorem psImp {e : Stmt} {t t' : TS} (h : PS X e t) (k : ∀ σ H Q, t' σ H Q → t σ H Q) : PS X e t' := ⟨fun pins s σ H Q I hw => h.run pins s σ H Q I (k _ _ _ hw)⟩
theorem pssImp {e : List Stmt} {t t' : TS} (h : PSs X e t) (k : ∀ σ H Q, t' σ H Q → t σ H Q) : PSs X e t' := ⟨fun pins s σ H Q I hw => h.run pins s σ H Q I (k _ _ _ hw)⟩
theorem peStuck {C : CF} {e : Expr} {T : Tb} {W : WX} {f : EF} (h : ∀ ρ G, f ρ G = .stuck) : PE X e (eOf C T W f) := ⟨fun pins s σ H Q I hw => by
  obtain ⟨Φ, μ, ρ, G, _, o⟩ := hw
  rw [h] at o
  exact o.elim⟩
end

/-! ### values that are there -/
def fVar (i : Nat) : EF := fun ρ G => Res.of ((ρ.v[i]?).bind id) G
def fP (x : P) : EF := fun _ G => .ok (.p x) G
section
variable {X : Cx} {C : CF} {T : Tb} {W : WX}
theorem re_var {i : Nat} {x : Str} {pos : Pos} (hN : X.N[i]? = some x) (hv : Vis X.env.scope x) (hd : (x == ("__debug__" : Str)) = false) (hcd : (x == ("__classdict__" : Str)) = false) : PE X (.Name x pos) (eOf C T W (fVar i)) :=
  peImp (pe_var hN hv hd hcd) fun σ H Q ⟨Φ, μ, ρ, G, r, o⟩ => by
    unfold fVar at o
    cases e : ρ.v[i]? with
    | none => rw [e] at o; exact o.elim
    | some od =>
      cases od with
      | none => rw [e] at o; exact o.elim
      | some d =>
        rw [e] at o
        obtain ⟨v, h1, h2⟩ := r.e.val i d e
        exact ⟨v, h1, o μ H v .refl r.g h2⟩
theorem re_const {x : P} {v : V} {e : Expr} (h : PE X e (tC v)) (hr : ∀ B H, RP T.K T.ga B H x v) : PE X e (eOf C T W (fP x)) :=
  peImp h fun σ H Q ⟨Φ, μ, ρ, G, r, o⟩ => o μ H v .refl r.g (.p (hr _ _))
theorem re_int {i j pos} : PE X (.Constant (.int i) j pos) (eOf C T W (fP (.int i))) := re_const pe_int fun _ _ => .int i
theorem re_bl {i j pos} : PE X (.Constant (.bool i) j pos) (eOf C T W (fP (.bl i))) := re_const pe_bl fun _ _ => .bl i
theorem re_non {j pos} : PE X (.Constant .none j pos) (eOf C T W (fP .non)) := re_const pe_non fun _ _ => .non
theorem re_str {i j pos} : PE X (.Constant (.str i) j pos) (eOf C T W (fP (.str i))) := re_const pe_str fun _ _ => .str i
end

/-! ### operators, by any rule of the hand layer -/
/-- any rule that serves f -/
def anyO (X : Cx) (f : Value → Value → Sem Value) : R2 := fun x y H Q => ∃ r, OpR X f r ∧ r x y H Q
theorem any_op (X : Cx) (f : Value → Value → Sem Value) : OpR X f (anyO X f) := fun pins s σ H x y v u Q I rx ry ⟨r, h, q⟩ => h pins s σ H x y v u Q I rx ry q
def anyU (X : Cx) (f : Value → Sem Value) : V → Hp → VK → Prop := fun x H Q => ∃ r, UnR X f r ∧ r x H Q
theorem any_un (X : Cx) (f : Value → Sem Value) : UnR X f (anyU X f) := fun pins s σ H x v Q I rx ⟨r, h, q⟩ => h pins s σ H x v Q I rx q
def anyI (X : Cx) : R2 := fun x y H Q => ∃ r, IxR X r ∧ r x y H Q
theorem any_ix (X : Cx) : IxR X (anyI X) := fun va sl pins s σ H x y v u Q I rx ry ⟨r, h, q⟩ => h va sl pins s σ H x y v u Q I rx ry q
def anyC (X : Cx) (f : Value) : List V → Hp → VK → Prop := fun xs H Q => ∃ r, CallR X f r ∧ r xs H Q
theorem any_call (X : Cx) (f : Value) : CallR X f (anyC X f) := fun pins s σ H xs us Q I rx ⟨r, h, q⟩ => h pins s σ H xs us Q I rx q
/-- what a two-place operation makes of values -/
abbrev F2 := Sto → D → D → Option D
def OpD (X : Cx) (T : Tb) (r : R2) (g : F2) : Prop := ∀ (Cl : Addr → V → Prop) (Φ : Addr → Prop) (μ : List Addr) (H : Hp) (G : Sto) (x y d : D) (vx vy : V) (Q : VK), RG T Cl Φ μ H G → RD T Cl Φ μ H x vx → RD T Cl Φ μ H y vy → g G x y = some d →
  (∀ μ' H' v, Le μ H μ' H' → RG T Cl Φ μ' H' G → RD T Cl Φ μ' H' d v → Q v H') → r vx vy H Q
abbrev F1 := Sto → D → Option D
def UnD (X : Cx) (T : Tb) (r : V → Hp → VK → Prop) (g : F1) : Prop := ∀ (Cl : Addr → V → Prop) (Φ : Addr → Prop) (μ : List Addr) (H : Hp) (G : Sto) (x d : D) (vx : V) (Q : VK), RG T Cl Φ μ H G → RD T Cl Φ μ H x vx → g G x = some d →
  (∀ μ' H' v, Le μ H μ' H' → RG T Cl Φ μ' H' G → RD T Cl Φ μ' H' d v → Q v H') → r vx H Q
def f2 (g : F2) (fa fb : EF) : EF := fun ρ G => (fa ρ G).bind fun x G1 => (fb ρ G1).bind fun y G2 => Res.of (g G2 x y) G2
def f1 (g : F1) (fa : EF) : EF := fun ρ G => (fa ρ G).bind fun x G1 => Res.of (g G1 x) G1
section
variable {X : Cx} {C : CF} {T : Tb} {W : WX} {a b : Expr} {fa fb : EF} {pos : Pos}
theorem eOf_f2 {g : F2} {r : R2} (h : OpD X T r g) {σ : Slots} {H : Hp} {Q : VK} (hw : eOf C T W (f2 g fa fb) σ H Q) : tOp r (eOf C T W fa) (eOf C T W fb) σ H Q := by
  obtain ⟨Φ, μ, ρ, G, r0, o⟩ := hw
  refine ⟨Φ, μ, ρ, G, r0, o.bind fun v H1 ⟨μ1, G1, x, k1, g1, rx, o1⟩ => ?_⟩
  refine ⟨Φ, μ1, ρ, G1, r0.later k1 g1, o1.bind fun u H2 ⟨μ2, G2, y, k2, g2, ry, o2⟩ => ?_⟩
  cases e : g G2 x y with
  | none => rw [e] at o2; exact o2.elim
  | some d =>
    rw [e] at o2
    exact h _ Φ μ2 H2 G2 x y d v u Q g2 (rx.keep k2) ry e fun μ3 H3 w k3 g3 r3 => o2 μ3 H3 w k3 g3 r3
theorem eOf_f1 {g : F1} {r : V → Hp → VK → Prop} (h : UnD X T r g) {σ : Slots} {H : Hp} {Q : VK} (hw : eOf C T W (f1 g fa) σ H Q) : tUn r (eOf C T W fa) σ H Q := by
  obtain ⟨Φ, μ, ρ, G, r0, o⟩ := hw
  refine ⟨Φ, μ, ρ, G, r0, o.bind fun v H1 ⟨μ1, G1, x, k1, g1, rx, o1⟩ => ?_⟩
  cases e : g G1 x with
  | none => rw [e] at o1; exact o1.elim
  | some d =>
    rw [e] at o1
    exact h _ Φ μ1 H1 G1 x d v Q g1 rx e fun μ3 H3 w k3 g3 r3 => o1 μ3 H3 w k3 g3 r3
theorem re_bin {op : Operator} {g : F2} (h : OpD X T (anyO X (binaryOp op)) g) (ha : PE X a (eOf C T W fa)) (hb : PE X b (eOf C T W fb)) : PE X (.BinOp a op b pos) (eOf C T W (f2 g fa fb)) :=
  peImp (pe_op (any_op X _) ha hb) fun _ _ _ hw => eOf_f2 h hw
theorem re_un {op : UnaryOp} {g : F1} (h : UnD X T (anyU X (unaryOp op)) g) (ha : PE X a (eOf C T W fa)) : PE X (.UnaryOp op a pos) (eOf C T W (f1 g fa)) :=
  peImp (pe_un (any_un X _) ha) fun _ _ _ hw => eOf_f1 h hw
theorem re_cmp {op : CmpOp} {g : F2} (h : OpD X T (anyO X (compareOp op)) g) (hm : behindInMarks op b = false) (ha : PE X a (eOf C T W fa)) (hb : PE X b (eOf C T W fb)) : PE X (.Compare a [op] [b] pos) (eOf C T W (f2 g fa fb)) :=
  peImp (pe_cmpR (any_op X _) ha hb hm) fun _ _ _ hw => eOf_f2 h hw
theorem re_ix {g : F2} (h : OpD X T (anyI X) g) (hs : PlainIx b) (ha : PE X a (eOf C T W fa)) (hb : PE X b (eOf C T W fb)) : PE X (.Subscript a b pos) (eOf C T W (f2 g fa fb)) :=
  peImp (pe_ix (any_ix X) ha hb hs) fun _ _ _ hw => eOf_f2 h hw
end

/-! ### tests -/
/-- a value that is True or False, as a test -/
def fTest (f : EF) : TF := fun ρ G => (f ρ G).bind fun x G1 => match x with
  | .p (.bl b) => .ok b G1
  | _ => .stuck
/-- the truth of a value -/
def truD (G : Sto) : D → Option Bool
  | .p .non => some false
  | .p (.bl b) => some b
  | .p (.int i) => some (i != 0)
  | .p (.tup xs) => some (!xs.isEmpty)
  | .p (.lst xs) => some (!xs.isEmpty)
  | .tup xs => some (!xs.isEmpty)
  | .lst xs => some (!xs.isEmpty)
  | .ref n => match G[n]? with
    | some (.lst xs) => some (!xs.isEmpty)
    | _ => none
  | _ => none
def fTru (f : EF) : TF := fun ρ G => (f ρ G).bind fun x G1 => Res.of (truD G1 x) G1
def fNot (f : TF) : TF := fun ρ G => (f ρ G).bind fun b G1 => .ok (!b) G1
def fAnd (f g : TF) : TF := fun ρ G => (f ρ G).bind fun b G1 => if b = true then g ρ G1 else .ok false G1
def fOr (f g : TF) : TF := fun ρ G => (f ρ G).bind fun b G1 => if b = true then .ok true G1 else g ρ G1
/-- as values -/
def fAndV (f g : EF) : EF := fun ρ G => (f ρ G).bind fun x G1 => match x with
  | .p (.bl b) => if b = true then g ρ G1 else .ok (.p (.bl false)) G1
  | _ => .stuck
def fOrV (f g : EF) : EF := fun ρ G => (f ρ G).bind fun x G1 => match x with
  | .p (.bl b) => if b = true then .ok (.p (.bl true)) G1 else g ρ G1
  | _ => .stuck
def fNotV (f : TF) : EF := fun ρ G => (f ρ G).bind fun b G1 => .ok (.p (.bl (!b))) G1
def fIf (c : TF) (f g : EF) : EF := fun ρ G => (c ρ G).bind fun b G1 => if b = true then f ρ G1 else g ρ G1
section
variable {X : Cx} {C : CF} {T : Tb} {W : WX} {a b c : Expr} {fa fb : EF} {fc fd : TF} {pos : Pos} {rest : List Expr}
theorem empty_eq {α β : Type} {xs : List α} {ys : List β} (h : xs.length = ys.length) : (!ys.isEmpty) = !xs.isEmpty := by
  cases xs <;> cases ys <;> simp_all
theorem tru_d {Cl : Addr → V → Prop} {Φ : Addr → Prop} {μ : List Addr} {H : Hp} {G : Sto} {x : D} {v : V} {b : Bool} (g : RG T Cl Φ μ H G) (r : RD T Cl Φ μ H x v) (e : truD G x = some b) : TruV T.K v H b := by
  cases r with
  | p r =>
    cases r with
    | non => simp [truD] at e; exact e
    | bl c => simp [truD] at e; exact e.symm
    | int i => simp [truD] at e; exact e.symm
    | str i => simp [truD] at e
    | dct _ _ _ _ => simp [truD] at e
    | obj _ _ _ _ => simp [truD] at e
    | ty _ => simp [truD] at e
    | glo _ => simp [truD] at e
    | tup h r => simp only [truD, Option.some.injEq] at e; exact .inr (.inl ⟨_, h.to, by rw [← e]; exact (empty_eq r.length).symm⟩)
    | lst h n r => simp only [truD, Option.some.injEq] at e; exact .inl ⟨_, .of h, by rw [← e]; exact (empty_eq r.length).symm⟩
  | tup h r => simp only [truD, Option.some.injEq] at e; exact .inr (.inl ⟨_, h.to, by rw [← e]; exact (empty_eq r.length).symm⟩)
  | lst h n r => simp only [truD, Option.some.injEq] at e; exact .inl ⟨_, .of h, by rw [← e]; exact (empty_eq r.length).symm⟩
  | scr h => simp [truD] at e
  | lam h => simp [truD] at e
  | @ref n a h =>
    simp only [truD] at e
    split at e
    · rename_i xs hx
      cases e
      obtain ⟨vs, h1, h2⟩ := g.look h hx
      exact .inl ⟨vs, .of h1, (empty_eq h2.length).symm⟩
    · cases e
theorem rt_test {t : TE} (h : PT X a (tTest t)) (ht : ∀ σ H Q, eOf C T W fa σ H Q → t σ H Q) : PT X a (bOf C T W (fTest fa)) :=
  ptImp h fun σ H Q ⟨Φ, μ, ρ, G, r0, o⟩ => ht _ _ _ ⟨Φ, μ, ρ, G, r0, o.bind fun v H1 ⟨μ1, G1, x, k1, g1, rx, o1⟩ => by
    cases rx with
    | p rx => cases rx with
      | bl d => exact ⟨d, rfl, o1 μ1 H1 d .refl g1 rfl⟩
      | _ => exact o1.elim
    | _ => exact o1.elim⟩
theorem rt_cmp {op : CmpOp} {g : F2} (h : OpD X T (anyO X (compareOp op)) g) (hm : behindInMarks op b = false) (ha : PE X a (eOf C T W fa)) (hb : PE X b (eOf C T W fb)) : PT X (.Compare a [op] [b] pos) (bOf C T W (fTest (f2 g fa fb))) :=
  rt_test (pt_cmpR (any_op X _) ha hb hm) fun _ _ _ hw => eOf_f2 h hw
theorem rt_tru (hK : T.K = X.K) (ha : PE X a (eOf C T W fa)) (he : ∀ whole, isTrue a X.env whole = (do let v ← whole; standAt a.pos; holding [v] (truthy v))) : PT X a (bOf C T W (fTru fa)) :=
  ptImp (pt_truth ha he) fun σ H Q ⟨Φ, μ, ρ, G, r0, o⟩ => ⟨Φ, μ, ρ, G, r0, o.bind fun v H1 ⟨μ1, G1, x, k1, g1, rx, o1⟩ => by
    cases e : truD G1 x with
    | none => rw [e] at o1; exact o1.elim
    | some d =>
      rw [e] at o1
      exact ⟨d, hK ▸ tru_d g1 rx e, o1 μ1 H1 d .refl g1 rfl⟩⟩
theorem rt_not (h : PT X a (bOf C T W fc)) : PT X (.UnaryOp .Not a pos) (bOf C T W (fNot fc)) :=
  ptImp (pt_not h) fun σ H Q ⟨Φ, μ, ρ, G, r0, o⟩ => ⟨Φ, μ, ρ, G, r0, o.bind fun v H1 ⟨μ1, G1, x, k1, g1, rx, o1⟩ => by
    subst rx
    exact o1 μ1 H1 _ .refl g1 rfl⟩
theorem rw_and1 (h : PT X a (bOf C T W fc)) : PW X (.BoolOp .And [a] pos) (bOf C T W fc) := pw_and1 h
theorem rw_or1 (h : PT X a (bOf C T W fc)) : PW X (.BoolOp .Or [a] pos) (bOf C T W fc) := pw_or1 h
theorem rw_and (h : PT X a (bOf C T W fc)) (h2 : PW X (.BoolOp .And (b :: rest) pos) (bOf C T W fd)) : PW X (.BoolOp .And (a :: b :: rest) pos) (bOf C T W (fAnd fc fd)) :=
  pwImp (pw_and h h2) fun σ H Q ⟨Φ, μ, ρ, G, r0, o⟩ => ⟨Φ, μ, ρ, G, r0, o.bind fun v H1 ⟨μ1, G1, x, k1, g1, rx, o1⟩ => by
    subst rx
    cases x with
    | true => exact ⟨Φ, μ1, ρ, G1, r0.later k1 g1, o1⟩
    | false => exact o1 μ1 H1 _ .refl g1 rfl⟩
theorem rw_or (h : PT X a (bOf C T W fc)) (h2 : PW X (.BoolOp .Or (b :: rest) pos) (bOf C T W fd)) : PW X (.BoolOp .Or (a :: b :: rest) pos) (bOf C T W (fOr fc fd)) :=
  pwImp (pw_or h h2) fun σ H Q ⟨Φ, μ, ρ, G, r0, o⟩ => ⟨Φ, μ, ρ, G, r0, o.bind fun v H1 ⟨μ1, G1, x, k1, g1, rx, o1⟩ => by
    subst rx
    cases x with
    | false => exact ⟨Φ, μ1, ρ, G1, r0.later k1 g1, o1⟩
    | true => exact o1 μ1 H1 _ .refl g1 rfl⟩
theorem re_one {op} (h : PE X a (eOf C T W fa)) : PE X (.BoolOp op [a] pos) (eOf C T W fa) := pe_one h
theorem re_and (h : PE X a (eOf C T W fa)) (h2 : PE X (.BoolOp .And (b :: rest) pos) (eOf C T W fb)) : PE X (.BoolOp .And (a :: b :: rest) pos) (eOf C T W (fAndV fa fb)) :=
  peImp (pe_and h h2) fun σ H Q ⟨Φ, μ, ρ, G, r0, o⟩ => ⟨Φ, μ, ρ, G, r0, o.bind fun v H1 ⟨μ1, G1, x, k1, g1, rx, o1⟩ => by
    cases rx with
    | p rx => cases rx with
      | bl d =>
        refine ⟨d, rfl, ?_⟩
        cases d with
        | true => exact ⟨Φ, μ1, ρ, G1, r0.later k1 g1, o1⟩
        | false => exact o1 μ1 H1 _ .refl g1 (.p (.bl _))
      | _ => exact o1.elim
    | _ => exact o1.elim⟩
theorem re_or (h : PE X a (eOf C T W fa)) (h2 : PE X (.BoolOp .Or (b :: rest) pos) (eOf C T W fb)) : PE X (.BoolOp .Or (a :: b :: rest) pos) (eOf C T W (fOrV fa fb)) :=
  peImp (pe_or h h2) fun σ H Q ⟨Φ, μ, ρ, G, r0, o⟩ => ⟨Φ, μ, ρ, G, r0, o.bind fun v H1 ⟨μ1, G1, x, k1, g1, rx, o1⟩ => by
    cases rx with
    | p rx => cases rx with
      | bl d =>
        refine ⟨d, rfl, ?_⟩
        cases d with
        | false => exact ⟨Φ, μ1, ρ, G1, r0.later k1 g1, o1⟩
        | true => exact o1 μ1 H1 _ .refl g1 (.p (.bl _))
      | _ => exact o1.elim
    | _ => exact o1.elim⟩
theorem re_ife (hc : PT X c (bOf C T W fc)) (ha : PE X a (eOf C T W fa)) (hb : PE X b (eOf C T W fb)) : PE X (.IfExp c a b pos) (eOf C T W (fIf fc fa fb)) :=
  peImp (pe_ifExp hc ha hb) fun σ H Q ⟨Φ, μ, ρ, G, r0, o⟩ => ⟨Φ, μ, ρ, G, r0, o.bind fun v H1 ⟨μ1, G1, x, k1, g1, rx, o1⟩ => by
    subst rx
    cases x with
    | true => exact ⟨Φ, μ1, ρ, G1, r0.later k1 g1, o1⟩
    | false => exact ⟨Φ, μ1, ρ, G1, r0.later k1 g1, o1⟩⟩
end

/-! ### rows of arguments, displays -/
def fNil : AF := fun _ G => .ok [] G
def fCons (f : EF) (g : AF) : AF := fun ρ G => (f ρ G).bind fun x G1 => (g ρ G1).bind fun xs G2 => .ok (x :: xs) G2
/-- all pure -/
def allP : List D → Option (List P)
  | [] => some []
  | .p x :: r => (allP r).map (x :: ·)
  | _ => none
@[simp] theorem allP_nil : allP [] = some [] := rfl
@[simp] theorem allP_cons (x : P) (r : List D) : allP (.p x :: r) = (allP r).map (x :: ·) := rfl
theorem allP_eq : ∀ {ds : List D} {xs : List P}, allP ds = some xs → ds = xs.map D.p
  | [], xs, h => by cases h; rfl
  | .p x :: r, xs, h => by
    rw [allP_cons] at h
    obtain ⟨ys, h1, h2⟩ := Option.map_eq_some_iff.mp h
    subst h2
    rw [allP_eq h1]; rfl
  | .ref _ :: r, _, h => by cases h
  | .tup _ :: r, _, h => by cases h
  | .lst _ :: r, _, h => by cases h
  | .lam _ _ :: r, _, h => by cases h
  | .scr _ :: r, _, h => by cases h
@[simp] theorem allP_map (xs : List P) : allP (xs.map D.p) = some xs := by
  induction xs with
  | nil => rfl
  | cons x r ih => rw [List.map_cons, allP_cons, ih]; rfl
theorem allP_map' {α : Type} (f : α → P) (xs : List α) : allP (xs.map fun a => D.p (f a)) = some (xs.map f) := by
  have := allP_map (xs.map f)
  rwa [List.map_map] at this
/-- a row as a tuple, as a list: pure where all in it is -/
def mkTup (ds : List D) : D := match allP ds with
  | some xs => .p (.tup xs)
  | none => .tup ds
def mkLst (ds : List D) : D := match allP ds with
  | some xs => .p (.lst xs)
  | none => .lst ds
def small (n : Nat) : Bool := decide (n ≤ 16777216)
def fTup (f : AF) : EF := fun ρ G => (f ρ G).bind fun xs G1 => if xs.length ≤ 16777216 then .ok (mkTup xs) G1 else .stuck
def fLst (f : AF) : EF := fun ρ G => (f ρ G).bind fun xs G1 => if xs.length ≤ 16777216 then .ok (mkLst xs) G1 else .stuck
/-- a list that may change: a new thing of the store -/
def fLstM (f : AF) : EF := fun ρ G => (f ρ G).bind fun xs G1 => if xs.length ≤ 16777216 then .ok (.ref G1.length) (G1 ++ [.lst xs]) else .stuck
section
variable {X : Cx} {C : CF} {T : Tb} {W : WX} {e : Expr} {es : List Expr} {fa : EF} {ff : AF} {pos : Pos}
theorem ra_nil : PA X [] (aOf C T W fNil) := paImp pa_nil fun σ H Q ⟨Φ, μ, ρ, G, r0, o⟩ => o μ H [] .refl r0.g .nil
theorem ra_cons (ha : PE X e (eOf C T W fa)) (hr : PA X es (aOf C T W ff)) (hs : starEach (e :: es) X.env = (false, eval e X.env) :: starEach es X.env) : PA X (e :: es) (aOf C T W (fCons fa ff)) :=
  paImp (pa_cons ha hr hs) fun σ H Q ⟨Φ, μ, ρ, G, r0, o⟩ => ⟨Φ, μ, ρ, G, r0, o.bind fun v H1 ⟨μ1, G1, x, k1, g1, rx, o1⟩ =>
    ⟨Φ, μ1, ρ, G1, r0.later k1 g1, o1.bind fun vs H2 ⟨μ2, G2, xs, k2, g2, rxs, o2⟩ => o2 μ2 H2 (v :: vs) .refl g2 (.cons (rx.keep k2) rxs)⟩⟩
theorem rg_new {Cl : Addr → V → Prop} {Φ : Addr → Prop} {μ : List Addr} {H : Hp} {G : Sto} (g : RG T Cl Φ μ H G) {p : Addr} {o : HO} (hp : H p = none) : ¬ Bad Φ μ p := g.bad hp
theorem mkTup_rd {Cl : Addr → V → Prop} {Φ : Addr → Prop} {μ : List Addr} {H : Hp} {a : Addr} {vs : List V} {ds : List D} (h : SqTB T.K (Bad Φ μ) H a vs) (r : RDs T Cl Φ μ H ds vs) : RD T Cl Φ μ H (mkTup ds) (.ref a) := by
  unfold mkTup
  cases e : allP ds with
  | none => exact .tup h r
  | some xs =>
    rw [allP_eq e] at r
    exact .p (.tup h r.toP)
theorem mkLst_rd {Cl : Addr → V → Prop} {Φ : Addr → Prop} {μ : List Addr} {H : Hp} {a : Addr} {vs : List V} {ds : List D} (h : H a = some (.lst vs)) (nb : ¬ Bad Φ μ a) (r : RDs T Cl Φ μ H ds vs) : RD T Cl Φ μ H (mkLst ds) (.ref a) := by
  unfold mkLst
  cases e : allP ds with
  | none => exact .lst h nb r
  | some xs =>
    rw [allP_eq e] at r
    exact .p (.lst h nb r.toP)
theorem line_of {n : Nat} (h : n ≤ 16777216) : n ≤ sizeLine := by rw [sizeLine_eq]; exact h
/-- a new tuple, a new list -/
theorem new_tup {Cl : Addr → V → Prop} {Φ : Addr → Prop} {μ : List Addr} {H : Hp} {G : Sto} {p : Addr} {vs : List V} {ds : List D} (g : RG T Cl Φ μ H G) (hp : H p = none) (r : RDs T Cl Φ μ H ds vs) :
    Le μ H μ (upd H p (.tup vs)) ∧ RG T Cl Φ μ (upd H p (.tup vs)) G ∧ RD T Cl Φ μ (upd H p (.tup vs)) (mkTup ds) (.ref p) :=
  ⟨le_new hp, g.new hp, mkTup_rd (.inl ⟨upd_same, g.bad hp⟩) (r.keep (le_new hp))⟩
theorem new_lst {Cl : Addr → V → Prop} {Φ : Addr → Prop} {μ : List Addr} {H : Hp} {G : Sto} {p : Addr} {vs : List V} {ds : List D} (g : RG T Cl Φ μ H G) (hp : H p = none) (r : RDs T Cl Φ μ H ds vs) :
    Le μ H μ (upd H p (.lst vs)) ∧ RG T Cl Φ μ (upd H p (.lst vs)) G ∧ RD T Cl Φ μ (upd H p (.lst vs)) (mkLst ds) (.ref p) :=
  ⟨le_new hp, g.new hp, mkLst_rd upd_same (g.bad hp) (r.keep (le_new hp))⟩
/-- a new thing of the store at p, which the heap has had from H to H1 on as o -/
theorem RG.push {Cl : Addr → V → Prop} {Φ : Addr → Prop} {μ : List Addr} {H : Hp} {G : Sto} {p : Addr} {o : HO} {mo : MO} (g : RG T Cl Φ μ H G) (hp : H p = none) (hm : MoR T Cl Φ (μ ++ [p]) (upd H p o) p mo) :
    Le μ H (μ ++ [p]) (upd H p o) ∧ RG T Cl Φ (μ ++ [p]) (upd H p o) (G ++ [mo]) := by
  have le : Le μ H (μ ++ [p]) (upd H p o) := ⟨(le_new (μ := μ) hp).keep, ⟨[p], rfl⟩, fun a ha => by
    rcases List.mem_append.mp ha with z | z
    · exact .inl z
    · rw [List.mem_singleton.mp z]; exact .inr hp, (le_new (μ := μ) hp).there⟩
  have np : p ∉ μ := fun z => g.mem z hp
  refine ⟨le, by simp [g.len], ?_, fun a ha => ?_, fun a h => let ⟨o, e, m⟩ := g.phi a h; ⟨o, by rw [upd_ne (ne_of_none e hp)]; exact e, m⟩, fun n a m h1 h2 => ?_, tabs_new hp g.tabs, fun q hq => (g.con q hq).keep le.bad⟩
  · rw [List.nodup_append]
    exact ⟨g.nd, by simp, fun a ha b hb => by rw [List.mem_singleton.mp hb]; rintro rfl; exact np ha⟩
  · rcases List.mem_append.mp ha with z | z
    · exact g.dis a z
    · rw [List.mem_singleton.mp z]; exact fun q => g.phi0 q hp
  · by_cases hn : n < μ.length
    · rw [List.getElem?_append_left hn] at h1
      rw [List.getElem?_append_left (by rw [← g.len]; exact hn)] at h2
      exact (g.obj n a m h1 h2).keep le (upd_ne (fun z => np (z ▸ List.mem_of_getElem? h1)))
    · have e : n = μ.length := by
        have := (List.getElem?_eq_some_iff.mp h1).1
        simp at this; omega
      subst e
      rw [List.getElem?_append_right (Nat.le_refl _)] at h1
      rw [List.getElem?_append_right (by rw [g.len]; exact Nat.le_refl _)] at h2
      simp at h1
      rw [g.len] at h2
      simp at h2
      subst h1; subst h2
      exact hm
theorem re_tup {k} (h : PA X es (aOf C T W ff)) : PE X (.Tuple es k pos) (eOf C T W (fTup ff)) :=
  peImp (pe_tup h) fun σ H Q ⟨Φ, μ, ρ, G, r0, o⟩ => ⟨Φ, μ, ρ, G, r0, o.bind fun vs H1 ⟨μ1, G1, xs, k1, g1, rx, o1⟩ => by
    split at o1
    · rename_i hz
      refine ⟨by rw [← rx.length]; exact line_of hz, fun p hp => ?_⟩
      obtain ⟨h1, h2, h3⟩ := new_tup g1 hp rx
      exact o1 _ _ _ h1 h2 h3
    · exact o1.elim⟩
theorem re_lst (h : PA X es (aOf C T W ff)) : PE X (.List es pos) (eOf C T W (fLst ff)) :=
  peImp (pe_lst h) fun σ H Q ⟨Φ, μ, ρ, G, r0, o⟩ => ⟨Φ, μ, ρ, G, r0, o.bind fun vs H1 ⟨μ1, G1, xs, k1, g1, rx, o1⟩ => by
    split at o1
    · rename_i hz
      refine ⟨by rw [← rx.length]; exact line_of hz, fun p hp => ?_⟩
      obtain ⟨h1, h2, h3⟩ := new_lst g1 hp rx
      exact o1 _ _ _ h1 h2 h3
    · exact o1.elim⟩
theorem re_lstM (h : PA X es (aOf C T W ff)) : PE X (.List es pos) (eOf C T W (fLstM ff)) :=
  peImp (pe_lst h) fun σ H Q ⟨Φ, μ, ρ, G, r0, o⟩ => ⟨Φ, μ, ρ, G, r0, o.bind fun vs H1 ⟨μ1, G1, xs, k1, g1, rx, o1⟩ => by
    split at o1
    · rename_i hz
      refine ⟨by rw [← rx.length]; exact line_of hz, fun p hp => ?_⟩
      have le : Le μ1 H1 (μ1 ++ [p]) (upd H1 p (.lst vs)) := ⟨(le_new (μ := μ1) hp).keep, ⟨[p], rfl⟩, fun a ha => by
        rcases List.mem_append.mp ha with z | z
        · exact .inl z
        · rw [List.mem_singleton.mp z]; exact .inr hp, (le_new (μ := μ1) hp).there⟩
      obtain ⟨h1, h2⟩ := g1.push (mo := .lst xs) hp ⟨vs, upd_same, rx.keep le⟩
      refine o1 _ _ _ h1 h2 (.ref ?_)
      rw [← g1.len, List.getElem?_append_right (Nat.le_refl _)]
      simp
    · exact o1.elim⟩
end
end DL

set_option Elab.async false
set_option linter.all false
set_option maxRecDepth 100000
set_option maxHeartbeats 4000000
/-! DL 3: targets, statements, loops, comprehensions. -/
namespace DL
open PySem PySem.Spec PyProof.Rows L2

/-! ### targets that are names, or rows of such -/
inductive Pt where
  | v (i : Nat)
  | t (ps : List Pt)
def setV (ρ : Ro) (i : Nat) (d : D) : Option Ro := if i ∈ ρ.z then none else if i < ρ.v.length then some ⟨ρ.v.set i (some d), ρ.z⟩ else none
def itemsT : D → Option (List D)
  | .p (.tup xs) => some (xs.map D.p)
  | .tup xs => some xs
  | _ => none
mutual
def bindP : Pt → D → Ro → Option Ro
  | .v i, d, ρ => setV ρ i d
  | .t ps, d, ρ => match itemsT d with
    | some ds => bindPs ps ds ρ
    | none => none
def bindPs : List Pt → List D → Ro → Option Ro
  | [], [], ρ => some ρ
  | p :: ps, d :: ds, ρ => match bindP p d ρ with
    | some ρ' => bindPs ps ds ρ'
    | none => none
  | _, _, _ => none
end
mutual
def slotsP : Pt → List Nat
  | .v i => [i]
  | .t ps => slotsPs ps
def slotsPs : List Pt → List Nat
  | [] => []
  | p :: ps => slotsP p ++ slotsPs ps
end
/-- the slots but for some are as they were -/
def SameB (is : List Nat) (σ σ' : Slots) : Prop := σ'.length = σ.length ∧ ∀ i, i ∉ is → σ'[i]? = σ[i]?
theorem SameB.refl {is : List Nat} {σ : Slots} : SameB is σ σ := ⟨rfl, fun _ _ => rfl⟩
theorem SameB.trans {is js : List Nat} {σ σ' σ'' : Slots} (a : SameB is σ σ') (b : SameB js σ' σ'') : SameB (is ++ js) σ σ'' :=
  ⟨b.1.trans a.1, fun i h => by
    rw [List.mem_append, not_or] at h
    rw [b.2 i h.2, a.2 i h.1]⟩
/-- what a store of names does to the state: rows of slots is; g tells the new slots -/
def gOf (C : CF) (T : Tb) (is : List Nat) (g : D → Ro → Option Ro) : TG := fun v σ H Q => ∃ Φ μ ρ G d, Rel C T Φ μ H σ ρ G ∧ RD T (C.c ρ σ) Φ μ H d v ∧
  ∃ ρ', g d ρ = some ρ' ∧ ∀ σ', Rel C T Φ μ H σ' ρ' G → SameB is σ σ' → Q σ' H
def gsOf (C : CF) (T : Tb) (is : List Nat) (g : List D → Ro → Option Ro) : TGs := fun vs σ H Q => ∃ Φ μ ρ G ds, Rel C T Φ μ H σ ρ G ∧ RDs T (C.c ρ σ) Φ μ H ds vs ∧
  ∃ ρ', g ds ρ = some ρ' ∧ ∀ σ', Rel C T Φ μ H σ' ρ' G → SameB is σ σ' → Q σ' H
/-- what a way of seeing cells must bear: a store at a slot that is not captured -/
def CF.Good (C : CF) : Prop := ∀ (ρ : Ro) (σ : Slots) (i : Nat) (d : D) (v : V), i ∉ ρ.z → C.ok ρ → C.ok ⟨ρ.v.set i (some d), ρ.z⟩ ∧ C.c ⟨ρ.v.set i (some d), ρ.z⟩ (σ.set i (some v)) = C.c ρ σ
theorem clX_set {X : Cx} {ρ : Ro} {σ : Slots} {i : Nat} {v : V} {w : List (Option D)} (h : i ∉ ρ.z) : ClX X ⟨w, ρ.z⟩ (σ.set i (some v)) = ClX X ρ σ := by
  funext c u
  refine propext ⟨fun ⟨j, x, h1, h2, h3, h4, h5⟩ => ?_, fun ⟨j, x, h1, h2, h3, h4, h5⟩ => ?_⟩
  · have hij : i ≠ j := fun e => h (e ▸ h1)
    rw [List.getElem?_set_ne hij] at h5
    exact ⟨j, x, h1, h2, h3, h4, h5⟩
  · have hij : i ≠ j := fun e => h (e ▸ h1)
    exact ⟨j, x, h1, h2, h3, h4, by rw [List.getElem?_set_ne hij]; exact h5⟩
theorem good_X {X : Cx} : (CX1 X).Good := fun ρ σ i d v h _ => ⟨trivial, clX_set h⟩
theorem good_B : CB.Good := fun ρ σ i d v h k => ⟨k, rfl⟩
section
variable {C : CF} {T : Tb} {Φ : Addr → Prop} {μ : List Addr} {H : Hp} {σ : Slots} {ρ ρ' : Ro} {G : Sto} {d : D} {v : V} {i : Nat}
theorem Rel.store (hC : C.Good) (r : Rel C T Φ μ H σ ρ G) (rd : RD T (C.c ρ σ) Φ μ H d v) (h : setV ρ i d = some ρ') : Rel C T Φ μ H (σ.set i (some v)) ρ' G := by
  unfold setV at h
  split at h
  · cases h
  · rename_i hz
    split at h
    · rename_i hl
      cases h
      obtain ⟨k1, k2⟩ := hC ρ σ i d v hz r.k
      refine ⟨by rw [k2]; exact r.g, ⟨by simp [r.e.len], fun j d' h' => ?_⟩, k1⟩
      rw [k2]
      by_cases hj : j = i
      · subst hj
        have hl2 : j < σ.length := by rw [← r.e.len]; exact hl
        simp only [List.getElem?_set_self hl] at h'
        cases h'
        exact ⟨v, by rw [List.getElem?_set_self hl2], rd⟩
      · simp only [List.getElem?_set_ne (Ne.symm hj)] at h'
        obtain ⟨w, h1, h2⟩ := r.e.val j d' h'
        exact ⟨w, by rw [List.getElem?_set_ne (Ne.symm hj)]; exact h1, h2⟩
    · cases h
theorem itemsT_rd {Cl : Addr → V → Prop} {ds : List D} (h : itemsT d = some ds) (r : RD T Cl Φ μ H d v) : ∃ a vs, v = .ref a ∧ SqT T.K H a vs ∧ RDs T Cl Φ μ H ds vs := by
  cases r with
  | p r =>
    cases r with
    | tup h1 h2 => simp only [itemsT, Option.some.injEq] at h; subst h; exact ⟨_, _, rfl, h1.to, .ofP h2⟩
    | _ => simp [itemsT] at h
  | tup h1 h2 => simp only [itemsT, Option.some.injEq] at h; subst h; exact ⟨_, _, rfl, h1.to, h2⟩
  | _ => simp [itemsT] at h
end
section
variable {X : Cx} {C : CF} {T : Tb} {pos : Pos}
theorem pgImp {tg : Expr} {t t' : TG} (h : PG X tg t) (k : ∀ v σ H Q, t' v σ H Q → t v σ H Q) : PG X tg t' := ⟨fun pins s σ H v u Q I r hw => h.run pins s σ H v u Q I r (k _ _ _ _ hw)⟩
theorem pgsImp {tg : List Expr} {t t' : TGs} (h : PGs X tg t) (k : ∀ v σ H Q, t' v σ H Q → t v σ H Q) : PGs X tg t' := ⟨fun pins s σ H v u Q I r hw => h.run pins s σ H v u Q I r (k _ _ _ _ hw)⟩
theorem rg_name {i : Nat} {x : Str} (hC : C.Good) (hN : X.N.Nodup) (hi : X.N[i]? = some x) (hx : Loc X.env.scope x) (hf : X.fn x = true ∨ X.env.scope.names.lookup x = some .local) : PG X (.Name x pos) (gOf C T [i] (fun d ρ => bindP (.v i) d ρ)) :=
  pgImp (pg_name hN hi hx hf) fun v σ H Q ⟨Φ, μ, ρ, G, d, r, rd, ρ', e, k⟩ => by
    unfold bindP at e
    exact k _ (r.store hC rd e) ⟨by simp, fun j hj => List.getElem?_set_ne (fun z => hj (by simp [z]))⟩
theorem rgs_nil : PGs X [] (gsOf C T [] (fun ds ρ => bindPs [] ds ρ)) :=
  pgsImp pgs_nil fun vs σ H Q ⟨Φ, μ, ρ, G, ds, r, rd, ρ', e, k⟩ => by
    cases rd with
    | nil => unfold bindPs at e; cases e; exact ⟨rfl, k _ r .refl⟩
    | cons _ _ => unfold bindPs at e; cases e
theorem RD.cells {Cl Cl' : Addr → V → Prop} {Φ : Addr → Prop} {μ : List Addr} {H : Hp} {d : D} {v : V} (r : RD T Cl Φ μ H d v) (h : ∀ c w, Cl c w → Cl' c w) : RD T Cl' Φ μ H d v := r.keepC .refl h
/-- the cells of a later state are those of the state -/
def CF.Same (C : CF) : Prop := ∀ (p : Pt) (d : D) (ρ ρ' : Ro) (σ σ' : Slots), bindP p d ρ = some ρ' → SameB (slotsP p) σ σ' → C.c ρ' σ' = C.c ρ σ
theorem setV_z {ρ ρ' : Ro} {i : Nat} {d : D} (h : setV ρ i d = some ρ') : ρ'.z = ρ.z ∧ i ∉ ρ.z := by
  unfold setV at h
  split at h
  · cases h
  · rename_i hz
    split at h
    · cases h; exact ⟨rfl, hz⟩
    · cases h
mutual
theorem bindP_z : ∀ (p : Pt) (d : D) (ρ ρ' : Ro), bindP p d ρ = some ρ' → ρ'.z = ρ.z ∧ ∀ i ∈ slotsP p, i ∉ ρ.z
  | .v i, d, ρ, ρ', h => by
    unfold bindP at h
    obtain ⟨h1, h2⟩ := setV_z h
    exact ⟨h1, fun j hj => by simp [slotsP] at hj; subst hj; exact h2⟩
  | .t ps, d, ρ, ρ', h => by
    unfold bindP at h
    split at h
    · rename_i ds _
      exact bindPs_z ps ds ρ ρ' h
    · cases h
theorem bindPs_z : ∀ (ps : List Pt) (ds : List D) (ρ ρ' : Ro), bindPs ps ds ρ = some ρ' → ρ'.z = ρ.z ∧ ∀ i ∈ slotsPs ps, i ∉ ρ.z
  | [], [], ρ, ρ', h => by unfold bindPs at h; cases h; exact ⟨rfl, fun i hi => by simp [slotsPs] at hi⟩
  | p :: ps, d :: ds, ρ, ρ', h => by
    unfold bindPs at h
    split at h
    · rename_i ρ1 e
      obtain ⟨h1, h2⟩ := bindP_z p d ρ ρ1 e
      obtain ⟨h3, h4⟩ := bindPs_z ps ds ρ1 ρ' h
      refine ⟨h3.trans h1, fun i hi => ?_⟩
      simp only [slotsPs, List.mem_append] at hi
      rcases hi with hi | hi
      · exact h2 i hi
      · rw [← h1]; exact h4 i hi
    · cases h
  | [], _ :: _, _, _, h => by unfold bindPs at h; cases h
  | _ :: _, [], _, _, h => by unfold bindPs at h; cases h
end
theorem clX_same {X : Cx} {ρ ρ' : Ro} {σ σ' : Slots} {is : List Nat} (hz : ρ'.z = ρ.z) (hn : ∀ i ∈ is, i ∉ ρ.z) (s : SameB is σ σ') : ClX X ρ' σ' = ClX X ρ σ := by
  funext c w
  unfold ClX
  rw [hz]
  refine propext ⟨fun ⟨j, x, h1, h2, h3, h4, h5⟩ => ⟨j, x, h1, h2, h3, h4, ?_⟩, fun ⟨j, x, h1, h2, h3, h4, h5⟩ => ⟨j, x, h1, h2, h3, h4, ?_⟩⟩
  · rw [← s.2 j (fun z => hn j z h1)]; exact h5
  · rw [s.2 j (fun z => hn j z h1)]; exact h5
theorem same_X {X : Cx} : (CX1 X).Same := fun p d ρ ρ' σ σ' h s => clX_same (bindP_z p d ρ ρ' h).1 (bindP_z p d ρ ρ' h).2 s
theorem same_B : CB.Same := fun _ _ _ _ _ _ _ _ => rfl
theorem rgs_cons {e : Expr} {es : List Expr} {p : Pt} {ps : List Pt} (hS : C.Same) (h1 : PG X e (gOf C T (slotsP p) (fun d ρ => bindP p d ρ))) (h2 : PGs X es (gsOf C T (slotsPs ps) (fun ds ρ => bindPs ps ds ρ)))
    (hs : (assignEach (e :: es) X.env).map (·.2) = assign e X.env :: (assignEach es X.env).map (·.2)) : PGs X (e :: es) (gsOf C T (slotsPs (p :: ps)) (fun ds ρ => bindPs (p :: ps) ds ρ)) :=
  pgsImp (pgs_cons h1 h2 hs) fun vs σ H Q ⟨Φ, μ, ρ, G, ds, r, rd, ρ', eq, k⟩ => by
    cases rd with
    | nil => unfold bindPs at eq; cases eq
    | @cons d v ds vs rd1 rd2 =>
      simp only [bindPs] at eq
      split at eq
      · rename_i ρ1 e1
        refine ⟨v, vs, rfl, Φ, μ, ρ, G, d, r, rd1, ρ1, e1, fun σ1 r1 s1 => ?_⟩
        refine ⟨Φ, μ, ρ1, G, ds, r1, by rw [hS p d ρ ρ1 σ σ1 e1 s1]; exact rd2, ρ', eq, fun σ2 r2 s2 => k σ2 r2 ?_⟩
        exact s1.trans s2
      · cases eq
theorem rg_tup {es : List Expr} {k : Nat} {ps : List Pt} {n : Nat} (hK : T.K = X.K) (hc : X.calm = true) (h : PGs X es (gsOf C T (slotsPs ps) (fun ds ρ => bindPs ps ds ρ)))
    (hn : (assignEach es X.env).length = n) (hl : ps.length = n) (hst : (assignEach es X.env).findIdx? (·.1) = none) : PG X (.Tuple es k pos) (gOf C T (slotsP (.t ps)) (fun d ρ => bindP (.t ps) d ρ)) :=
  pgImp (pg_tup hc h hn hst) fun v σ H Q ⟨Φ, μ, ρ, G, d, r, rd, ρ', e, k⟩ => by
    simp only [bindP] at e
    split at e
    · rename_i ds he
      obtain ⟨a, vs, h1, h2, h3⟩ := itemsT_rd he rd
      have len : ∀ (ps : List Pt) (ds : List D) (ρ ρ' : Ro), bindPs ps ds ρ = some ρ' → ds.length = ps.length := by
        intro ps
        induction ps with
        | nil => intro ds ρ ρ' h; cases ds with
          | nil => rfl
          | cons _ _ => unfold bindPs at h; cases h
        | cons p ps ih => intro ds ρ ρ' h; cases ds with
          | nil => unfold bindPs at h; cases h
          | cons d ds =>
            unfold bindPs at h
            split at h
            · rw [List.length_cons, List.length_cons, ih _ _ _ h]
            · cases h
      refine ⟨a, vs, h1, hK ▸ h2, by rw [← h3.length, len _ _ _ _ e, hl], Φ, μ, ρ, G, ds, r, h3, ρ', e, fun σ' r' s' => k σ' r' ?_⟩
      unfold slotsP
      exact s'
    · cases e
end

/-! ### statements -/
inductive SR where
  | nx (ρ : Ro) (G : Sto)
  | rt (d : D) (ρ : Ro) (G : Sto)
  | bk (ρ : Ro) (G : Sto)
  | ct (ρ : Ro) (G : Sto)
  | exc (x : Exn) (ρ : Ro) (G : Sto)
  | stuck
abbrev SF := Ro → Sto → SR
def SOut (C : CF) (T : Tb) (W : WX) (Φ : Addr → Prop) (μ : List Addr) (H : Hp) (r : SR) (Dn : Ends) : Prop := match r with
  | .nx ρ' G' => ∀ μ' H' σ', Le μ H μ' H' → Rel C T Φ μ' H' σ' ρ' G' → Dn.nx σ' H'
  | .rt d ρ' G' => ∀ μ' H' σ' v, Le μ H μ' H' → Rel C T Φ μ' H' σ' ρ' G' → RD T (C.c ρ' σ') Φ μ' H' d v → Dn.rt v H'
  | .bk ρ' G' => ∀ μ' H' σ', Le μ H μ' H' → Rel C T Φ μ' H' σ' ρ' G' → Dn.bk σ' H'
  | .ct ρ' G' => ∀ μ' H' σ', Le μ H μ' H' → Rel C T Φ μ' H' σ' ρ' G' → Dn.ct σ' H'
  | .exc x ρ' G' => ∀ μ' H' σ' cls dx, Le μ H μ' H' → Rel C T Φ μ' H' σ' ρ' G' → ExR T Φ μ' H' x cls dx → W cls dx σ' H'
  | .stuck => False
def sOf (C : CF) (T : Tb) (W : WX) (f : SF) : TS := fun Dn σ H => ∃ Φ μ ρ G, Rel C T Φ μ H σ ρ G ∧ SOut C T W Φ μ H (f ρ G) Dn
/-- an expression's outcome, then k -/
def Res.st {α : Type} (r : Res α) (ρ : Ro) (k : α → Sto → SR) : SR := match r with
  | .ok a G => k a G
  | .exc x G => .exc x ρ G
  | .stuck => .stuck
@[simp] theorem Res.st_ok {α : Type} (a : α) (G : Sto) (ρ : Ro) (k : α → Sto → SR) : (Res.ok a G).st ρ k = k a G := rfl
@[simp] theorem Res.st_exc {α : Type} (x : Exn) (G : Sto) (ρ : Ro) (k : α → Sto → SR) : (Res.exc x G : Res α).st ρ k = .exc x ρ G := rfl
@[simp] theorem Res.st_stuck {α : Type} (ρ : Ro) (k : α → Sto → SR) : (Res.stuck : Res α).st ρ k = .stuck := rfl
section
variable {X : Cx} {C : CF} {T : Tb} {W : WX} {Φ : Addr → Prop} {ρ : Ro} {σ : Slots} {α β : Type} {R : List Addr → Hp → α → β → Prop} {μ μ' : List Addr} {H H' : Hp} {r : Res α} {Q' : β → Hp → Prop} {Dn Dn' : Ends} {G : Sto}
theorem SOut.later {r : SR} (k : Le μ H μ' H') (h : SOut C T W Φ μ H r Dn) : SOut C T W Φ μ' H' r Dn := by
  cases r with
  | nx ρ' G' => exact fun μ2 H2 σ' k2 => h μ2 H2 σ' (k.trans k2)
  | rt d ρ' G' => exact fun μ2 H2 σ' v k2 => h μ2 H2 σ' v (k.trans k2)
  | bk ρ' G' => exact fun μ2 H2 σ' k2 => h μ2 H2 σ' (k.trans k2)
  | ct ρ' G' => exact fun μ2 H2 σ' k2 => h μ2 H2 σ' (k.trans k2)
  | exc x ρ' G' => exact fun μ2 H2 σ' c d k2 => h μ2 H2 σ' c d (k.trans k2)
  | stuck => exact h
theorem SOut.expr {k : α → Sto → SR} (rel : Rel C T Φ μ H σ ρ G) (h : SOut C T W Φ μ H (r.st ρ k) Dn) (hq : ∀ (b : β) (H1 : Hp), (∃ μ1 G1 a, Le μ H μ1 H1 ∧ Rel C T Φ μ1 H1 σ ρ G1 ∧ R μ1 H1 a b ∧ SOut C T W Φ μ1 H1 (k a G1) Dn) → Q' b H1) :
    Out C T W Φ ρ σ R μ H r Q' := by
  cases r with
  | ok a G1 => exact fun μ1 H1 b k1 g1 r1 => hq b H1 ⟨μ1, G1, a, k1, rel.later k1 g1, r1, h.later k1⟩
  | exc x G1 => exact fun μ1 H1 cls dx k1 g1 ex => h μ1 H1 σ cls dx k1 (rel.later k1 g1) ex
  | stuck => exact h
end
def sNext : SF := fun ρ G => .nx ρ G
def sSeq (f g : SF) : SF := fun ρ G => match f ρ G with
  | .nx ρ' G' => g ρ' G'
  | r => r
def sBrk : SF := fun ρ G => .bk ρ G
def sCnt : SF := fun ρ G => .ct ρ G
def sRet (f : EF) : SF := fun ρ G => (f ρ G).st ρ fun d G' => .rt d ρ G'
def sExp (f : EF) : SF := fun ρ G => (f ρ G).st ρ fun _ G' => .nx ρ G'
def sIf (c : TF) (f g : SF) : SF := fun ρ G => (c ρ G).st ρ fun b G' => if b = true then f ρ G' else g ρ G'
/-- a target of names -/
def sAsg (p : Pt) (f : EF) : SF := fun ρ G => (f ρ G).st ρ fun d G' => match bindP p d ρ with
  | some ρ' => .nx ρ' G'
  | none => .stuck
/-- a, b = x, y: no tuple is made -/
def sPar (i j : Nat) (f g : EF) : SF := fun ρ G => (f ρ G).st ρ fun d G1 => (g ρ G1).st ρ fun e G2 => match bindPs [.v i, .v j] [d, e] ρ with
  | some ρ' => .nx ρ' G2
  | none => .stuck
section
variable {X : Cx} {C : CF} {T : Tb} {W : WX} {e : Expr} {st : Stmt} {rest : List Stmt} {f g : SF} {fe : EF} {fc : TF} {pos : Pos}
theorem rss_nil : PSs X [] (sOf C T W sNext) := pssImp pss_nil fun D σ H ⟨Φ, μ, ρ, G, r, o⟩ => o μ H σ .refl r
theorem rss_cons (h1 : PS X st (sOf C T W f)) (h2 : PSs X rest (sOf C T W g)) : PSs X (st :: rest) (sOf C T W (sSeq f g)) :=
  pssImp (pss_cons h1 h2) fun D σ H ⟨Φ, μ, ρ, G, r, o⟩ => by
    refine ⟨Φ, μ, ρ, G, r, ?_⟩
    unfold sSeq at o
    cases e : f ρ G with
    | nx ρ' G' => rw [e] at o; exact fun μ' H' σ' k r' => ⟨Φ, μ', ρ', G', r', o.later k⟩
    | rt d ρ' G' => rw [e] at o; exact o
    | bk ρ' G' => rw [e] at o; exact o
    | ct ρ' G' => rw [e] at o; exact o
    | exc x ρ' G' => rw [e] at o; exact o
    | stuck => rw [e] at o; exact o
theorem rss_one (h1 : PS X st (sOf C T W f)) : PSs X [st] (sOf C T W f) := pss_one h1
theorem rs_pass : PS X (.Pass pos) (sOf C T W sNext) := psImp ps_pass fun D σ H ⟨Φ, μ, ρ, G, r, o⟩ => o μ H σ .refl r
theorem rs_doc {x j pos'} : PS X (.Expr (.Constant (.str x) j pos) pos') (sOf C T W sNext) := psImp ps_doc fun D σ H ⟨Φ, μ, ρ, G, r, o⟩ => o μ H σ .refl r
theorem rs_brk : PS X (.Break pos) (sOf C T W sBrk) := psImp ps_break fun D σ H ⟨Φ, μ, ρ, G, r, o⟩ => o μ H σ .refl r
theorem rs_cnt : PS X (.Continue pos) (sOf C T W sCnt) := psImp ps_continue fun D σ H ⟨Φ, μ, ρ, G, r, o⟩ => o μ H σ .refl r
theorem rs_ret (h : PE X e (eOf C T W fe)) : PS X (.Return (some e) pos) (sOf C T W (sRet fe)) :=
  psImp (ps_ret h) fun D σ H ⟨Φ, μ, ρ, G, r, o⟩ => ⟨Φ, μ, ρ, G, r, SOut.expr r o fun v H1 ⟨μ1, G1, d, k1, r1, rd, o1⟩ => o1 μ1 H1 σ v .refl r1 rd⟩
theorem rs_retN : PS X (.Return none pos) (sOf C T W (sRet (fP .non))) :=
  psImp ps_retN fun D σ H ⟨Φ, μ, ρ, G, r, o⟩ => o μ H σ .non .refl r (.p .non)
theorem rs_exp (h : PE X e (eOf C T W fe)) (hs : swapsWith e none pos.line X.env = pure false) : PS X (.Expr e pos) (sOf C T W (sExp fe)) :=
  psImp (ps_expr h hs) fun D σ H ⟨Φ, μ, ρ, G, r, o⟩ => ⟨Φ, μ, ρ, G, r, SOut.expr r o fun v H1 ⟨μ1, G1, d, k1, r1, rd, o1⟩ => o1 μ1 H1 σ .refl r1⟩
theorem rs_if {a b : List Stmt} (hc : PT X e (bOf C T W fc)) (ha : PSs X a (sOf C T W f)) (hb : PSs X b (sOf C T W g)) : PS X (.If e a b pos) (sOf C T W (sIf fc f g)) :=
  psImp (ps_if hc ha hb) fun D σ H ⟨Φ, μ, ρ, G, r, o⟩ => ⟨Φ, μ, ρ, G, r, SOut.expr r o fun v H1 ⟨μ1, G1, d, k1, r1, rd, o1⟩ => by
    subst rd
    cases d with
    | true => exact ⟨Φ, μ1, ρ, G1, r1, o1⟩
    | false => exact ⟨Φ, μ1, ρ, G1, r1, o1⟩⟩
theorem asg_to {p : Pt} {Dn : Ends} {σ : Slots} {H : Hp} (hw : sOf C T W (sAsg p fe) Dn σ H) : tAsg (eOf C T W fe) (gOf C T (slotsP p) (fun d ρ => bindP p d ρ)) Dn σ H := by
  obtain ⟨Φ, μ, ρ, G, r, o⟩ := hw
  refine ⟨Φ, μ, ρ, G, r, SOut.expr r o fun v H1 ⟨μ1, G1, d, k1, r1, rd, o1⟩ => ?_⟩
  cases eb : bindP p d ρ with
  | none => rw [eb] at o1; exact o1.elim
  | some ρ' =>
    rw [eb] at o1
    exact ⟨Φ, μ1, ρ, G1, d, r1, rd, ρ', eb, fun σ' r' _ => o1 μ1 H1 σ' .refl r'⟩
theorem rs_asg {p : Pt} {tg : Expr} (he : PE X e (eOf C T W fe)) (hg : PG X tg (gOf C T (slotsP p) (fun d ρ => bindP p d ρ))) (hs : swapsWithSole [tg] e pos.line X.env = pure false) (hw : swappedStores [tg] e X.env = pure none)
    (h1 : (assignEach [tg] X.env).map (·.2) = [assign tg X.env]) : PS X (.Assign [tg] e pos) (sOf C T W (sAsg p fe)) := psImp (ps_asg he hg hs hw h1) fun _ _ _ hw => asg_to hw
theorem rs_set {i : Nat} {x : Str} {pos' : Pos} (hC : C.Good) (hN : X.N.Nodup) (hi : X.N[i]? = some x) (hx : Loc X.env.scope x) (hf : X.fn x = true ∨ X.env.scope.names.lookup x = some .local) (he : PE X e (eOf C T W fe)) (hs : swapsWith e (some (.Name x pos')) pos.line X.env = pure false) :
    PS X (.Assign [.Name x pos'] e pos) (sOf C T W (sAsg (.v i) fe)) :=
  psImp (ps_set hN hi hx he hs hf) fun D σ H ⟨Φ, μ, ρ, G, r, o⟩ => ⟨Φ, μ, ρ, G, r, SOut.expr r o fun v H1 ⟨μ1, G1, d, k1, r1, rd, o1⟩ => by
    cases eb : bindP (.v i) d ρ with
    | none => rw [eb] at o1; exact o1.elim
    | some ρ' =>
      rw [eb] at o1
      unfold bindP at eb
      exact o1 μ1 H1 _ .refl (r1.store hC rd eb)⟩
theorem rs_par {i j : Nat} {x y : Str} {a b : Expr} {fa fb : EF} {px py pt : Pos} {kt k2 pt2} (hC : C.Good) (hc : X.calm = true) (hN : X.N.Nodup) (hi : X.N[i]? = some x) (hj : X.N[j]? = some y) (hij : i ≠ j)
    (hx : X.env.scope.names.lookup x = some .local) (hy : X.env.scope.names.lookup y = some .local) (ha : PE X a (eOf C T W fa)) (hb : PE X b (eOf C T W fb)) (sa : starEach [a, b] X.env = (false, eval a X.env) :: starEach [b] X.env) (sb : starEach [b] X.env = (false, eval b X.env) :: starEach [] X.env)
    (hw : swappedStores [.Tuple [.Name x px, .Name y py] kt pt] (.Tuple [a, b] k2 pt2) X.env = pure (some [x, y]))
    (hs : swapsWithSole [.Tuple [.Name x px, .Name y py] kt pt] (.Tuple [a, b] k2 pt2) pos.line X.env = pure false) :
    PS X (.Assign [.Tuple [.Name x px, .Name y py] kt pt] (.Tuple [a, b] k2 pt2) pos) (sOf C T W (sPar i j fa fb)) := by
  refine psImp (ps_par hc hN hi hj hij hx hy (pa_cons ha (pa_cons hb pa_nil sb) sa) hw hs) fun D σ H ⟨Φ, μ, ρ, G, r, o⟩ => ?_
  refine ⟨Φ, μ, ρ, G, r, SOut.expr r o fun v H1 ⟨μ1, G1, d, k1, r1, rd, o1⟩ => ?_⟩
  refine ⟨Φ, μ1, ρ, G1, r1, SOut.expr r1 o1 fun u H2 ⟨μ2, G2, d2, k2, r2, rd2, o2⟩ => ⟨v, u, rfl, ?_⟩⟩
  have rd := rd.keep k2
  cases e1 : setV ρ i d with
  | none => simp [bindPs, bindP, e1] at o2; exact o2.elim
  | some ρ1 =>
    cases e2 : setV ρ1 j d2 with
    | none => simp [bindPs, bindP, e1, e2] at o2; exact o2.elim
    | some ρ2 =>
      simp [bindPs, bindP, e1, e2] at o2
      have r3 := r2.store hC rd e1
      have e3 : C.c ρ1 (σ.set i (some v)) = C.c ρ σ := by
        unfold setV at e1
        split at e1
        · cases e1
        · rename_i hz
          split at e1
          · cases e1; exact (hC ρ σ i d v hz r2.k).2
          · cases e1
      exact o2 μ2 H2 _ .refl (r3.store hC (by rw [e3]; exact rd2) e2)
end

/-! ### what is walked -/
abbrev IF := Ro → Sto → Res (List D)
/-- from one point to a later one, where what stands in Φ may change -/
structure LeB (Φ : Addr → Prop) (μ : List Addr) (H : Hp) (μ' : List Addr) (H' : Hp) : Prop where
  keep : ∀ a o, H a = some o → ¬ Bad Φ μ a → NT o → H' a = some o
  pre : ∃ l, μ' = μ ++ l
  out : ∀ a ∈ μ', a ∈ μ ∨ H a = none
  there : ∀ a, H a ≠ none → H' a ≠ none
theorem LeB.of {Φ : Addr → Prop} {μ μ' : List Addr} {H H' : Hp} (k : Le μ H μ' H') : LeB Φ μ H μ' H' := ⟨fun a o h n t => k.keep a o h (fun z => n (.inr z)) t, k.pre, k.out, k.there⟩
theorem LeB.bad {Φ : Addr → Prop} {μ μ' : List Addr} {H H' : Hp} (k : LeB Φ μ H μ' H') : Keep (Bad Φ μ) H (Bad Φ μ') H' := fun a o h n t => ⟨k.keep a o h n t, fun z => by
  rcases z with z | z
  · exact n (.inl z)
  · rcases k.out a z with y | y
    · exact n (.inr y)
    · rw [h] at y; cases y⟩
theorem LeB.get {Φ : Addr → Prop} {μ μ' : List Addr} {H H' : Hp} (k : LeB Φ μ H μ' H') {n : Nat} {a : Addr} (h : μ[n]? = some a) : μ'[n]? = some a := by
  obtain ⟨l, e⟩ := k.pre
  rw [e, List.getElem?_append_left (List.getElem?_eq_some_iff.mp h).1]
  exact h
/-- an iterator that gives xs, whatever is done meanwhile -/
def DW (T : Tb) (Φ : Addr → Prop) (μ : List Addr) (H : Hp) (xs : List D) (J : It) : Prop :=
  ∃ Gc : Hp → Prop, (∀ μ' H', LeB Φ μ H μ' H' → Gc H') ∧ Walk J xs.length Gc fun i H1 v H2 => ∀ (Cl : Addr → V → Prop) (Φ1 : Addr → Prop) (μ1 : List Addr) (G1 : Sto), (∀ a, Φ1 a → Φ a ∨ H a = none) → LeB Φ μ H μ1 H1 → RG T Cl Φ1 μ1 H1 G1 →
    ∃ d, xs[i]? = some d ∧ Le μ1 H1 μ1 H2 ∧ RG T Cl Φ1 μ1 H2 G1 ∧ RD T Cl Φ1 μ1 H2 d v
theorem keep_more {Φ Φ1 : Addr → Prop} {μ μ1 : List Addr} {H H1 : Hp} (hp : ∀ a, Φ1 a → Φ a ∨ H a = none) (k : LeB Φ μ H μ1 H1) : Keep (Bad Φ μ) H (Bad Φ1 μ1) H1 := fun a o h n t => by
  refine ⟨(k.bad (Φ := Φ) a o h n t).1, fun z => ?_⟩
  rcases z with z | z
  · rcases hp a z with y | y
    · exact n (.inl y)
    · rw [h] at y; cases y
  · exact (k.bad (Φ := Φ) a o h n t).2 (.inr z)
def iOf (C : CF) (T : Tb) (W : WX) (f : IF) : TI := fun σ H R => ∃ Φ μ ρ G, Rel C T Φ μ H σ ρ G ∧ Out C T W Φ ρ σ (fun μ' H' xs J => DW T Φ μ' H' xs J) μ H (f ρ G) R
section
variable {X : Cx}
theorem piImp {tg it : Expr} {t t' : TI} (h : PI X tg it t) (k : ∀ σ H R, t' σ H R → t σ H R) : PI X tg it t' := ⟨fun pins s σ H R I hw => h.run pins s σ H R I (k _ _ _ hw)⟩
end
/-- the items of a value that is walked (what is not pure only where nothing is captured) -/
def iterD (z : List Nat) : D → Option (List D)
  | .p (.tup xs) => some (xs.map D.p)
  | .p (.lst xs) => some (xs.map D.p)
  | .tup xs => if z.isEmpty then some xs else none
  | .lst xs => if z.isEmpty then some xs else none
  | .scr ns => some (ns.map fun n => D.p (.int n))
  | _ => none
def iGen (f : EF) : IF := fun ρ G => (f ρ G).bind fun d G1 => Res.of (iterD ρ.z d) G1
def rangeI (lo : Int) (n : Nat) : List D := (List.range n).map fun i => D.p (.int (lo + (i : Nat)))
/-- within 2^62 either way (told so that no great number is counted down) -/
def okRng : Int → Bool
  | .ofNat n => Nat.ble n 4611686018427387903
  | .negSucc n => Nat.ble n 4611686018427387903
theorem okRng_spec {j : Int} (h : okRng j = true) : -(2 ^ 62) ≤ j ∧ j < 2 ^ 62 := by
  have e : (2 : Int) ^ 62 = 4611686018427387904 := by decide
  rw [e]
  cases j with
  | ofNat n =>
    have h := Nat.le_of_ble_eq_true h
    have : Int.ofNat n = (n : Int) := rfl
    rw [this]
    omega
  | negSucc n =>
    have h := Nat.le_of_ble_eq_true h
    omega
theorem okRng_of {j : Int} (h0 : 0 ≤ j) (h : j < 1000000000000) : okRng j = true := by
  cases j with
  | ofNat n =>
    have h : (n : Int) < 1000000000000 := h
    exact Nat.ble_eq_true_of_le (by omega)
  | negSucc n => omega
def iRange1 (f : EF) : IF := fun ρ G => (f ρ G).bind fun d G1 => match d with
  | .p (.int j) => if okRng j = true then .ok (rangeI 0 j.toNat) G1 else .stuck
  | _ => .stuck
def iRange2 (f g : EF) : IF := fun ρ G => (f ρ G).bind fun d G1 => (g ρ G1).bind fun e G2 => match d, e with
  | .p (.int i), .p (.int j) => if okRng i = true then (if okRng j = true then .ok (rangeI i (j - i).toNat) G2 else .stuck) else .stuck
  | _, _ => .stuck
section
variable {X : Cx} {C : CF} {T : Tb} {W : WX} {tg : Expr} {pos p : Pos}
theorem rangeI_len (lo : Int) (n : Nat) : (rangeI lo n).length = n := by simp [rangeI]
theorem rangeI_get {lo : Int} {n i : Nat} (h : i < n) : (rangeI lo n)[i]? = some (.p (.int (lo + i))) := by simp [rangeI, h]
theorem dw_range {Φ : Addr → Prop} {μ : List Addr} {H : Hp} {lo : Int} {n : Nat} : DW T Φ μ H (rangeI lo n) (Itr lo n) := by
  refine ⟨fun _ => True, fun _ _ _ => trivial, ?_⟩
  rw [rangeI_len]
  refine (walk_range (lo := lo) (n := n)).mono (fun _ h => h) fun i H1 v H2 hi _ ⟨e1, e2⟩ Cl Φ1 μ1 G1 _ _ g => ?_
  subst e1; subst e2
  exact ⟨_, rangeI_get hi, .refl, g, .p (.int _)⟩
/-- the items of a row that stays -/
theorem dw_rows {Φ : Addr → Prop} {μ : List Addr} {H : Hp} {xs : List D} {vs : List V} {J : It} (Gc : Hp → Prop) (w : Walk J vs.length Gc (YAt vs)) (hG : ∀ μ' H', LeB Φ μ H μ' H' → Gc H') (r : ∀ Cl, RDs T Cl Φ μ H xs vs) : DW T Φ μ H xs J := by
  refine ⟨Gc, hG, ?_⟩
  rw [(r fun _ _ => False).length]
  refine w.mono (fun _ h => h) fun i H1 v H2 hi _ ⟨e1, e2⟩ Cl Φ1 μ1 G1 hp k g => ?_
  subst e1
  obtain ⟨d, h1, h2⟩ := (r Cl).getV e2
  exact ⟨d, h1, .refl, g, h2.move (keep_more hp k) (fun _ _ => k.get) fun _ _ z => z⟩
/-- a list or a tuple that is walked -/
theorem pi_row {l : Expr} {tl : TE} (h : PE X l tl) : PI X tg l (fun σ H R => tl σ H fun x H1 => ∃ a, x = .ref a ∧ (((∃ xs, SqL X.K H1 a xs) ∧ R (Itl X.K a) H1) ∨ ((∃ xs, SqT X.K H1 a xs) ∧ R (Itt X.K a) H1))) := by
  refine ⟨fun pins s σ H R I hw => thn (h.run pins s σ H _ I hw) fun v s1 ⟨x, H1, I1, r1, a, ex, q⟩ => ?_⟩
  subst ex
  have ev : v = Value.ref a := r1
  subst ev
  have fresh : ∀ b ∈ [s1.heap.objs.size], FpOk X pins H1 b := fun b hb => by
    rw [List.mem_singleton.mp hb]
    exact I1.fpOk (Nat.le_refl _) (I1.hok.fresh (Nat.le_refl _))
  have push : ∀ o : Obj, Inv X pins σ H1 { s1 with heap := s1.heap.push o } := fun o => I1.kept (t' := s1.toks) fun b u e => Heap.get?_push_of_some _ e
  rcases q with ⟨⟨xs, hx⟩, q⟩ | ⟨⟨xs, hx⟩, q⟩
  · obtain ⟨its, _, pl, _⟩ := I1.list hx
    exact wpAny_pyIter_list pl.isList ⟨_, _, _, _, H1, rfl, push _, turn_list a _, ⟨_, Heap.get?_push_size _ rfl, rfl, rfl⟩, fresh, q⟩
  · obtain ⟨its, _, pl, _⟩ := I1.tuple hx
    exact wpAny_pyIter_tuple (show s1.heap.IsTuple a its.toArray from pl) ⟨_, _, _, _, H1, rfl, push _, turn_tuple a _, ⟨_, Heap.get?_push_size _ rfl, rfl, rfl⟩, fresh, q⟩
theorem rds_ints {Cl : Addr → V → Prop} {Φ : Addr → Prop} {μ : List Addr} {H : Hp} : ∀ ns : List Int, RDs T Cl Φ μ H (ns.map fun n => D.p (.int n)) (ns.map V.int)
  | [] => .nil
  | n :: r => .cons (.p (.int n)) (rds_ints r)
theorem iterD_rd {C : CF} {Φ : Addr → Prop} {μ : List Addr} {H : Hp} {σ : Slots} {ρ : Ro} {d : D} {v : V} {xs : List D} (hz : ρ.z = [] → C.c ρ σ = fun _ _ => False) (h : iterD ρ.z d = some xs) (r : RD T (C.c ρ σ) Φ μ H d v) :
    ∃ a vs, v = .ref a ∧ (SqLB T.K (Bad Φ μ) H a vs ∨ SqTB T.K (Bad Φ μ) H a vs) ∧ ∀ Cl, RDs T Cl Φ μ H xs vs := by
  cases r with
  | p r =>
    cases r with
    | tup h1 h2 => simp only [iterD, Option.some.injEq] at h; subst h; exact ⟨_, _, rfl, .inr h1, fun _ => .ofP h2⟩
    | lst h1 n1 h2 => simp only [iterD, Option.some.injEq] at h; subst h; exact ⟨_, _, rfl, .inl (.inl ⟨.inl h1, n1⟩), fun _ => .ofP h2⟩
    | _ => simp [iterD] at h
  | tup h1 h2 =>
    simp only [iterD] at h
    split at h
    · rename_i hz2
      cases h
      rw [hz (List.isEmpty_iff.mp hz2)] at h2
      exact ⟨_, _, rfl, .inr h1, fun _ => h2.keepC .refl fun _ _ z => z.elim⟩
    · cases h
  | scr h1 =>
    simp only [iterD, Option.some.injEq] at h
    subst h
    exact ⟨_, _, rfl, .inl h1, fun _ => rds_ints _⟩
  | lst h1 n1 h2 =>
    simp only [iterD] at h
    split at h
    · rename_i hz2
      cases h
      rw [hz (List.isEmpty_iff.mp hz2)] at h2
      exact ⟨_, _, rfl, .inl (.inl ⟨.inl h1, n1⟩), fun _ => h2.keepC .refl fun _ _ z => z.elim⟩
    · cases h
  | _ => simp [iterD] at h
/-- where nothing is captured no cell is seen -/
def CF.Nil (C : CF) : Prop := ∀ (ρ : Ro) (σ : Slots), ρ.z = [] → C.c ρ σ = fun _ _ => False
theorem nil_X {X : Cx} : (CX1 X).Nil := fun _ _ h => clX_nil h
theorem nil_B : CB.Nil := fun _ _ _ => rfl
theorem ri_gen {e : Expr} {fe : EF} (hK : T.K = X.K) (hZ : C.Nil) (h : PE X e (eOf C T W fe)) : PI X tg e (iOf C T W (iGen fe)) :=
  piImp (pi_row h) fun σ H R ⟨Φ, μ, ρ, G, r, o⟩ => ⟨Φ, μ, ρ, G, r, o.bind fun v H1 ⟨μ1, G1, d, k1, g1, rd, o1⟩ => by
    cases ed : iterD ρ.z d with
    | none => rw [ed] at o1; exact o1.elim
    | some xs =>
      rw [ed] at o1
      obtain ⟨a, vs, ev, hs, rs⟩ := iterD_rd (hZ ρ σ) ed rd
      refine ⟨a, ev, ?_⟩
      rw [hK] at hs
      rcases hs with hs | hs
      · exact .inl ⟨⟨vs, hs.to⟩, o1 μ1 H1 _ .refl g1 (dw_rows _ walk_list (fun μ' H' k => (hs.keep k.bad).to) rs)⟩
      · exact .inr ⟨⟨vs, hs.to⟩, o1 μ1 H1 _ .refl g1 (dw_rows _ walk_tup (fun μ' H' k => (hs.keep k.bad).to) rs)⟩⟩
theorem ri_range1 {a : Expr} {fa : EF} (hg : Gl X "range") (hm : X.mg "range" = none) (ha : PE X a (eOf C T W fa)) (sa : starEach [a] X.env = (false, eval a X.env) :: starEach [] X.env) (hs : starEach [a] X.env = [(false, eval a X.env)]) :
    PI X tg (.Call (.Name "range" p) [a] [] pos) (iOf C T W (iRange1 fa)) :=
  piImp (pi_range1 hg hm (pa_cons ha pa_nil sa) hs) fun σ H R ⟨Φ, μ, ρ, G, r, o⟩ => ⟨Φ, μ, ρ, G, r, o.bind fun v H1 ⟨μ1, G1, d, k1, g1, rd, o1⟩ => by
    split at o1
    · rename_i j
      split at o1
      · rename_i hj
        cases rd with
        | p rd => cases rd; exact ⟨j, rfl, (okRng_spec hj).1, (okRng_spec hj).2, o1 μ1 H1 _ .refl g1 dw_range⟩
      · exact o1.elim
    · exact o1.elim⟩
theorem ri_range2 {a b : Expr} {fa fb : EF} (hg : Gl X "range") (hm : X.mg "range" = none) (ha : PE X a (eOf C T W fa)) (hb : PE X b (eOf C T W fb)) (sa : starEach [a, b] X.env = (false, eval a X.env) :: starEach [b] X.env) (sb : starEach [b] X.env = (false, eval b X.env) :: starEach [] X.env)
    (hs : starEach [a, b] X.env = [(false, eval a X.env), (false, eval b X.env)]) (hs2 : starEach [b] X.env = [(false, eval b X.env)]) :
    PI X tg (.Call (.Name "range" p) [a, b] [] pos) (iOf C T W (iRange2 fa fb)) :=
  piImp (pi_range2 hg hm (pa_cons ha (pa_cons hb pa_nil sb) sa) hs hs2) fun σ H R ⟨Φ, μ, ρ, G, r, o⟩ => ⟨Φ, μ, ρ, G, r, o.bind fun v H1 ⟨μ1, G1, d, k1, g1, rd, o1⟩ =>
    ⟨Φ, μ1, ρ, G1, r.later k1 g1, o1.bind fun u H2 ⟨μ2, G2, d2, k2, g2, rd2, o2⟩ => by
    have rd := rd.keep k2
    split at o2
    · rename_i i j
      split at o2
      · rename_i hi
        split at o2
        · rename_i hj
          have bi := okRng_spec hi
          have bj := okRng_spec hj
          cases rd with
          | p rd => cases rd with
            | int => cases rd2 with
              | p rd2 => cases rd2; exact ⟨_, _, rfl, ⟨bi.1, bi.2, bj.1, bj.2⟩, o2 μ2 H2 _ .refl g2 dw_range⟩
        · exact o2.elim
      · exact o2.elim
    · exact o2.elim⟩⟩
end

/-! ### for -/
def forL (p : Pt) (body : SF) : List D → Ro → Sto → SR
  | [], ρ, G => .nx ρ G
  | d :: ds, ρ, G => match bindP p d ρ with
    | none => .stuck
    | some ρ1 => match body ρ1 G with
      | .nx ρ2 G2 => forL p body ds ρ2 G2
      | .ct ρ2 G2 => forL p body ds ρ2 G2
      | .bk ρ2 G2 => .nx ρ2 G2
      | .rt d ρ2 G2 => .rt d ρ2 G2
      | .exc x ρ2 G2 => .exc x ρ2 G2
      | .stuck => .stuck
def sFor (p : Pt) (it : IF) (body : SF) : SF := fun ρ G => (it ρ G).st ρ fun ds G1 => forL p body ds ρ G1
section
variable {X : Cx} {C : CF} {T : Tb} {W : WX} {tg it : Expr} {body : List Stmt} {f : SF} {fi : IF} {p : Pt} {pos : Pos}
theorem rs_for (hp : PassesOwn (model X.prog X.w) X.A X.env X.xe) (hc : X.calm = true) (hi : PI X tg it (iOf C T W fi)) (hg : PG X tg (gOf C T (slotsP p) (fun d ρ => bindP p d ρ))) (hb : PSs X body (sOf C T W f))
    (hs : ∀ x, foldedSetIterable it X.env x = pure x) : PS X (.For tg it body [] pos) (sOf C T W (sFor p fi f)) := by
  refine psImp (ps_for hp hc hi hg hb hs) fun Dn σ H ⟨Φ, μ, ρ, G, r, o⟩ => ?_
  refine ⟨Φ, μ, ρ, G, r, SOut.expr r o fun J H1 ⟨μ1, G1, xs, k1, r1, ⟨Gc, hG, w⟩, o1⟩ => ?_⟩
  refine for_it w (fun i σ' H' => i ≤ xs.length ∧ ∃ μ' ρ' G', Le μ1 H1 μ' H' ∧ Rel C T Φ μ' H' σ' ρ' G' ∧ SOut C T W Φ μ' H' (forL p f (xs.drop i) ρ' G') Dn) ⟨Nat.zero_le _, μ1, ρ, G1, .refl, r1, o1⟩ (fun i σ' H' _ ⟨_, μ', ρ', G', k, _, _⟩ => hG μ' H' (.of k)) ?_ ?_
  · rintro i v σ' H' H'' hi ⟨_, μ', ρ', G', k, r', o'⟩ hy
    obtain ⟨d, hd, k2, g2, rd⟩ := hy (C.c ρ' σ') Φ μ' G' (fun _ z => .inl z) (.of k) r'.g
    have e : xs.drop i = d :: xs.drop (i + 1) := by
      obtain ⟨hl, e⟩ := List.getElem?_eq_some_iff.mp hd
      rw [List.drop_eq_getElem_cons hl, e]
    rw [e] at o'
    unfold forL at o'
    cases eb : bindP p d ρ' with
    | none => rw [eb] at o'; exact o'.elim
    | some ρ1 =>
      rw [eb] at o'
      refine ⟨Φ, μ', ρ', G', d, r'.later k2 g2, rd, ρ1, eb, fun σ1 r2 _ => ⟨Φ, μ', ρ1, G', r2, ?_⟩⟩
      dsimp only at o'
      have o' := o'.later k2
      have kk := k.trans k2
      cases ef : f ρ1 G' with
      | nx ρ2 G2 => rw [ef] at o'; exact fun μ3 H3 σ3 k3 r3 => ⟨hi, μ3, ρ2, G2, kk.trans k3, r3, o'.later k3⟩
      | ct ρ2 G2 => rw [ef] at o'; exact fun μ3 H3 σ3 k3 r3 => ⟨hi, μ3, ρ2, G2, kk.trans k3, r3, o'.later k3⟩
      | bk ρ2 G2 => rw [ef] at o'; exact o'
      | rt x ρ2 G2 => rw [ef] at o'; exact o'
      | exc x ρ2 G2 => rw [ef] at o'; exact o'
      | stuck => rw [ef] at o'; exact o'
  · rintro σ' H' ⟨_, μ', ρ', G', k, r', o'⟩
    rw [List.drop_length] at o'
    exact o' μ' H' σ' .refl r'
end

/-! ### while -/
def whileL (c : TF) (body : SF) : Nat → Ro → Sto → SR
  | 0, _, _ => .stuck
  | n + 1, ρ, G => (c ρ G).st ρ fun b G1 => if b = true then (match body ρ G1 with
      | .nx ρ2 G2 => whileL c body n ρ2 G2
      | .ct ρ2 G2 => whileL c body n ρ2 G2
      | .bk ρ2 G2 => .nx ρ2 G2
      | .rt d ρ2 G2 => .rt d ρ2 G2
      | .exc x ρ2 G2 => .exc x ρ2 G2
      | .stuck => .stuck) else .nx ρ G1
section
variable {X : Cx} {C : CF} {T : Tb} {W : WX} {c : Expr} {body : List Stmt} {fc : TF} {f : SF} {pos : Pos}
theorem rs_while (N : Nat) (hp : PassesOwn (model X.prog X.w) X.A X.env X.xe) (hc : PT X c (bOf C T W fc)) (hb : PSs X body (sOf C T W f)) : PS X (.While c body [] pos) (sOf C T W (whileL fc f N)) := by
  refine psImp (ps_while hp hc hb) fun Dn σ H ⟨Φ, μ, ρ, G, r, o⟩ => ?_
  refine ⟨fun m σ' H' => ∃ μ' ρ' G', Rel C T Φ μ' H' σ' ρ' G' ∧ SOut C T W Φ μ' H' (whileL fc f m ρ' G') Dn, ⟨N, μ, ρ, G, r, o⟩, ?_⟩
  rintro m σ' H' ⟨μ', ρ', G', r', o'⟩
  cases m with
  | zero => exact o'.elim
  | succ m =>
    unfold whileL at o'
    refine ⟨Φ, μ', ρ', G', r', SOut.expr r' o' fun b H1 ⟨μ1, G1, b', k1, r1, eb, o1⟩ => ?_⟩
    subst eb
    cases b' with
    | false => exact o1 μ1 H1 σ' .refl r1
    | true =>
      rw [if_pos rfl] at o1 ⊢
      refine ⟨fun σ2 H2 => ∃ μ2 ρ2 G2, Rel C T Φ μ2 H2 σ2 ρ2 G2 ∧ SOut C T W Φ μ2 H2 (whileL fc f m ρ2 G2) Dn, fun σ2 H2 h => ⟨m, Nat.lt_succ_self _, h⟩, Φ, μ1, ρ', G1, r1, ?_⟩
      cases ef : f ρ' G1 with
      | nx ρ2 G2 => rw [ef] at o1; exact fun μ3 H3 σ3 k3 r3 => ⟨μ3, ρ2, G2, r3, o1.later k3⟩
      | ct ρ2 G2 => rw [ef] at o1; exact fun μ3 H3 σ3 k3 r3 => ⟨μ3, ρ2, G2, r3, o1.later k3⟩
      | bk ρ2 G2 => rw [ef] at o1; exact o1
      | rt x ρ2 G2 => rw [ef] at o1; exact o1
      | exc x ρ2 G2 => rw [ef] at o1; exact o1
      | stuck => rw [ef] at o1; exact o1
end
end DL

set_option Elab.async false
set_option linter.all false
set_option maxRecDepth 100000
set_option maxHeartbeats 4000000
/-! DL 4: comprehensions. -/
namespace DL
open PySem PySem.Spec PyProof.Rows L2

/-- no error leaves -/
abbrev W0 : WX := fun _ _ _ _ => False
theorem out_B {X : Cx} {T : Tb} {W : WX} {Φ : Addr → Prop} {ρ : Ro} {σ : Slots} {α β : Type} {R R' : List Addr → Hp → α → β → Prop} {μ : List Addr} {H : Hp} {r : Res α} {Q : β → Hp → Prop} (hz : ρ.z = []) (hR : R = R') (h : Out CB T W Φ ρ σ R μ H r Q) : Out (CX1 X) T W Φ ρ σ R' μ H r Q := by
  subst hR
  have e : (CX1 X).c ρ σ = CB.c ρ σ := clX_nil hz
  unfold Out at h ⊢
  rw [e]
  exact h
section
variable {X : Cx} {T : Tb} {W : WX} {e : Expr} {fe : EF} {fc : TF}
theorem rel_B {Φ : Addr → Prop} {μ : List Addr} {H : Hp} {σ : Slots} {ρ : Ro} {G : Sto} (r : Rel CB T Φ μ H σ ρ G) : Rel (CX1 X) T Φ μ H σ ρ G := by
  have e : (CX1 X).c ρ σ = CB.c ρ σ := clX_nil r.k
  exact ⟨by rw [e]; exact r.g, by rw [e]; exact r.e, trivial⟩
theorem pe_B (h : PE X e (eOf (CX1 X) T W fe)) : PE X e (eOf CB T W fe) := peImp h fun σ H Q ⟨Φ, μ, ρ, G, r, o⟩ => ⟨Φ, μ, ρ, G, rel_B r, out_B r.k (by
    have e : (CX1 X).c ρ σ = CB.c ρ σ := clX_nil r.k
    rw [e]) o⟩
theorem pt_B (h : PT X e (bOf (CX1 X) T W fc)) : PT X e (bOf CB T W fc) := ptImp h fun σ H Q ⟨Φ, μ, ρ, G, r, o⟩ => ⟨Φ, μ, ρ, G, rel_B r, out_B r.k rfl o⟩
end

def wipeR (ρ : Ro) (vs : List Nat) : Ro := ⟨vs.foldr (fun i l => l.set i none) ρ.v, ρ.z⟩
theorem wipeR_nil (ρ : Ro) : wipeR ρ [] = ρ := rfl
def compL (p : Pt) (fc : TF) (fe : EF) : List D → Ro → Sto → Option (List D × Sto)
  | [], _, G => some ([], G)
  | d :: ds, ρ, G => match bindP p d ρ with
    | none => none
    | some ρ1 => match fc ρ1 G with
      | .ok true G1 => match fe ρ1 G1 with
        | .ok y G2 => match compL p fc fe ds ρ G2 with
          | some (ys, G3) => some (y :: ys, G3)
          | none => none
        | _ => none
      | .ok false G1 => compL p fc fe ds ρ G1
      | _ => none
/-- the list of a comprehension -/
def fComp (p : Pt) (vs : List Nat) (it : IF) (fc : TF) (fe : EF) : EF := fun ρ G => if ρ.z.isEmpty then (it ρ G).bind fun xs G1 => match compL p fc fe xs (wipeR ρ vs) G1 with
    | some (ys, G2) => if ys.length ≤ 16777216 then .ok (mkLst ys) G2 else .stuck
    | none => .stuck
  else .stuck
/-- .. that may change later: a new thing of the store -/
def fCompM (p : Pt) (vs : List Nat) (it : IF) (fc : TF) (fe : EF) : EF := fun ρ G => if ρ.z.isEmpty then (it ρ G).bind fun xs G1 => match compL p fc fe xs (wipeR ρ vs) G1 with
    | some (ys, G2) => if ys.length ≤ 16777216 then .ok (.ref G2.length) (G2 ++ [.lst ys]) else .stuck
    | none => .stuck
  else .stuck
section
theorem wipe_in {σ : Slots} {i : Nat} (h : i < σ.length) : ∀ {vs : List Nat}, i ∈ vs → (wipe σ vs)[i]? = some none
  | v :: vs, hi => by
    unfold wipe
    by_cases e : v = i
    · subst e
      exact List.getElem?_set_self (by rw [wipe_length]; exact h)
    · rw [List.getElem?_set_ne e]
      rcases List.mem_cons.mp hi with z | z
      · exact absurd z.symm e
      · exact wipe_in h z
theorem wipe_same {σ σ2 : Slots} {vs is : List Nat} (hs : ∀ i ∈ is, i ∈ vs) (h : SameB is (wipe σ vs) σ2) : wipe σ2 vs = wipe σ vs := by
  have hl : σ2.length = σ.length := by rw [h.1, wipe_length]
  refine List.ext_getElem? fun i => ?_
  by_cases hi : i ∈ vs
  · by_cases hlt : i < σ.length
    · rw [wipe_in hlt hi, wipe_in (by omega) hi]
    · rw [List.getElem?_eq_none (by rw [wipe_length]; omega), List.getElem?_eq_none (by rw [wipe_length]; omega)]
  · rw [wipe_out hi, h.2 i (fun z => hi (hs i z))]
theorem wipeR_get {ρ : Ro} {i : Nat} {d : D} : ∀ {vs : List Nat}, (wipeR ρ vs).v[i]? = some (some d) → ρ.v[i]? = some (some d) ∧ i ∉ vs
  | [], h => ⟨h, by simp⟩
  | v :: vs, h => by
    have h' : ((wipeR ρ vs).v.set v none)[i]? = some (some d) := h
    by_cases e : v = i
    · subst e
      by_cases hv : v < (wipeR ρ vs).v.length
      · rw [List.getElem?_set_self hv] at h'; cases h'
      · rw [List.getElem?_eq_none (by simpa using hv)] at h'; cases h'
    · rw [List.getElem?_set_ne e] at h'
      obtain ⟨h1, h2⟩ := wipeR_get h'
      exact ⟨h1, fun z => by rcases List.mem_cons.mp z with y | y; exact e y.symm; exact h2 y⟩
theorem wipeR_len (ρ : Ro) : ∀ vs : List Nat, (wipeR ρ vs).v.length = ρ.v.length
  | [] => rfl
  | v :: vs => by
    show ((wipeR ρ vs).v.set v none).length = _
    rw [List.length_set, wipeR_len ρ vs]
theorem RE.wipe {T : Tb} {Cl : Addr → V → Prop} {Φ : Addr → Prop} {μ : List Addr} {H : Hp} {ρ : Ro} {σ : Slots} (r : RE T Cl Φ μ H ρ σ) (vs : List Nat) : RE T Cl Φ μ H (wipeR ρ vs) (wipe σ vs) :=
  ⟨by rw [wipeR_len, wipe_length, r.len], fun i d h => by
    obtain ⟨h1, h2⟩ := wipeR_get h
    obtain ⟨v, h3, h4⟩ := r.val i d h1
    exact ⟨v, by rw [wipe_out h2]; exact h3, h4⟩⟩
end

section
variable {T : Tb} {Cl Cl' : Addr → V → Prop} {Φ Φ' : Addr → Prop} {μ μ' : List Addr} {H H' : Hp} {G : Sto}
/-- the object at b, which no one leans on, is another one -/
theorem keep_upd {b : Addr} {o : HO} (hb : Bad Φ μ b) : Keep (Bad Φ μ) H (Bad Φ μ) (upd H b o) := fun a u h n _ => ⟨by rw [upd_ne (fun z => n (by rw [z]; exact hb))]; exact h, n⟩
theorem tabs_upd {tabs : List (Addr × Str)} {b : Addr} {o u : HO} (hb : H b = some u) (h1 : NT u) (h2 : ∀ c q, u ≠ LamX.CodeO c q) (h : LamX.Tabs tabs H) : LamX.Tabs tabs (upd H b o) := fun p hp => by
  obtain ⟨ps, e1, e2, e3⟩ := h p hp
  refine ⟨ps, by rw [upd_ne (fun z => by rw [z, hb] at e1; exact h1 ps (Option.some.inj e1))]; exact e1, e2, fun pos cv hc => ?_⟩
  obtain ⟨c, e4, e5⟩ := e3 pos cv hc
  exact ⟨c, e4, by rw [upd_ne (fun z => by rw [z, hb] at e5; exact h2 _ _ (Option.some.inj e5))]; exact e5⟩
theorem lst_noCode {xs : List V} (c : Addr) (q : Str) : HO.lst xs ≠ LamX.CodeO c q := fun z => by unfold LamX.CodeO at z; cases z
theorem RG.foreign {b : Addr} {o u : HO} (g : RG T Cl Φ μ H G) (hb : Φ b) (hu : H b = some u) (h1 : NT u) (h2 : ∀ c q, u ≠ LamX.CodeO c q) (h3 : MuO o) : RG T Cl Φ μ (upd H b o) G :=
  ⟨g.len, g.nd, g.dis, fun a h => by
    by_cases e : a = b
    · rw [e]; exact ⟨o, upd_same, h3⟩
    · rw [upd_ne e]; exact g.phi a h, fun n a mo e1 e2 => (g.obj n a mo e1 e2).move (keep_upd (.inl hb)) (fun _ _ h => h) (fun _ _ h => h) (upd_ne fun z => g.dis a (List.mem_of_getElem? e1) (z ▸ hb)), tabs_upd hu h1 h2 g.tabs, fun q hq => (g.con q hq).keep (keep_upd (.inl hb))⟩
theorem le_upd {H1 : Hp} {μ1 : List Addr} {b : Addr} {o : HO} (k : Le μ1 H1 μ H) (hb : H1 b = none) : Le μ1 H1 μ (upd H b o) :=
  ⟨fun a u h n t => by rw [upd_ne (fun z => by rw [z, hb] at h; cases h)]; exact k.keep a u h n t, k.pre, k.out, fun a h => by
    by_cases e : a = b
    · rw [e, upd_same]; simp
    · rw [upd_ne e]; exact k.there a h⟩
theorem RG.less (g : RG T Cl Φ' μ H G) (h : ∀ a, Φ a → Φ' a) : RG T Cl Φ μ H G :=
  ⟨g.len, g.nd, fun a ha z => g.dis a ha (h a z), fun a z => g.phi a (h a z), fun n a mo e1 e2 => (g.obj n a mo e1 e2).move (fun c o hc nb _ => ⟨hc, fun z => nb (z.imp (h c) id)⟩) (fun _ _ z => z) (fun _ _ z => z) rfl, g.tabs, fun q hq => (g.con q hq).keep fun c o hc nb _ => ⟨hc, fun z => nb (z.imp (h c) id)⟩⟩
theorem keep_less (h : ∀ a, Φ a → Φ' a) : Keep (Bad Φ' μ) H (Bad Φ μ) H := fun c o hc nb _ => ⟨hc, fun z => nb (z.imp (h c) id)⟩
/-- one more address that may change, not yet there -/
theorem keep_one {b : Addr} {o : HO} (hb : H b = none) : Keep (Bad Φ μ) H (Bad (fun a => Φ a ∨ a = b) μ) (upd H b o) := fun a u h n _ => by
  have ne : a ≠ b := ne_of_none h hb
  refine ⟨by rw [upd_ne ne]; exact h, fun z => ?_⟩
  rcases z with (z | z) | z
  · exact n (.inl z)
  · exact ne z
  · exact n (.inr z)
theorem RG.one {b : Addr} {o : HO} (g : RG T Cl Φ μ H G) (hb : H b = none) (hm : MuO o) : RG T Cl (fun a => Φ a ∨ a = b) μ (upd H b o) G :=
  ⟨g.len, g.nd, fun a ha z => by
    rcases z with z | z
    · exact g.dis a ha z
    · exact g.mem ha (z ▸ hb), fun a z => by
      by_cases e : a = b
      · rw [e]; exact ⟨o, upd_same, hm⟩
      · rw [upd_ne e]; exact g.phi a (z.resolve_right e), fun n a mo e1 e2 => (g.obj n a mo e1 e2).move (keep_one hb) (fun _ _ z => z) (fun _ _ z => z) (upd_ne fun z => (g.obj n a mo e1 e2).there (z ▸ hb)), tabs_new hb g.tabs, fun q hq => (g.con q hq).keep (keep_one hb)⟩
end

section
variable {X : Cx} {C : CF} {T : Tb} {W : WX} {fi : IF} {fc : TF} {fe : EF} {p : Pt} {vs : List Nat}
/-- the core: what a list comprehension's reading wants; k: what is made of the list D of vs' values ys -/
theorem comp_core {k : List D → Sto → Res D} (hZ : C.Nil) (hp : ∀ i ∈ slotsP p, i ∈ vs) {σ : Slots} {H : Hp} {Q : VK}
    (hk : ∀ (Φ : Addr → Prop) (μ : List Addr) (H : Hp) (ρ : Ro) (G : Sto) (L : Addr) (ys : List D) (ws : List V), Rel C T Φ μ H σ ρ G → ¬ Bad Φ μ L → H L = some (.lst ws) → RDs T (C.c ρ σ) Φ μ H ys ws → ∀ (μ0 : List Addr) (H0 : Hp), Le μ0 H0 μ H → H0 L = none → Out C T W Φ ρ σ (RD T (C.c ρ σ) Φ) μ0 H0 (k ys G) Q → Q (.ref L) H)
    (hw : eOf C T W (fun ρ G => if ρ.z.isEmpty then (fi ρ G).bind fun xs G1 => match compL p fc fe xs (wipeR ρ vs) G1 with
      | some (ys, G2) => if ys.length ≤ 16777216 then k ys G2 else .stuck
      | none => .stuck else .stuck) σ H Q) :
    tLc (iOf C T W fi) (gOf CB T (slotsP p) (fun d ρ => bindP p d ρ)) (bOf CB T W0 fc) (eOf CB T W0 fe) vs σ H Q := by
  obtain ⟨Φ, μ, ρ, G, r, o⟩ := hw
  dsimp only at o
  split at o
  case isFalse => exact o.elim
  rename_i hz
  have hz : ρ.z = [] := List.isEmpty_iff.mp hz
  have eC := hZ ρ σ hz
  refine ⟨Φ, μ, ρ, G, r, o.bind fun J H1 ⟨μ1, G1, xs, k1, g1, ⟨Gc, hG, w⟩, o1⟩ => fun L hL => ?_⟩
  have r1 := r.later k1 g1
  refine lc_it w (fun i H' => i ≤ xs.length ∧ ∃ (μ' : List Addr) (G' : Sto) (ys : List D) (ws : List V), Le μ1 H1 μ' H' ∧ Rel CB T (fun a => Φ a ∨ a = L) μ' H' (wipe σ vs) (wipeR ρ vs) G' ∧ H' L = some (.lst ws) ∧ RDs T (fun _ _ => False) (fun a => Φ a ∨ a = L) μ' H' ys ws ∧
    ∃ zs G2, compL p fc fe (xs.drop i) (wipeR ρ vs) G' = some (zs, G2) ∧ (ys ++ zs).length ≤ 16777216 ∧ Out C T W Φ ρ σ (RD T (C.c ρ σ) Φ) μ1 H1 (k (ys ++ zs) G2) Q) ?_ ?_ ?_ ?_
  · refine ⟨Nat.zero_le _, μ1, G1, [], [], le_upd .refl hL, ⟨?_, ?_, hz⟩, upd_same, .nil, ?_⟩
    · have g2 := r1.g
      rw [eC] at g2
      exact g2.one hL mu_lst
    · have e2 := r1.e.wipe vs
      rw [eC] at e2
      exact ⟨e2.len, fun i d h => let ⟨v, h1, h2⟩ := e2.val i d h; ⟨v, h1, h2.move (keep_one hL) (fun _ _ z => z) fun _ _ z => z⟩⟩
    · cases ec : compL p fc fe xs (wipeR ρ vs) G1 with
      | none => rw [ec] at o1; exact o1.elim
      | some q =>
        obtain ⟨zs, G2⟩ := q
        rw [ec] at o1
        dsimp only at o1
        split at o1
        · rename_i hl
          exact ⟨zs, G2, by rw [List.drop_zero]; exact ec, by simpa using hl, by simpa using o1⟩
        · exact o1.elim
  · rintro i H' _ ⟨_, μ', G', ys, ws, k', _⟩
    exact hG μ' H' (.of k')
  · rintro i v H' H'' hi ⟨_, μ', G', ys, ws, k', r', hD, ry, zs, G2, ec, hl, oo⟩ hy
    obtain ⟨d, hd, k2, g2, rd⟩ := hy (fun _ _ => False) (fun a => Φ a ∨ a = L) μ' G' (fun a z => z.imp id fun z => by rw [z]; exact hL) (.of k') r'.g
    have e : xs.drop i = d :: xs.drop (i + 1) := by
      obtain ⟨hlt, e⟩ := List.getElem?_eq_some_iff.mp hd
      rw [List.drop_eq_getElem_cons hlt, e]
    rw [e] at ec
    unfold compL at ec
    have hD2 : H'' L = some (.lst ws) := k2.keep L _ hD (fun z => r'.g.dis L z (.inr rfl)) nt_lst
    have ry := ry.keep k2
    have kk := k'.trans k2
    have r2 : Rel CB T (fun a => Φ a ∨ a = L) μ' H'' (wipe σ vs) (wipeR ρ vs) G' := r'.later k2 g2
    cases eb : bindP p d (wipeR ρ vs) with
    | none => rw [eb] at ec; cases ec
    | some ρ1 =>
      rw [eb] at ec
      dsimp only at ec
      refine ⟨_, μ', wipeR ρ vs, G', d, r2, rd, ρ1, eb, fun σ2 r3 s3 => ⟨wipe_same hp s3, ?_⟩⟩
      refine ⟨_, μ', ρ1, G', r3, ?_⟩
      -- behind the test
      cases efc : fc ρ1 G' with
      | exc x G3 => rw [efc] at ec; cases ec
      | stuck => rw [efc] at ec; cases ec
      | ok b G3 =>
        rw [efc] at ec
        intro μ3 H3 b' k3 g3 eb'
        subst eb'
        have hD3 : H3 L = some (.lst ws) := k3.keep L _ hD2 (fun z => r2.g.dis L z (.inr rfl)) nt_lst
        have ry3 := ry.keep k3
        have kk3 := kk.trans k3
        have g3 : RG T (fun _ _ => False) (fun a => Φ a ∨ a = L) μ3 H3 G3 := g3
        cases b with
        | false =>
          rw [if_neg Bool.false_ne_true]
          exact ⟨hi, μ3, G3, ys, ws, kk3, r2.later k3 g3, hD3, ry3, zs, G2, ec, hl, oo⟩
        | true =>
          rw [if_pos rfl]
          dsimp only at ec
          refine ⟨_, μ3, ρ1, G3, r3.later k3 g3, ?_⟩
          cases efe : fe ρ1 G3 with
          | exc x G4 => rw [efe] at ec; cases ec
          | stuck => rw [efe] at ec; cases ec
          | ok y G4 =>
            rw [efe] at ec
            dsimp only at ec
            intro μ4 H4 yv k4 g4 ryv
            cases er : compL p fc fe (xs.drop (i + 1)) (wipeR ρ vs) G4 with
            | none => rw [er] at ec; cases ec
            | some q =>
              obtain ⟨zs', G5⟩ := q
              rw [er] at ec
              dsimp only at ec
              have ec := Option.some.inj ec
              obtain ⟨ez, eG⟩ := Prod.mk.inj ec
              subst ez; subst eG
              have g4 : RG T (fun _ _ => False) (fun a => Φ a ∨ a = L) μ4 H4 G4 := g4
              have hD4 : H4 L = some (.lst ws) := k4.keep L _ hD3 (fun z => g3.dis L z (.inr rfl)) nt_lst
              have ry4 := ry3.keep k4
              have hlen : ys.length < sizeLine := by
                rw [sizeLine_eq]
                simp at hl
                omega
              refine ⟨ws, hD4, by rw [← ry4.length]; exact hlen, hi, μ4, G4, ys ++ [y], ws ++ [yv], le_upd (kk3.trans k4) hL, ⟨g4.foreign (.inr rfl) hD4 nt_lst lst_noCode mu_lst, ?_, hz⟩, upd_same, ?_, zs', G5, er, by simpa using hl, by simpa using oo⟩
              · have e5 := (r2.e.keep k3).keep k4
                exact ⟨e5.len, fun i d h => let ⟨v, h1, h2⟩ := e5.val i d h; ⟨v, h1, h2.move (keep_upd (.inl (.inr rfl))) (fun _ _ z => z) fun _ _ z => z⟩⟩
              · exact (ry4.append (.cons ryv .nil)).move (keep_upd (.inl (.inr rfl))) (fun _ _ z => z) fun _ _ z => z
  · rintro H' ⟨_, μ', G', ys, ws, k', r', hD, ry, zs, G2, ec, hl, oo⟩
    rw [List.drop_length] at ec
    unfold compL at ec
    have ec := Option.some.inj ec
    obtain ⟨ez, eG⟩ := Prod.mk.inj ec
    subst ez; subst eG
    rw [List.append_nil] at oo
    have gC : RG T (C.c ρ σ) Φ μ' H' G' := (r'.g.less fun a z => .inl z).cells fun _ _ z => z.elim
    have rC : Rel C T Φ μ' H' σ ρ G' := ⟨gC, r1.e.keep k', r.k⟩
    refine hk Φ μ' H' ρ G' L ys ws rC (fun z => ?_) hD (ry.move (keep_less fun a z => .inl z) (fun _ _ z => z) fun _ _ z => z.elim) μ1 H1 k' hL oo
    rcases z with z | z
    · exact r1.g.phi0 z hL
    · exact r'.g.dis L z (.inr rfl)
theorem comp_frozen (hZ : C.Nil) (hp : ∀ i ∈ slotsP p, i ∈ vs) {σ : Slots} {H : Hp} {Q : VK} (hw : eOf C T W (fComp p vs fi fc fe) σ H Q) : tLc (iOf C T W fi) (gOf CB T (slotsP p) (fun d ρ => bindP p d ρ)) (bOf CB T W0 fc) (eOf CB T W0 fe) vs σ H Q :=
  comp_core (k := fun ys G => .ok (mkLst ys) G) hZ hp (fun Φ μ H ρ G L ys ws r nb hL ry μ0 H0 k _ o => o μ H _ k r.g (mkLst_rd hL nb ry)) hw
/-- a thing that stands already is taken into the store -/
theorem RG.adopt {Cl : Addr → V → Prop} {Φ : Addr → Prop} {μ : List Addr} {H : Hp} {G : Sto} {b : Addr} {mo : MO} (g : RG T Cl Φ μ H G) (nb : ¬ Bad Φ μ b) (hm : MoR T Cl Φ (μ ++ [b]) H b mo)
    (ho : ∀ (n : Nat) (a : Addr) (m : MO), μ[n]? = some a → G[n]? = some m → MoR T Cl Φ (μ ++ [b]) H a m) (hc : ∀ q ∈ T.con, RP T.K T.ga (Bad Φ (μ ++ [b])) H q.1 q.2) : RG T Cl Φ (μ ++ [b]) H (G ++ [mo]) := by
  refine ⟨by simp [g.len], ?_, fun a ha => ?_, g.phi, fun n a m h1 h2 => ?_, g.tabs, hc⟩
  · rw [List.nodup_append]
    exact ⟨g.nd, by simp, fun a ha c hc => by rw [List.mem_singleton.mp hc]; rintro rfl; exact nb (.inr ha)⟩
  · rcases List.mem_append.mp ha with z | z
    · exact g.dis a z
    · rw [List.mem_singleton.mp z]; exact fun q => nb (.inl q)
  · by_cases hn : n < μ.length
    · rw [List.getElem?_append_left hn] at h1
      rw [List.getElem?_append_left (by rw [← g.len]; exact hn)] at h2
      exact ho n a m h1 h2
    · have e : n = μ.length := by
        have := (List.getElem?_eq_some_iff.mp h1).1
        simp at this; omega
      subst e
      rw [List.getElem?_append_right (Nat.le_refl _)] at h1
      rw [List.getElem?_append_right (by rw [g.len]; exact Nat.le_refl _)] at h2
      simp at h1
      rw [g.len] at h2
      simp at h2
      subst h1; subst h2
      exact hm
end
section
variable {X : Cx} {C : CF} {T : Tb} {W : WX} {fi : IF} {fc : TF} {fe : EF} {p : Pt} {elt tg it : Expr} {ifs : List Expr} {scope : Scope} {own : List (Str × Nat)} {pos : Pos}
theorem re_lc (hZ : C.Nil) (hc : X.calm = true) (hN : X.N.Nodup) (ok : BlkOk X.N X.env.scope scope own) (hp : ∀ i ∈ slotsP p, i ∈ own.map (·.2)) (hi : PI X tg it (iOf C T W fi))
    (hg : ∀ (s : Shared) (H : Hp) (a : Addr) (cl : List (Str × Addr)) (fp : List Addr), PG (X.blk s H scope (compEnvC scope cl a X.env) fp) tg (gOf CB T (slotsP p) (fun d ρ => bindP p d ρ)))
    (ht : ∀ (s : Shared) (H : Hp) (a : Addr) (cl : List (Str × Addr)) (fp : List Addr), PTs (X.blk s H scope (compEnvC scope cl a X.env) fp) ifs (bOf CB T W0 fc))
    (he : ∀ (s : Shared) (H : Hp) (a : Addr) (cl : List (Str × Addr)) (fp : List Addr), PE (X.blk s H scope (compEnvC scope cl a X.env) fp) elt (eOf CB T W0 fe)) (hs : ∀ x, foldedSetIterable it X.env x = pure x) :
    PE X (.ListComp elt [⟨tg, it, ifs, 0⟩] scope pos) (eOf C T W (fComp p (own.map (·.2)) fi fc fe)) :=
  peImp (pe_lc hc hN hi ok hg ht he hs) fun σ H Q hw => comp_frozen hZ hp hw
theorem rs_setLc {i : Nat} {y : Str} {py spos : Pos} (hC : C.Good) (hZ : C.Nil) (hc : X.calm = true) (hN : X.N.Nodup) (hy : X.N[i]? = some y) (hyl : X.env.scope.names.lookup y = some .local)
    (hsw : swapsWith (.ListComp elt [⟨tg, it, ifs, 0⟩] scope pos) (some (.Name y py)) spos.line X.env = pure true) (ok : BlkOk X.N X.env.scope scope own) (hp : ∀ i ∈ slotsP p, i ∈ own.map (·.2)) (hi : PI X tg it (iOf C T W fi))
    (hg : ∀ (s : Shared) (H : Hp) (a : Addr) (cl : List (Str × Addr)) (fp : List Addr), PG (X.blk s H scope (compEnvC scope cl a X.env) fp) tg (gOf CB T (slotsP p) (fun d ρ => bindP p d ρ)))
    (ht : ∀ (s : Shared) (H : Hp) (a : Addr) (cl : List (Str × Addr)) (fp : List Addr), PTs (X.blk s H scope (compEnvC scope cl a X.env) fp) ifs (bOf CB T W0 fc))
    (he : ∀ (s : Shared) (H : Hp) (a : Addr) (cl : List (Str × Addr)) (fp : List Addr), PE (X.blk s H scope (compEnvC scope cl a X.env) fp) elt (eOf CB T W0 fe)) (hs : ∀ x, foldedSetIterable it X.env x = pure x) :
    PS X (.Assign [.Name y py] (.ListComp elt [⟨tg, it, ifs, 0⟩] scope pos) spos) (sOf C T W (sAsg (.v i) (fComp p (own.map (·.2)) fi fc fe))) := by
  refine psImp (ps_setLc hc hN hy hyl hsw hi ok hg ht he hs) fun D σ H hw => ?_
  obtain ⟨Φ, μ, ρ, G, r, o⟩ := hw
  refine comp_frozen hZ hp ⟨Φ, μ, ρ, G, r, SOut.expr r o fun v H1 ⟨μ1, G1, d, k1, r1, rd, o1⟩ => ?_⟩
  cases eb : bindP (.v i) d ρ with
  | none => rw [eb] at o1; exact o1.elim
  | some ρ' =>
    rw [eb] at o1
    unfold bindP at eb
    exact o1 μ1 H1 _ .refl (r1.store hC rd eb)
end
end DL

set_option Elab.async false
set_option linter.all false
set_option maxRecDepth 100000
set_option maxHeartbeats 4000000
/-! DL C: comprehensions with two for. -/
namespace DL
open PySem PySem.Spec PyProof.Rows L2

def compL2 (p : Pt) (fc : TF) (inner : Ro → Sto → Option (List D × Sto)) : List D → Ro → Sto → Option (List D × Sto)
  | [], _, G => some ([], G)
  | d :: ds, ρ, G => match bindP p d ρ with
    | none => none
    | some ρ1 => match fc ρ1 G with
      | .ok true G1 => match inner ρ1 G1 with
        | some (ys, G2) => match compL2 p fc inner ds ρ G2 with
          | some (zs, G3) => some (ys ++ zs, G3)
          | none => none
        | none => none
      | .ok false G1 => compL2 p fc inner ds ρ G1
      | _ => none
def innerL (p1 : Pt) (vs1 : List Nat) (it1 : IF) (fc1 : TF) (fe : EF) (ρ : Ro) (G : Sto) : Option (List D × Sto) := match it1 ρ G with
  | .ok xs G1 => compL p1 fc1 fe xs (wipeR ρ vs1) G1
  | _ => none
def fComp2 (p : Pt) (vs : List Nat) (it : IF) (fc : TF) (p1 : Pt) (vs1 : List Nat) (it1 : IF) (fc1 : TF) (fe : EF) : EF := fun ρ G => if ρ.z.isEmpty then (it ρ G).bind fun xs G1 => match compL2 p fc (innerL p1 vs1 it1 fc1 fe) xs (wipeR ρ vs) G1 with
    | some (ys, G2) => if ys.length ≤ 16777216 then .ok (mkLst ys) G2 else .stuck
    | none => .stuck
  else .stuck
section
variable {X : Cx} {C : CF} {T : Tb} {W : WX} {fi fi1 : IF} {fc fc1 : TF} {fe : EF} {p p1 : Pt} {vs vs1 : List Nat}
theorem LeB.le {Φ : Addr → Prop} {μ μ' μ'' : List Addr} {H H' H'' : Hp} (a : LeB Φ μ H μ' H') (b : Le μ' H' μ'' H'') : LeB Φ μ H μ'' H'' := by
  refine ⟨fun c o h n t => ?_, ?_, fun c hc => ?_, fun c h => b.there c (a.there c h)⟩
  · have z := a.bad c o h n t
    exact b.keep c o z.1 (fun y => z.2 (.inr y)) t
  · obtain ⟨l, e⟩ := a.pre
    obtain ⟨l2, e2⟩ := b.pre
    exact ⟨l ++ l2, by rw [e2, e, List.append_assoc]⟩
  · rcases b.out c hc with z | z
    · exact a.out c z
    · cases hh : H c with
      | none => exact .inr rfl
      | some o => exact absurd z (a.there c (by rw [hh]; simp))
theorem LeB.upd {Φ : Addr → Prop} {μ μ' : List Addr} {H H' : Hp} {b : Addr} {o : HO} (a : LeB Φ μ H μ' H') (hb : Φ b) : LeB Φ μ H μ' (upd H' b o) :=
  ⟨fun c u h n t => by rw [upd_ne fun z => n (.inl (by rw [z]; exact hb))]; exact a.keep c u h n t, a.pre, a.out, fun c h => by
    by_cases e : c = b
    · rw [e, upd_same]; simp
    · rw [upd_ne e]; exact a.there c h⟩
abbrev PhL (Φ : Addr → Prop) (L : Addr) : Addr → Prop := fun a => Φ a ∨ a = L
/-- one for, within: xs1's lap from a state; Nx is reached from all that may stand behind -/
theorem inner_core (hp1 : ∀ i ∈ slotsP p1, i ∈ vs1) {Φ : Addr → Prop} {μ1 : List Addr} {H1 : Hp} {L : Addr} (hL : H1 L = none) {ρ1 : Ro} {σ2 : Slots} (hz : ρ1.z = []) {ρ0 : Ro} {σ0 : Slots} {Nx : Hp → Prop} {J1 : It} {xs1 : List D} {μa : List Addr} {Ha : Hp} (w1 : DW T (PhL Φ L) μa Ha xs1 J1) {B : List D → Sto → Prop}
    (hN : ∀ (H' : Hp) (μ' : List Addr) (G' : Sto) (ys : List D) (ws : List V), Le μ1 H1 μ' H' → RG T (fun _ _ => False) (PhL Φ L) μ' H' G' → RE T (fun _ _ => False) (PhL Φ L) μ' H' ρ0 σ0 → H' L = some (.lst ws) → RDs T (fun _ _ => False) (PhL Φ L) μ' H' ys ws → B ys G' → Nx H')
    {G0 : Sto} {ys0 : List D} {ws0 : List V} (ka : Le μ1 H1 μa Ha) (ga : RG T (fun _ _ => False) (PhL Φ L) μa Ha G0) (ea : RE T (fun _ _ => False) (PhL Φ L) μa Ha ρ0 σ0) (e1 : RE T (fun _ _ => False) (PhL Φ L) μa Ha (wipeR ρ1 vs1) (wipe σ2 vs1)) (ha : Ha L = some (.lst ws0)) (ra : RDs T (fun _ _ => False) (PhL Φ L) μa Ha ys0 ws0)
    (hc : ∃ zs G2, compL p1 fc1 fe xs1 (wipeR ρ1 vs1) G0 = some (zs, G2) ∧ (ys0 ++ zs).length ≤ 16777216 ∧ B (ys0 ++ zs) G2) :
    ∃ W1 : Nat → Nat → Hp → Prop, (∃ m, W1 0 m Ha) ∧ ∀ j k H, W1 j k H →
      (J1.stop j H ∧ Nx H) ∨ (J1.go j H ∧ ∃ Nx1 : Hp → Prop, (∀ H', Nx1 H' → ∃ k', k' < k ∧ W1 (j + 1) k' H') ∧ ∀ x H', J1.yld j H x H' → gOf CB T (slotsP p1) (fun d ρ => bindP p1 d ρ) x (wipe σ2 vs1) H' fun σ3 H5 => wipe σ3 vs1 = wipe σ2 vs1 ∧ bOf CB T W0 fc1 σ3 H5 fun b H6 =>
        if b = true then eOf CB T W0 fe σ3 H6 fun y H7 => ∃ acc, H7 L = some (.lst acc) ∧ acc.length < sizeLine ∧ Nx1 (upd H7 L (.lst (acc ++ [y]))) else Nx1 H6) := by
  obtain ⟨Gc, hG, w⟩ := w1
  obtain ⟨zs0, Gz, hc1, hc2, hc3⟩ := hc
  let Pv : Nat → Hp → Prop := fun j H' => ∃ (μ' : List Addr) (G' : Sto) (ys : List D) (ws : List V), LeB (PhL Φ L) μa Ha μ' H' ∧ Le μ1 H1 μ' H' ∧ Rel CB T (PhL Φ L) μ' H' (wipe σ2 vs1) (wipeR ρ1 vs1) G' ∧ RE T (fun _ _ => False) (PhL Φ L) μ' H' ρ0 σ0 ∧ H' L = some (.lst ws) ∧ RDs T (fun _ _ => False) (PhL Φ L) μ' H' ys ws ∧
    ∃ zs G2, compL p1 fc1 fe (xs1.drop j) (wipeR ρ1 vs1) G' = some (zs, G2) ∧ (ys ++ zs).length ≤ 16777216 ∧ B (ys ++ zs) G2
  refine ⟨fun j k H' => k = xs1.length - j ∧ j ≤ xs1.length ∧ Pv j H', ⟨xs1.length, by simp, Nat.zero_le _, μa, G0, ys0, ws0, .of .refl, ka, ⟨ga, e1, hz⟩, ea, ha, ra, zs0, Gz, by rw [List.drop_zero]; exact hc1, hc2, hc3⟩, ?_⟩
  rintro j k H' ⟨rfl, hj, μ', G', ys, ws, kb, k', r', e0, hD, ry, zs, G2, ec, hl, hB⟩
  have hgc := hG μ' H' kb
  by_cases hlt : j < xs1.length
  · refine .inr ⟨w.goes j H' hlt hgc, fun H' => j + 1 ≤ xs1.length ∧ Pv (j + 1) H', fun H'' p' => ⟨xs1.length - (j + 1), by omega, rfl, p'.1, p'.2⟩, fun v H'' y => ?_⟩
    obtain ⟨d, hd, k2, g2, rd⟩ := w.yields j H' v H'' hlt hgc y (fun _ _ => False) (PhL Φ L) μ' G' (fun a z => .inl z) kb r'.g
    have e : xs1.drop j = d :: xs1.drop (j + 1) := by
      obtain ⟨hlt, e⟩ := List.getElem?_eq_some_iff.mp hd
      rw [List.drop_eq_getElem_cons hlt, e]
    rw [e] at ec
    unfold compL at ec
    have hD2 : H'' L = some (.lst ws) := k2.keep L _ hD (fun z => r'.g.dis L z (.inr rfl)) nt_lst
    have ry := ry.keep k2
    have kk := k'.trans k2
    have kb2 := kb.le k2
    have e0 := e0.keep k2
    have r2 : Rel CB T (PhL Φ L) μ' H'' (wipe σ2 vs1) (wipeR ρ1 vs1) G' := r'.later k2 g2
    cases eb : bindP p1 d (wipeR ρ1 vs1) with
    | none => rw [eb] at ec; cases ec
    | some ρ3 =>
      rw [eb] at ec
      dsimp only at ec
      refine ⟨_, μ', wipeR ρ1 vs1, G', d, r2, rd, ρ3, eb, fun σ3 r3 s3 => ⟨wipe_same hp1 s3, ?_⟩⟩
      refine ⟨_, μ', ρ3, G', r3, ?_⟩
      cases efc : fc1 ρ3 G' with
      | exc x G3 => rw [efc] at ec; cases ec
      | stuck => rw [efc] at ec; cases ec
      | ok b G3 =>
        rw [efc] at ec
        intro μ3 H3 b' k3 g3 eb'
        subst eb'
        have hD3 : H3 L = some (.lst ws) := k3.keep L _ hD2 (fun z => r2.g.dis L z (.inr rfl)) nt_lst
        have ry3 := ry.keep k3
        have kk3 := kk.trans k3
        have g3 : RG T (fun _ _ => False) (PhL Φ L) μ3 H3 G3 := g3
        cases b with
        | false =>
          rw [if_neg Bool.false_ne_true]
          exact ⟨hlt, μ3, G3, ys, ws, kb2.le k3, kk3, r2.later k3 g3, e0.keep k3, hD3, ry3, zs, G2, ec, hl, hB⟩
        | true =>
          rw [if_pos rfl]
          dsimp only at ec
          refine ⟨_, μ3, ρ3, G3, r3.later k3 g3, ?_⟩
          cases efe : fe ρ3 G3 with
          | exc x G4 => rw [efe] at ec; cases ec
          | stuck => rw [efe] at ec; cases ec
          | ok y G4 =>
            rw [efe] at ec
            dsimp only at ec
            intro μ4 H4 yv k4 g4 ryv
            cases er : compL p1 fc1 fe (xs1.drop (j + 1)) (wipeR ρ1 vs1) G4 with
            | none => rw [er] at ec; cases ec
            | some q =>
              obtain ⟨zs', G5⟩ := q
              rw [er] at ec
              dsimp only at ec
              have ec := Option.some.inj ec
              obtain ⟨ez, eG⟩ := Prod.mk.inj ec
              subst ez; subst eG
              have g4 : RG T (fun _ _ => False) (PhL Φ L) μ4 H4 G4 := g4
              have hD4 : H4 L = some (.lst ws) := k4.keep L _ hD3 (fun z => g3.dis L z (.inr rfl)) nt_lst
              have ry4 := ry3.keep k4
              have hlen : ys.length < sizeLine := by
                rw [sizeLine_eq]
                simp at hl
                omega
              have mv : ∀ {ρ : Ro} {σ : Slots}, RE T (fun _ _ => False) (PhL Φ L) μ4 H4 ρ σ → RE T (fun _ _ => False) (PhL Φ L) μ4 (upd H4 L (.lst (ws ++ [yv]))) ρ σ := fun e5 => ⟨e5.len, fun i d h => let ⟨v, h1, h2⟩ := e5.val i d h; ⟨v, h1, h2.move (keep_upd (.inl (.inr rfl))) (fun _ _ z => z) fun _ _ z => z⟩⟩
              refine ⟨ws, hD4, by rw [← ry4.length]; exact hlen, hlt, μ4, G4, ys ++ [y], ws ++ [yv], ((kb2.le k3).le k4).upd (.inr rfl), le_upd (kk3.trans k4) hL, ⟨g4.foreign (.inr rfl) hD4 nt_lst lst_noCode mu_lst, mv ((r2.e.keep k3).keep k4), r2.k⟩, mv ((e0.keep k3).keep k4), upd_same, ?_, zs', G5, er, by simpa using hl, by simpa using hB⟩
              exact (ry4.append (.cons ryv .nil)).move (keep_upd (.inl (.inr rfl))) (fun _ _ z => z) fun _ _ z => z
  · have e : j = xs1.length := by omega
    subst e
    rw [List.drop_length] at ec
    unfold compL at ec
    have ec := Option.some.inj ec
    obtain ⟨ez, eG⟩ := Prod.mk.inj ec
    subst ez; subst eG
    rw [List.append_nil] at hB
    exact .inl ⟨w.stops H' hgc, hN H' μ' G' ys ws k' r'.g e0 hD ry hB⟩
theorem comp2_to (hZ : C.Nil) (hp : ∀ i ∈ slotsP p, i ∈ vs) (hp1 : ∀ i ∈ slotsP p1, i ∈ vs1) {σ : Slots} {H : Hp} {Q : VK} (hw : eOf C T W (fComp2 p vs fi fc p1 vs1 fi1 fc1 fe) σ H Q) :
    tLc2 (iOf C T W fi) (gOf CB T (slotsP p) (fun d ρ => bindP p d ρ)) (bOf CB T W0 fc) (iOf CB T W0 fi1) (gOf CB T (slotsP p1) (fun d ρ => bindP p1 d ρ)) (bOf CB T W0 fc1) (eOf CB T W0 fe) vs vs1 σ H Q := by
  obtain ⟨Φ, μ, ρ, G, r, o⟩ := hw
  unfold fComp2 at o
  split at o
  case isFalse => exact o.elim
  rename_i hz
  have hz : ρ.z = [] := List.isEmpty_iff.mp hz
  have eC := hZ ρ σ hz
  refine ⟨Φ, μ, ρ, G, r, o.bind fun J H1 ⟨μ1, G1, xs, k1, g1, ⟨Gc, hG, w⟩, o1⟩ => fun L hL => ?_⟩
  have r1 := r.later k1 g1
  let inr : Ro → Sto → Option (List D × Sto) := innerL p1 vs1 fi1 fc1 fe
  let Pv : Nat → Hp → Prop := fun i H' => ∃ (μ' : List Addr) (G' : Sto) (ys : List D) (ws : List V), Le μ1 H1 μ' H' ∧ Rel CB T (PhL Φ L) μ' H' (wipe σ vs) (wipeR ρ vs) G' ∧ H' L = some (.lst ws) ∧ RDs T (fun _ _ => False) (PhL Φ L) μ' H' ys ws ∧
    ∃ zs G2, compL2 p fc inr (xs.drop i) (wipeR ρ vs) G' = some (zs, G2) ∧ (ys ++ zs).length ≤ 16777216 ∧ Out C T W Φ ρ σ (RD T (C.c ρ σ) Φ) μ1 H1 (.ok (mkLst (ys ++ zs)) G2) Q
  refine ⟨fun i m H' => m = xs.length - i ∧ i ≤ xs.length ∧ Pv i H', ⟨xs.length, by simp, Nat.zero_le _, μ1, G1, [], [], le_upd .refl hL, ⟨?_, ?_, hz⟩, upd_same, .nil, ?_⟩, ?_⟩
  · have g2 := r1.g
    rw [eC] at g2
    exact g2.one hL mu_lst
  · have e2 := r1.e.wipe vs
    rw [eC] at e2
    exact ⟨e2.len, fun i d h => let ⟨v, h1, h2⟩ := e2.val i d h; ⟨v, h1, h2.move (keep_one hL) (fun _ _ z => z) fun _ _ z => z⟩⟩
  · cases ec : compL2 p fc inr xs (wipeR ρ vs) G1 with
    | none =>
      have ec' : compL2 p fc (innerL p1 vs1 fi1 fc1 fe) xs (wipeR ρ vs) G1 = none := ec
      rw [ec'] at o1; exact o1.elim
    | some q =>
      obtain ⟨zs, G2⟩ := q
      have ec' : compL2 p fc (innerL p1 vs1 fi1 fc1 fe) xs (wipeR ρ vs) G1 = some (zs, G2) := ec
      rw [ec'] at o1
      dsimp only at o1
      split at o1
      · rename_i hl
        exact ⟨zs, G2, by rw [List.drop_zero]; exact ec, by simpa using hl, by simpa using o1⟩
      · exact o1.elim
  rintro i m H' ⟨rfl, hi, μ', G', ys, ws, k', r', hD, ry, zs, G2, ec, hl, oo⟩
  have hgc := hG μ' H' (.of k')
  by_cases hlt : i < xs.length
  · refine .inr ⟨w.goes i H' hlt hgc, fun H' => i + 1 ≤ xs.length ∧ Pv (i + 1) H', fun H'' p' => ⟨xs.length - (i + 1), by omega, rfl, p'.1, p'.2⟩, fun v H'' y => ?_⟩
    obtain ⟨d, hd, k2, g2, rd⟩ := w.yields i H' v H'' hlt hgc y (fun _ _ => False) (PhL Φ L) μ' G' (fun a z => z.imp id fun z => by rw [z]; exact hL) (.of k') r'.g
    have e : xs.drop i = d :: xs.drop (i + 1) := by
      obtain ⟨hlt, e⟩ := List.getElem?_eq_some_iff.mp hd
      rw [List.drop_eq_getElem_cons hlt, e]
    rw [e] at ec
    unfold compL2 at ec
    have hD2 : H'' L = some (.lst ws) := k2.keep L _ hD (fun z => r'.g.dis L z (.inr rfl)) nt_lst
    have ry := ry.keep k2
    have kk := k'.trans k2
    have r2 : Rel CB T (PhL Φ L) μ' H'' (wipe σ vs) (wipeR ρ vs) G' := r'.later k2 g2
    cases eb : bindP p d (wipeR ρ vs) with
    | none => rw [eb] at ec; cases ec
    | some ρ1 =>
      rw [eb] at ec
      dsimp only at ec
      refine ⟨_, μ', wipeR ρ vs, G', d, r2, rd, ρ1, eb, fun σ2 r3 s3 => ⟨wipe_same hp s3, ?_⟩⟩
      refine ⟨_, μ', ρ1, G', r3, ?_⟩
      cases efc : fc ρ1 G' with
      | exc x G3 => rw [efc] at ec; cases ec
      | stuck => rw [efc] at ec; cases ec
      | ok b G3 =>
        rw [efc] at ec
        intro μ3 H3 b' k3 g3 eb'
        subst eb'
        have hD3 : H3 L = some (.lst ws) := k3.keep L _ hD2 (fun z => r2.g.dis L z (.inr rfl)) nt_lst
        have ry3 := ry.keep k3
        have kk3 := kk.trans k3
        have g3 : RG T (fun _ _ => False) (PhL Φ L) μ3 H3 G3 := g3
        cases b with
        | false =>
          rw [if_neg Bool.false_ne_true]
          exact ⟨hlt, μ3, G3, ys, ws, kk3, r2.later k3 g3, hD3, ry3, zs, G2, ec, hl, oo⟩
        | true =>
          rw [if_pos rfl]
          dsimp only at ec
          have r4 := r3.later k3 g3
          refine ⟨_, μ3, ρ1, G3, r4, ?_⟩
          cases efe : inr ρ1 G3 with
          | none => rw [efe] at ec; cases ec
          | some q1 =>
            obtain ⟨ys1, G4⟩ := q1
            rw [efe] at ec
            dsimp only at ec
            cases er : compL2 p fc inr (xs.drop (i + 1)) (wipeR ρ vs) G4 with
            | none => rw [er] at ec; cases ec
            | some q =>
              obtain ⟨zs', G5⟩ := q
              rw [er] at ec
              dsimp only at ec
              have ec := Option.some.inj ec
              obtain ⟨ez, eG⟩ := Prod.mk.inj ec
              subst ez; subst eG
              have efe' : innerL p1 vs1 fi1 fc1 fe ρ1 G3 = some (ys1, G4) := efe
              unfold innerL at efe'
              cases ei : fi1 ρ1 G3 with
              | exc x G6 => rw [ei] at efe'; cases efe'
              | stuck => rw [ei] at efe'; cases efe'
              | ok xs1 G6 =>
                rw [ei] at efe'
                dsimp only at efe'
                intro μ5 H5 J1 k5 g5 dw
                have g5 : RG T (fun _ _ => False) (PhL Φ L) μ5 H5 G6 := g5
                have hD5 : H5 L = some (.lst ws) := k5.keep L _ hD3 (fun z => g3.dis L z (.inr rfl)) nt_lst
                refine inner_core (Φ := Φ) (μ1 := μ1) (H1 := H1) (L := L) (ρ0 := wipeR ρ vs) (σ0 := wipe σ vs) (B := fun yy GG => ∃ zz G7, compL2 p fc inr (xs.drop (i + 1)) (wipeR ρ vs) GG = some (zz, G7) ∧ (yy ++ zz).length ≤ 16777216 ∧ Out C T W Φ ρ σ (RD T (C.c ρ σ) Φ) μ1 H1 (.ok (mkLst (yy ++ zz)) G7) Q) hp1 hL r3.k dw ?_ (kk3.trans k5) g5 ((r2.e.keep k3).keep k5) ((r4.e.keep k5).wipe vs1) hD5 (ry3.keep k5) ⟨ys1, G4, efe', ?_, zs', G5, er, ?_, ?_⟩
                · rintro H6 μ6 G6 ys6 ws6 k6 g6 e6 hD6 ry6 ⟨zz, G7, h1, h2, h3⟩
                  exact ⟨hlt, μ6, G6, ys6, ws6, k6, ⟨g6, e6, hz⟩, hD6, ry6, zz, G7, h1, h2, h3⟩
                · simp only [List.length_append] at hl ⊢; omega
                · simpa using hl
                · simpa using oo
  · have e : i = xs.length := by omega
    subst e
    rw [List.drop_length] at ec
    unfold compL2 at ec
    have ec := Option.some.inj ec
    obtain ⟨ez, eG⟩ := Prod.mk.inj ec
    subst ez; subst eG
    rw [List.append_nil] at oo
    refine .inl ⟨w.stops H' hgc, ?_⟩
    have gC : RG T (C.c ρ σ) Φ μ' H' G' := (r'.g.less fun a z => .inl z).cells fun _ _ z => z.elim
    refine oo μ' H' _ k' gC (mkLst_rd hD (fun z => ?_) ((ry.move (keep_less fun a z => .inl z) (fun _ _ z => z) fun _ _ z => z.elim)))
    rcases z with z | z
    · exact r1.g.phi0 z hL
    · exact r'.g.dis L z (.inr rfl)
end
section
variable {X : Cx} {C : CF} {T : Tb} {W : WX} {fi fi1 : IF} {fc fc1 : TF} {fe : EF} {p p1 : Pt} {vs1 : List Nat} {elt tg it tg1 it1 : Expr} {ifs ifs1 : List Expr} {scope : Scope} {own : List (Str × Nat)} {pos : Pos}
theorem re_lc2 (hZ : C.Nil) (hc : X.calm = true) (hN : X.N.Nodup) (ok : BlkOk X.N X.env.scope scope own) (hv : ∀ i ∈ vs1, i ∈ own.map (·.2)) (hp : ∀ i ∈ slotsP p, i ∈ own.map (·.2)) (hp1 : ∀ i ∈ slotsP p1, i ∈ vs1) (hi : PI X tg it (iOf C T W fi))
    (hg : ∀ (s : Shared) (H : Hp) (a : Addr) (cl : List (Str × Addr)) (fp : List Addr), PG (X.blk s H scope (compEnvC scope cl a X.env) fp) tg (gOf CB T (slotsP p) (fun d ρ => bindP p d ρ)))
    (ht : ∀ (s : Shared) (H : Hp) (a : Addr) (cl : List (Str × Addr)) (fp : List Addr), PTs (X.blk s H scope (compEnvC scope cl a X.env) fp) ifs (bOf CB T W0 fc))
    (hi1 : ∀ (s : Shared) (H : Hp) (a : Addr) (cl : List (Str × Addr)) (fp : List Addr), PI (X.blk s H scope (compEnvC scope cl a X.env) fp) tg1 it1 (iOf CB T W0 fi1))
    (hg1 : ∀ (s : Shared) (H : Hp) (a : Addr) (cl : List (Str × Addr)) (fp : List Addr), PG (X.blk s H scope (compEnvC scope cl a X.env) fp) tg1 (gOf CB T (slotsP p1) (fun d ρ => bindP p1 d ρ)))
    (ht1 : ∀ (s : Shared) (H : Hp) (a : Addr) (cl : List (Str × Addr)) (fp : List Addr), PTs (X.blk s H scope (compEnvC scope cl a X.env) fp) ifs1 (bOf CB T W0 fc1))
    (he : ∀ (s : Shared) (H : Hp) (a : Addr) (cl : List (Str × Addr)) (fp : List Addr), PE (X.blk s H scope (compEnvC scope cl a X.env) fp) elt (eOf CB T W0 fe)) (hs : ∀ x, foldedSetIterable it X.env x = pure x) (hs1 : ∀ env x, foldedSetIterable it1 env x = pure x) :
    PE X (.ListComp elt [⟨tg, it, ifs, 0⟩, ⟨tg1, it1, ifs1, 0⟩] scope pos) (eOf C T W (fComp2 p (own.map (·.2)) fi fc p1 vs1 fi1 fc1 fe)) :=
  peImp (pe_lc2 hc hN hi ok hv hg ht hi1 hg1 ht1 he hs hs1) fun σ H Q hw => comp2_to hZ hp hp1 hw
theorem rs_setLc2 {i : Nat} {y : Str} {py spos : Pos} (hC : C.Good) (hZ : C.Nil) (hc : X.calm = true) (hN : X.N.Nodup) (hy : X.N[i]? = some y) (hyl : X.env.scope.names.lookup y = some .local)
    (hsw : swapsWith (.ListComp elt [⟨tg, it, ifs, 0⟩, ⟨tg1, it1, ifs1, 0⟩] scope pos) (some (.Name y py)) spos.line X.env = pure true) (ok : BlkOk X.N X.env.scope scope own) (hv : ∀ i ∈ vs1, i ∈ own.map (·.2)) (hp : ∀ i ∈ slotsP p, i ∈ own.map (·.2)) (hp1 : ∀ i ∈ slotsP p1, i ∈ vs1) (hi : PI X tg it (iOf C T W fi))
    (hg : ∀ (s : Shared) (H : Hp) (a : Addr) (cl : List (Str × Addr)) (fp : List Addr), PG (X.blk s H scope (compEnvC scope cl a X.env) fp) tg (gOf CB T (slotsP p) (fun d ρ => bindP p d ρ)))
    (ht : ∀ (s : Shared) (H : Hp) (a : Addr) (cl : List (Str × Addr)) (fp : List Addr), PTs (X.blk s H scope (compEnvC scope cl a X.env) fp) ifs (bOf CB T W0 fc))
    (hi1 : ∀ (s : Shared) (H : Hp) (a : Addr) (cl : List (Str × Addr)) (fp : List Addr), PI (X.blk s H scope (compEnvC scope cl a X.env) fp) tg1 it1 (iOf CB T W0 fi1))
    (hg1 : ∀ (s : Shared) (H : Hp) (a : Addr) (cl : List (Str × Addr)) (fp : List Addr), PG (X.blk s H scope (compEnvC scope cl a X.env) fp) tg1 (gOf CB T (slotsP p1) (fun d ρ => bindP p1 d ρ)))
    (ht1 : ∀ (s : Shared) (H : Hp) (a : Addr) (cl : List (Str × Addr)) (fp : List Addr), PTs (X.blk s H scope (compEnvC scope cl a X.env) fp) ifs1 (bOf CB T W0 fc1))
    (he : ∀ (s : Shared) (H : Hp) (a : Addr) (cl : List (Str × Addr)) (fp : List Addr), PE (X.blk s H scope (compEnvC scope cl a X.env) fp) elt (eOf CB T W0 fe)) (hs : ∀ x, foldedSetIterable it X.env x = pure x) (hs1 : ∀ env x, foldedSetIterable it1 env x = pure x) :
    PS X (.Assign [.Name y py] (.ListComp elt [⟨tg, it, ifs, 0⟩, ⟨tg1, it1, ifs1, 0⟩] scope pos) spos) (sOf C T W (sAsg (.v i) (fComp2 p (own.map (·.2)) fi fc p1 vs1 fi1 fc1 fe))) := by
  refine psImp (ps_setLc2 hc hN hy hyl hsw hi ok hv hg ht hi1 hg1 ht1 he hs hs1) fun D σ H hw => ?_
  obtain ⟨Φ, μ, ρ, G, r, o⟩ := hw
  refine comp2_to hZ hp hp1 ⟨Φ, μ, ρ, G, r, SOut.expr r o fun v H1 ⟨μ1, G1, d, k1, r1, rd, o1⟩ => ?_⟩
  cases eb : bindP (.v i) d ρ with
  | none => rw [eb] at o1; exact o1.elim
  | some ρ' =>
    rw [eb] at o1
    unfold bindP at eb
    exact o1 μ1 H1 _ .refl (r1.store hC rd eb)
/-- the second for's iterable, within the block -/
theorem pi_B {X : Cx} {T : Tb} {W : WX} {tg e : Expr} {f : IF} (h : PI X tg e (iOf (CX1 X) T W f)) : PI X tg e (iOf CB T W f) := piImp h fun σ H R ⟨Φ, μ, ρ, G, r, o⟩ => ⟨Φ, μ, ρ, G, rel_B r, out_B r.k rfl o⟩
end
end DL

set_option Elab.async false
set_option linter.all false
set_option maxRecDepth 100000
set_option maxHeartbeats 4000000
/-! DL E: enumerate over lists and tuples. -/
namespace DL
open PySem PySem.Spec PyProof.Rows L2 RZ
open AutoSeq1 (wpAny_loadPart')

/-- enumerate(v) begins, whatever is walked -/
theorem enumB_new {v : Value} {ob : Obj} {Hs : Heap → Prop} (B : Begins v ob Hs) :
    Meets (Builtin.«enumerate.__new__» ⟨[.type "enumerate", v], []⟩) (fun _ R s => Hs s.heap ∧
      R (.ok (.ret (.ref (s.heap.push ob).objs.size))) { s with heap := (s.heap.push ob).push { cls := .type "enumerate", data := .fields #[.none, .bool false, .ref s.heap.objs.size, rawInt 0, .none, .none] } }) :=
  .of_wp fun prog w A R s hh => by
    obtain ⟨hp, g, d, tk, os⟩ := s; obtain ⟨hv, hh⟩ := hh
    have hsub := sub_enumerate
    have bq : ∀ {A' : Around} {E : Value → Shared → Prop} {Q : Value → Shared → Prop}, Q (.ref hp.objs.size) ⟨hp.push ob, g, d, tk, os⟩ → wpAny (model prog w) A' (pyIter v) Q E ⟨hp, g, d, tk, os⟩ := fun q => B.iter prog w _ _ ⟨hp, g, d, tk, os⟩ _ hv q
    wp_walk using bq
    refine wpAny_stack_any fun st => wpAny_pure ?_
    split
    · rename_i c _ _ _ _ _
      cases (c == Value.type "enumerate")
      · wp_walk using bq
        exact ⟨_, rfl, hh⟩
      · wp_walk using bq
        exact ⟨_, rfl, hh⟩
    · wp_walk using bq
      exact ⟨_, rfl, hh⟩
section
variable {prog : Program} {w : World} {A : Around} {E : Value → Shared → Prop} {s : Shared}
theorem enumB_call {v : Value} {ob : Obj} {Hs : Heap → Prop} {Q : Value → Shared → Prop} (B : Begins v ob Hs) (hv : Hs s.heap)
    (q : ∀ h', IsEnum h' (s.heap.objs.size + 1) s.heap.objs.size 0 .none → h'.get? s.heap.objs.size = some ob → (∀ b o, s.heap.get? b = some o → h'.get? b = some o) → Q (.ref (s.heap.objs.size + 1)) { s with heap := h' }) :
    wpAny (model prog w) A (call (.type "enumerate") [v]) Q E s := by
  refine callType_new F.called_enumerate (by decide) (F.typeCall_enumerate_1 _) (F.newCall_enumerate_1 _) (fun obj => F.args_object_init_2 obj _) F.entry_enumerate_new (enumB_new B) ⟨hv, ?_⟩
  have z : (s.heap.push ob).objs.size = s.heap.objs.size + 1 := Heap.size_push ..
  show _ ∧ _
  rw [z]
  have e : IsEnum ((s.heap.push ob).push { cls := .type "enumerate", data := .fields #[.none, .bool false, .ref s.heap.objs.size, rawInt 0, .none, .none] }) (s.heap.objs.size + 1) s.heap.objs.size 0 .none := by
    have y := Heap.get?_push_size (s.heap.push ob) (o := { cls := .type "enumerate", data := .fields #[.none, .bool false, .ref s.heap.objs.size, rawInt 0, .none, .none] }) rfl
    rw [z] at y; exact y
  exact ⟨⟨_, e, rfl⟩, q _ e (Heap.get?_push_of_some _ (Heap.get?_push_size _ B.free)) fun b o x => Heap.get?_push_of_some _ (Heap.get?_push_of_some _ x)⟩
end
/-- the tuple at a, each item in a new pair -/
def IteT (K : PySem.W.Frag) (a : Addr) : It :=
  ⟨fun i H => ∃ (xs : List V) (x : V), SqT K H a xs ∧ xs[i]? = some x, fun i H v H' => ∃ T x, v = .ref T ∧ H T = none ∧ H' = upd H T (.tup [.int (i : Nat), x]) ∧ ∀ xs, SqT K H a xs → xs[i]? = some x, fun i H => ∃ xs : List V, SqT K H a xs ∧ xs.length ≤ i⟩
theorem enum_ne {h : Heap} {e it t : Addr} {i : Int} {old : Value} {its : Array Value} (he : IsEnum h e it i old) (p : h.IsTuple t its) : e ≠ t := fun z => by
  subst z
  obtain ⟨o, ho, hc, _⟩ := p
  rw [he] at ho
  cases ho
  have hc : Value.type "enumerate" = Value.type "tuple" := hc
  exact absurd (Value.type.inj hc) (by decide)
theorem iter_ne {h : Heap} {it t : Addr} {i : Nat} {its : Array Value} (he : h.IsTupleIter it t i) (p : h.IsTuple t its) : t ≠ it := fun z => by
  subst z
  obtain ⟨o, ho, hc, _⟩ := p
  obtain ⟨o2, ho2, hc2, _⟩ := he
  rw [ho2] at ho
  cases ho
  rw [hc2] at hc
  have hc : Value.type "tuple_iterator" = Value.type "tuple" := hc
  exact absurd (Value.type.inj hc) (by decide)
theorem enumT_end {prog : Program} {w : World} {A : Around} {E : Value → Shared → Prop} {s : Shared} {e it t : Addr} {i : Nat} {its : Array Value} {old : Value} {Q : Option Value → Shared → Prop} (hd : A.handled = none)
    (he : IsEnum s.heap e it i old) (hit : s.heap.IsTupleIter it t i) (ht : s.heap.IsTuple t its) (hx : its[i]? = none) (q : ∀ h', Heap.ExtBut it s.heap h' → Q none { s with heap := h' }) : wpAny (model prog w) A (pyNext (.ref e)) Q E s := by
  have ty : s.TypeIs (.ref e) "enumerate" := ⟨_, he, rfl⟩
  unfold pyNext
  refine wpAny_bind (wpAny_attempt (wpAny_callSpecial?_slot (name := Str.ofString "__next__") ty F.slot_enumerate_next (wpAny_call_entry F.slot_enumerate_next ty F.entry_enumerate_next ?_ (F.args_enumerate_next_1 _))))
  show wpAny _ _ (field (.ref e) 2 >>= _) _ _ _
  refine wpAny_bind (wpAny_field he rfl (x := .ref it) rfl ?_)
  refine wpAny_bind (wpAny_nextOf_tuple_end hd hit ht hx fun h' x k ⟨o, ho, hc⟩ => ?_)
  exact wpAny_bind (wpAny_isInstance (T := "StopIteration") (b := true) ⟨o, ho, hc⟩ isSubtype_stop (wpAny_pure (q _ k)))
theorem turn_enumT {P : Program} {w : World} {K : PySem.W.Frag} {elts : List Expr} {kk : Nat} {tpos : Pos} (a e it : Addr) :
    Turn P w K (.Tuple elts kk tpos) (IteT K a) [e, it] e (fun i h => (∃ old, IsEnum h e it ((i : Nat) : Int) old) ∧ h.IsTupleIter it a i ∧ e ≠ it) where
  mem := by simp
  obj := fun i h st b hb => by
    obtain ⟨⟨old, he⟩, ⟨ob, h1, h2, h3⟩, _⟩ := st
    have c : b = e ∨ b = it := by simpa using hb
    rcases c with rfl | rfl
    · exact ⟨_, he, fun v q => nomatch q⟩
    · exact ⟨ob, h1, fun v q => by rw [h3] at q; cases q⟩
  keep := fun i h h' st k => let ⟨⟨old, he⟩, ⟨ob, h1, h2⟩, hne⟩ := st; ⟨⟨old, k e (by simp) _ he⟩, ⟨ob, k it (by simp) _ h1, h2⟩, hne⟩
  item := by
    intro X hP hw hK hc i pins s σ H E I hf st hg
    subst hP hw hK
    obtain ⟨⟨old, he⟩, hit, hne⟩ := st
    obtain ⟨xs, x, hq, hx⟩ := hg
    obtain ⟨its, rv, p, hz⟩ := I.tuple hq
    obtain ⟨u, hu, ru⟩ := rv.get hx
    have p : s.heap.IsTuple a its.toArray := p
    have lt : i < its.toArray.size := by
      have := (List.getElem?_eq_some_iff.mp hu).1
      simpa using this
    have hel : e < s.heap.objs.size := Heap.lt_size he
    have hil : it < s.heap.objs.size := by obtain ⟨_, q, _⟩ := hit; exact Heap.lt_size q
    have ea := enum_ne he p
    have ia := iter_ne hit p
    have hd : X.A.in1.handled = none := I.ok.hd hc
    refine wpAny_pyNext_enum_itemD (Draws.tuple hd it a ia its.toArray) he ⟨hit, p⟩ lt hne (by simp [hne, ea]) fun x' h' tk hxe ho hst hT hsz hk => ?_
    obtain rfl : u = x' := by
      have : its.toArray[i]? = some u := by simpa using hu
      rw [this] at hxe
      exact Option.some.inj hxe
    refine ⟨_, rfl, wpAny_letOwnedTupleGo_enum (s := { s with heap := h', toks := tk + 1 }) ho fun h'' he' sb => ?_⟩
    have hT2 : h''.get? s.heap.objs.size = some { cls := .type "tuple", data := .seq #[.int i tk, u] } := (sb.2 _ (Nat.ne_of_gt hel)).trans hT
    have new : ObjOk X.prog X.w (upd H s.heap.objs.size (.tup [.int (i : Nat), x])) h'' s.heap.objs.size (.tup [.int (i : Nat), x]) := by
      refine ⟨?_, [.int i tk, u], .cons ⟨_, rfl⟩ (.cons ru .nil), ⟨_, hT2, rfl, _, rfl⟩⟩
      show 2 ≤ sizeLine
      decide
    have I1 : Inv X pins σ (upd H s.heap.objs.size (.tup [.int (i : Nat), x])) { s with heap := h'', toks := tk + 1 } :=
      I.turnedNew (ch := [e, it]) (fun b ob hb q => (sb.2 b (fun z => hb (by simp [z]))).trans (hk b ob (fun z => hb (by simp [z])) (fun z => hb (by simp [z])) q)) hf (Nat.le_refl _) new
    refine ⟨.ref s.heap.objs.size, _, I1, rfl, ⟨_, x, rfl, I.hok.fresh (Nat.le_refl _), rfl, fun ys hy => ?_⟩, ⟨⟨u, ?_⟩, ?_, hne⟩, fun b hb => ?_⟩
    · have el : ys = xs := I.tuple_inj hy hq
      rw [el]; exact hx
    · have e1 : ((i + 1 : Nat) : Int) = (i : Int) + 1 := by omega
      rw [e1]; exact he'
    · obtain ⟨⟨o1, g1, g2⟩, _⟩ := hst
      exact ⟨o1, (sb.2 it (Ne.symm hne)).trans g1, g2⟩
    · have hb' : b < s.heap.objs.size := by
        have c : b = e ∨ b = it := by simpa using hb
        rcases c with rfl | rfl
        · exact hel
        · exact hil
      rw [upd_ne (Nat.ne_of_lt hb')]
      exact (hf b hb).1
  done := by
    intro X hP hw hK hc i pins s σ H E I hf st hg
    subst hP hw hK
    obtain ⟨⟨old, he⟩, hit, hne⟩ := st
    obtain ⟨xs, hq, hx⟩ := hg
    obtain ⟨its, rv, p, hz⟩ := I.tuple hq
    have p : s.heap.IsTuple a its.toArray := p
    obtain ⟨f0, f1, f2, f3, f4, f5⟩ := hf it (by simp)
    have hl := rv.length
    exact enumT_end (I.ok.hd hc) he hit p (by simp; omega) fun h' eb => ⟨rfl, I.turned (t' := s.toks) (fun b o hb q => eb b o hb q) f0 f1 f3 f4 f5⟩
  self := fun A i s Q E st h => let ⟨⟨_, he⟩, _⟩ := st; wpAny_pyIter_enum he h
section
variable {X : Cx} {C : CF} {T : Tb} {W : WX} {pos p tpos : Pos} {elts : List Expr} {kk : Nat}
theorem pi_enumA {e : Expr} {tl : TE} (hg : Gl X "enumerate") (hm : X.mg "enumerate" = none) (h : PE X e tl) (sa : starEach [e] X.env = (false, eval e X.env) :: starEach [] X.env) (hs : starEach [e] X.env = [(false, eval e X.env)]) :
    PI X (.Tuple elts kk tpos) (.Call (.Name "enumerate" p) [e] [] pos) (fun σ H R => tl σ H fun x H1 => ∃ a, x = .ref a ∧ (((∃ xs, SqL X.K H1 a xs) ∧ R (Ite X.K a) H1) ∨ ((∃ xs, SqT X.K H1 a xs) ∧ R (IteT X.K a) H1))) := by
  have pa := pa_cons h pa_nil sa
  refine ⟨fun pins s σ H R I hw => ?_⟩
  refine Call_ (ld_blt I hg hm boot_enumerate (PyProof.Rows.callWith_type1 (thn (pa.run pos pins s σ H (fun vs H1 => match vs with | [x] => ∃ a, x = .ref a ∧ (((∃ xs, SqL X.K H1 a xs) ∧ R (Ite X.K a) H1) ∨ ((∃ xs, SqT X.K H1 a xs) ∧ R (IteT X.K a) H1)) | _ => False) I hw) fun us s1 ⟨vs, H1, I1, r1, q⟩ => ?_) hs rfl))
  cases r1 with
  | nil => exact q.elim
  | cons r rr =>
    cases rr with
    | cons _ _ => exact q.elim
    | nil =>
    obtain ⟨a, ev, q⟩ := q
    subst ev
    cases r
    have fp : ∀ b ∈ [s1.heap.objs.size + 1, s1.heap.objs.size], FpOk X pins H1 b := fun b hb => by
      have le : s1.heap.objs.size ≤ b := by
        have c : b = s1.heap.objs.size + 1 ∨ b = s1.heap.objs.size := by simpa using hb
        omega
      exact I1.fpOk le (I1.hok.fresh le)
    rcases q with ⟨⟨xs, hx⟩, q⟩ | ⟨⟨xs, hx⟩, q⟩
    · obtain ⟨its, rv, pl, _⟩ := I1.list hx
      refine enumB_call (begins_list a its.toArray) pl.isList fun h' he hit hk => wpAny_pyIter_enum he ?_
      exact ⟨s1.heap.objs.size + 1, [s1.heap.objs.size + 1, s1.heap.objs.size], _, _, H1, rfl, I1.kept (t' := s1.toks) hk, turn_enum a (s1.heap.objs.size + 1) s1.heap.objs.size, ⟨⟨.none, he⟩, ⟨_, hit, rfl, rfl⟩, Nat.succ_ne_self _⟩, fp, q⟩
    · obtain ⟨its, rv, pl, _⟩ := I1.tuple hx
      refine enumB_call (begins_tuple a its.toArray) pl fun h' he hit hk => wpAny_pyIter_enum he ?_
      exact ⟨s1.heap.objs.size + 1, [s1.heap.objs.size + 1, s1.heap.objs.size], _, _, H1, rfl, I1.kept (t' := s1.toks) hk, turn_enumT a (s1.heap.objs.size + 1) s1.heap.objs.size, ⟨⟨.none, he⟩, ⟨_, hit, rfl, rfl⟩, Nat.succ_ne_self _⟩, fp, q⟩
theorem walk_enumT {K : PySem.W.Frag} {a : Addr} {xs : List V} : Walk (IteT K a) xs.length (fun H => SqT K H a xs) (YPair (fun i => some (.int (i : Nat))) (fun i => xs[i]?)) := by
  refine ⟨fun i _ hi q => ⟨xs, xs[i], q, by simp [hi]⟩, fun _ q => ⟨xs, q, Nat.le_refl _⟩, fun i H v H' _ q y => ?_⟩
  obtain ⟨T, x, h1, h2, h3, h4⟩ := y
  exact ⟨T, .int (i : Nat), x, h1, h2, h3, rfl, h4 xs q⟩
/-- new pairs -/
theorem dw_pairs {Φ : Addr → Prop} {μ : List Addr} {H : Hp} {ps : List D} {J : It} {fx fy : Nat → Option V} (Gc : Hp → Prop) (w : Walk J ps.length Gc (YPair fx fy)) (hG : ∀ μ' H', LeB Φ μ H μ' H' → Gc H')
    (r : ∀ i x y, i < ps.length → fx i = some x → fy i = some y → ∃ d e, ps[i]? = some (mkTup [d, e]) ∧ ∀ Cl, RD T Cl Φ μ H d x ∧ RD T Cl Φ μ H e y) : DW T Φ μ H ps J := by
  refine ⟨Gc, hG, ?_⟩
  refine w.mono (fun _ h => h) fun i H1 v H2 hi _ ⟨q, x, y, e1, hq, e2, h1, h2⟩ Cl Φ1 μ1 G1 hp k g => ?_
  subst e1; subst e2
  obtain ⟨d, e, h3, h4⟩ := r i x y hi h1 h2
  have rx := (h4 Cl).1.move (Cl' := Cl) (keep_more hp k) (fun _ _ => k.get) fun _ _ z => z
  have ry := (h4 Cl).2.move (Cl' := Cl) (keep_more hp k) (fun _ _ => k.get) fun _ _ z => z
  obtain ⟨k2, g2, r2⟩ := new_tup g hq (.cons rx (.cons ry .nil))
  exact ⟨_, h3, k2, g2, r2⟩
def enumF : Nat → List D → List D
  | _, [] => []
  | k, x :: xs => mkTup [.p (.int (k : Nat)), x] :: enumF (k + 1) xs
theorem enumF_len : ∀ (xs : List D) (k : Nat), (enumF k xs).length = xs.length
  | [], _ => rfl
  | x :: xs, k => by unfold enumF; rw [List.length_cons, List.length_cons, enumF_len xs]
theorem enumF_get : ∀ (xs : List D) (k i : Nat) (x : D), xs[i]? = some x → (enumF k xs)[i]? = some (mkTup [.p (.int ((k + i : Nat) : Int)), x])
  | [], _, _, _, h => by simp at h
  | x :: xs, k, 0, _, h => by simp at h; subst h; rfl
  | x :: xs, k, i + 1, y, h => by
    unfold enumF
    rw [List.getElem?_cons_succ] at h ⊢
    rw [enumF_get xs (k + 1) i y h]
    congr 5
    omega
def iEnum (f : EF) : IF := fun ρ G => (f ρ G).bind fun d G1 => Res.of ((iterD ρ.z d).map (enumF 0)) G1
theorem ri_enum {e : Expr} {fe : EF} (hK : T.K = X.K) (hZ : C.Nil) (hg : Gl X "enumerate") (hm : X.mg "enumerate" = none) (h : PE X e (eOf C T W fe)) (sa : starEach [e] X.env = (false, eval e X.env) :: starEach [] X.env) (hs : starEach [e] X.env = [(false, eval e X.env)]) :
    PI X (.Tuple elts kk tpos) (.Call (.Name "enumerate" p) [e] [] pos) (iOf C T W (iEnum fe)) :=
  piImp (pi_enumA hg hm h sa hs) fun σ H R ⟨Φ, μ, ρ, G, r, o⟩ => ⟨Φ, μ, ρ, G, r, o.bind fun v H1 ⟨μ1, G1, d, k1, g1, rd, o1⟩ => by
    cases ed : iterD ρ.z d with
    | none => rw [ed] at o1; exact o1.elim
    | some xs =>
      rw [ed] at o1
      obtain ⟨a, vs, ev, hsq, rs⟩ := iterD_rd (hZ ρ σ) ed rd
      refine ⟨a, ev, ?_⟩
      rw [hK] at hsq
      have len : (enumF 0 xs).length = vs.length := by rw [enumF_len]; exact (rs fun _ _ => False).length
      have it : ∀ i x y, i < (enumF 0 xs).length → some (V.int (i : Nat)) = some x → vs[i]? = some y → ∃ d e, (enumF 0 xs)[i]? = some (mkTup [d, e]) ∧ ∀ Cl, RD T Cl Φ μ1 H1 d x ∧ RD T Cl Φ μ1 H1 e y := fun i x y hi h1 h2 => by
        cases h1
        obtain ⟨z, h3, _⟩ := (rs fun _ _ => False).getV h2
        refine ⟨.p (.int (i : Nat)), z, ?_, fun Cl => ⟨.p (.int _), ?_⟩⟩
        · rw [enumF_get xs 0 i z h3, Nat.zero_add]
        · obtain ⟨z2, h4, h5⟩ := (rs Cl).getV h2
          rw [h3] at h4; cases h4
          exact h5
      rcases hsq with hsq | hsq
      · exact .inl ⟨⟨vs, hsq.to⟩, o1 μ1 H1 _ .refl g1 (dw_pairs _ (len ▸ walk_enum) (fun μ' H' k => (hsq.keep k.bad).to) it)⟩
      · exact .inr ⟨⟨vs, hsq.to⟩, o1 μ1 H1 _ .refl g1 (dw_pairs _ (len ▸ walk_enumT) (fun μ' H' k => (hsq.keep k.bad).to) it)⟩⟩
/-! ### zip of two of a kind -/
theorem rd_int0 {Cl : Addr → V → Prop} {Φ : Addr → Prop} {μ : List Addr} {H : Hp} {i : Int} {v : V} (r : RD T Cl Φ μ H (.p (.int i)) v) : v = .int i := by
  cases r with
  | p r => cases r; rfl
def isTupD : D → Bool
  | .p (.tup _) => true
  | .tup _ => true
  | _ => false
theorem iterD_rd2 {C : CF} {Φ : Addr → Prop} {μ : List Addr} {H : Hp} {σ : Slots} {ρ : Ro} {d : D} {v : V} {xs : List D} (hz : ρ.z = [] → C.c ρ σ = fun _ _ => False) (h : iterD ρ.z d = some xs) (r : RD T (C.c ρ σ) Φ μ H d v) :
    ∃ a vs, v = .ref a ∧ ((isTupD d = false ∧ SqLB T.K (Bad Φ μ) H a vs) ∨ (isTupD d = true ∧ SqTB T.K (Bad Φ μ) H a vs)) ∧ ∀ Cl, RDs T Cl Φ μ H xs vs := by
  cases r with
  | p r =>
    cases r with
    | tup h1 h2 => simp only [iterD, Option.some.injEq] at h; subst h; exact ⟨_, _, rfl, .inr ⟨rfl, h1⟩, fun _ => .ofP h2⟩
    | lst h1 n1 h2 => simp only [iterD, Option.some.injEq] at h; subst h; exact ⟨_, _, rfl, .inl ⟨rfl, .inl ⟨.inl h1, n1⟩⟩, fun _ => .ofP h2⟩
    | _ => simp [iterD] at h
  | tup h1 h2 =>
    simp only [iterD] at h
    split at h
    · rename_i hz2
      cases h
      rw [hz (List.isEmpty_iff.mp hz2)] at h2
      exact ⟨_, _, rfl, .inr ⟨rfl, h1⟩, fun _ => h2.keepC .refl fun _ _ z => z.elim⟩
    · cases h
  | scr h1 =>
    simp only [iterD, Option.some.injEq] at h
    subst h
    exact ⟨_, _, rfl, .inl ⟨rfl, h1⟩, fun _ => rds_ints _⟩
  | lst h1 n1 h2 =>
    simp only [iterD] at h
    split at h
    · rename_i hz2
      cases h
      rw [hz (List.isEmpty_iff.mp hz2)] at h2
      exact ⟨_, _, rfl, .inl ⟨rfl, .inl ⟨.inl h1, n1⟩⟩, fun _ => h2.keepC .refl fun _ _ z => z.elim⟩
    · cases h
  | _ => simp [iterD] at h
def zipF : List D → List D → List D
  | x :: xs, y :: ys => mkTup [x, y] :: zipF xs ys
  | _, _ => []
theorem zipF_len : ∀ (xs ys : List D), (zipF xs ys).length = min xs.length ys.length
  | [], _ => by simp [zipF]
  | _ :: _, [] => by simp [zipF]
  | x :: xs, y :: ys => by unfold zipF; rw [List.length_cons, List.length_cons, List.length_cons, zipF_len xs ys]; omega
theorem zipF_get : ∀ (xs ys : List D) (i : Nat) (x y : D), xs[i]? = some x → ys[i]? = some y → (zipF xs ys)[i]? = some (mkTup [x, y])
  | [], _, _, _, _, h, _ => by simp at h
  | _ :: _, [], _, _, _, _, h => by simp at h
  | a :: xs, b :: ys, 0, _, _, h1, h2 => by simp at h1 h2; subst h1; subst h2; rfl
  | a :: xs, b :: ys, i + 1, _, _, h1, h2 => by
    unfold zipF
    rw [List.getElem?_cons_succ] at h1 h2 ⊢
    exact zipF_get xs ys i _ _ h1 h2
def zipD (z : List Nat) (d e : D) : Option (List D) := if isTupD d = isTupD e then (match iterD z d, iterD z e with
  | some xs, some ys => some (zipF xs ys)
  | _, _ => none) else none
def iZip (f g : EF) : IF := fun ρ G => (f ρ G).bind fun d G1 => (g ρ G1).bind fun e G2 => Res.of (zipD ρ.z d e) G2
theorem walk_zipT2 {K : PySem.W.Frag} {a b : Addr} {xs ys : List V} {n : Nat} (hn : n = min xs.length ys.length) : Walk (ItzT K a b) n (fun H => SqT K H a xs ∧ SqT K H b ys) (YPair (fun i => xs[i]?) (fun i => ys[i]?)) := by
  subst hn
  refine ⟨fun i _ hi q => ?_, fun _ q => ⟨xs, ys, q.1, q.2, by omega⟩, fun i H v H' _ q y => ?_⟩
  · have l1 : i < xs.length := by omega
    have l2 : i < ys.length := by omega
    exact ⟨xs, ys, xs[i], ys[i], q.1, q.2, by simp [l1], by simp [l2]⟩
  · obtain ⟨T, x, z, e1, e2, e3, e4, e5⟩ := y
    exact ⟨T, x, z, e1, e2, e3, e4 xs q.1, e5 ys q.2⟩
theorem ri_zip {e e2 : Expr} {fe fg : EF} (hK : T.K = X.K) (hZ : C.Nil) (hg : Gl X "zip") (hm : X.mg "zip" = none) (h : PE X e (eOf C T W fe)) (h2 : PE X e2 (eOf C T W fg)) (sa : starEach [e, e2] X.env = (false, eval e X.env) :: starEach [e2] X.env) (sb : starEach [e2] X.env = (false, eval e2 X.env) :: starEach [] X.env) (hpl : (backTo pos (starEach [e2] X.env)).any (·.1) = false) :
    PI X (.Tuple elts kk tpos) (.Call (.Name "zip" p) [e, e2] [] pos) (iOf C T W (iZip fe fg)) :=
  piImp (pi_zipA hg hm (pa_cons h (pa_cons h2 pa_nil sb) sa) sa hpl) fun σ H R ⟨Φ, μ, ρ, G, r, o⟩ => ⟨Φ, μ, ρ, G, r, o.bind fun v H1 ⟨μ1, G1, d, k1, g1, rd, o1⟩ =>
    ⟨Φ, μ1, ρ, G1, r.later k1 g1, o1.bind fun u H2 ⟨μ2, G2, d2, k2, g2, rd2, o2⟩ => by
    have rd := rd.keep k2
    unfold zipD at o2
    split at o2
    case isFalse => exact o2.elim
    rename_i hk
    cases ed : iterD ρ.z d with
    | none => rw [ed] at o2; exact o2.elim
    | some xs =>
      cases ed2 : iterD ρ.z d2 with
      | none => rw [ed, ed2] at o2; exact o2.elim
      | some ys =>
        rw [ed, ed2] at o2
        obtain ⟨a, vs, ev, hs, rs⟩ := iterD_rd2 (hZ ρ σ) ed rd
        obtain ⟨b, ws, ew, hs2, rs2⟩ := iterD_rd2 (hZ ρ σ) ed2 rd2
        rw [hK] at hs hs2
        subst ev; subst ew
        have len : (zipF xs ys).length = min vs.length ws.length := by rw [zipF_len, (rs fun _ _ => False).length, (rs2 fun _ _ => False).length]
        have it : ∀ i x y, i < (zipF xs ys).length → vs[i]? = some x → ws[i]? = some y → ∃ d e, (zipF xs ys)[i]? = some (mkTup [d, e]) ∧ ∀ Cl, RD T Cl Φ μ2 H2 d x ∧ RD T Cl Φ μ2 H2 e y := fun i x y hi h1 h2 => by
          obtain ⟨z1, h3, _⟩ := (rs fun _ _ => False).getV h1
          obtain ⟨z2, h4, _⟩ := (rs2 fun _ _ => False).getV h2
          refine ⟨z1, z2, zipF_get _ _ _ _ _ h3 h4, fun Cl => ⟨?_, ?_⟩⟩
          · obtain ⟨z3, h5, h6⟩ := (rs Cl).getV h1
            rw [h3] at h5; cases h5
            exact h6
          · obtain ⟨z3, h5, h6⟩ := (rs2 Cl).getV h2
            rw [h4] at h5; cases h5
            exact h6
        refine ⟨a, b, vs, ws, rfl, ?_⟩
        rcases hs with ⟨t1, hs⟩ | ⟨t1, hs⟩ <;> rcases hs2 with ⟨t2, hs2⟩ | ⟨t2, hs2⟩
        · exact .inl ⟨hs.to, hs2.to, o2 μ2 H2 _ .refl g2 (dw_pairs _ (walk_zip len) (fun μ' H' k => ⟨(hs.keep k.bad).to, (hs2.keep k.bad).to⟩) it)⟩
        · rw [t1, t2] at hk; cases hk
        · rw [t1, t2] at hk; cases hk
        · exact .inr ⟨hs.to, hs2.to, o2 μ2 H2 _ .refl g2 (dw_pairs _ (walk_zipT2 len) (fun μ' H' k => ⟨(hs.keep k.bad).to, (hs2.keep k.bad).to⟩) it)⟩⟩⟩
/-! ### range downwards -/
def downI (hi : Int) (n : Nat) : List D := (List.range n).map fun i => D.p (.int (hi + (i : Nat) * (-1)))
def iDown (f g h : EF) : IF := fun ρ G => (f ρ G).bind fun d G1 => (g ρ G1).bind fun e G2 => (h ρ G2).bind fun c G3 => match d, e, c with
  | .p (.int i), .p (.int j), .p (.int c) => if c = -1 then (if okRng i = true then (if okRng j = true then .ok (downI i (i - j).toNat) G3 else .stuck) else .stuck) else .stuck
  | _, _, _ => .stuck
theorem dw_down {Φ : Addr → Prop} {μ : List Addr} {H : Hp} {hi : Int} {n : Nat} : DW T Φ μ H (downI hi n) (Itc hi (-1) n) := by
  refine ⟨fun _ => True, fun _ _ _ => trivial, ?_⟩
  rw [show (downI hi n).length = n by simp [downI]]
  refine (walk_rangeC (lo := hi) (c := -1) (n := n)).mono (fun _ h => h) fun i H1 v H2 hi' _ ⟨e1, e2⟩ Cl Φ1 μ1 G1 _ _ g => ?_
  subst e1; subst e2
  exact ⟨_, by simp [downI, hi'], .refl, g, .p (.int _)⟩
theorem ri_down {tg a b c : Expr} {fa fb fc : EF} (hg : Gl X "range") (hm : X.mg "range" = none) (ha : PE X a (eOf C T W fa)) (hb : PE X b (eOf C T W fb)) (hc : PE X c (eOf C T W fc)) (sa : starEach [a, b, c] X.env = (false, eval a X.env) :: starEach [b, c] X.env) (sb : starEach [b, c] X.env = (false, eval b X.env) :: starEach [c] X.env)
    (sc : starEach [c] X.env = (false, eval c X.env) :: starEach [] X.env) (hpl : (backTo pos (starEach [b, c] X.env)).any (·.1) = false) :
    PI X tg (.Call (.Name "range" p) [a, b, c] [] pos) (iOf C T W (iDown fa fb fc)) :=
  piImp (pi_range3 hg hm (pa_cons ha (pa_cons hb (pa_cons hc pa_nil sc) sb) sa) sa hpl) fun σ H R ⟨Φ, μ, ρ, G, r, o⟩ => ⟨Φ, μ, ρ, G, r, o.bind fun v H1 ⟨μ1, G1, d, k1, g1, rd, o1⟩ =>
    ⟨Φ, μ1, ρ, G1, r.later k1 g1, o1.bind fun u H2 ⟨μ2, G2, d2, k2, g2, rd2, o2⟩ =>
    ⟨Φ, μ2, ρ, G2, (r.later k1 g1).later k2 g2, o2.bind fun t H3 ⟨μ3, G3, d3, k3, g3, rd3, o3⟩ => by
    have rd := (rd.keep k2).keep k3
    have rd2 := rd2.keep k3
    split at o3
    · rename_i i j cc
      split at o3
      · rename_i hc
        subst hc
        split at o3
        · rename_i hi
          split at o3
          · rename_i hj
            have bi := okRng_spec hi
            have bj := okRng_spec hj
            obtain rfl := rd_int0 rd
            obtain rfl := rd_int0 rd2
            obtain rfl := rd_int0 rd3
            exact ⟨_, _, -1, _, rfl, RgC.neg bi.1 bi.2 bj.1 bj.2, o3 μ3 H3 _ .refl g3 dw_down⟩
          · exact o3.elim
        · exact o3.elim
      · exact o3.elim
    · exact o3.elim⟩⟩⟩
end
end DL

set_option Elab.async false
set_option linter.all false
set_option maxRecDepth 100000
set_option maxHeartbeats 4000000
/-! DL 5: operators. -/
namespace DL
open PySem PySem.Spec PyProof.Rows L2

/-! ### data as the library's -/
mutual
def toPy : P → Option PyData
  | .non => some .none
  | .bl b => some (.bool b)
  | .int i => some (.int i)
  | .str s => some (.str s)
  | .tup xs => match toPys xs with
    | some ds => some (.tuple ds)
    | none => none
  | .lst xs => match toPys xs with
    | some ds => some (.list ds)
    | none => none
  | .dct _ => none
  | .obj _ _ => none
  | .ty _ => none
  | .glo _ => none
def toPys : List P → Option (List PyData)
  | [] => some []
  | x :: xs => match toPy x, toPys xs with
    | some d, some ds => some (d :: ds)
    | _, _ => none
end
section
variable {K : PySem.W.Frag} {ga : Nat → Addr} {B : Addr → Prop} {H : Hp}
mutual
theorem RP.dp : ∀ {x : P} {v : V} {d : PyData}, RP K ga B H x v → toPy x = some d → Dp K H v d
  | _, _, _, .non, e => by simp only [toPy, Option.some.injEq] at e; subst e; exact .non
  | _, _, _, .bl b, e => by simp only [toPy, Option.some.injEq] at e; subst e; exact .bl b
  | _, _, _, .int i, e => by simp only [toPy, Option.some.injEq] at e; subst e; exact .int i
  | _, _, _, .str i, e => by simp only [toPy, Option.some.injEq] at e; subst e; exact .str i
  | _, _, _, .tup h r, e => by
    simp only [toPy] at e
    split at e
    · rename_i ds h2; cases e; exact .tup h.to (RPs.dp r h2)
    · cases e
  | _, _, _, .lst h n r, e => by
    simp only [toPy] at e
    split at e
    · rename_i ds h2; cases e; exact .lst (.of h) (RPs.dp r h2)
    · cases e
  | _, _, _, .dct _ _ _ _, e => by simp [toPy] at e
  | _, _, _, .obj _ _ _ _, e => by simp [toPy] at e
  | _, _, _, .ty _, e => by simp [toPy] at e
  | _, _, _, .glo _, e => by simp [toPy] at e
theorem RPs.dp : ∀ {x : List P} {v : List V} {d : List PyData}, RPs K ga B H x v → toPys x = some d → DpAll K H v d
  | _, _, _, .nil, e => by simp only [toPys, Option.some.injEq] at e; subst e; exact .nil
  | _, _, _, .cons r t, e => by
    simp only [toPys] at e
    split at e
    · rename_i d ds h1 h2; cases e; exact .cons (RP.dp r h1) (RPs.dp t h2)
    · cases e
end
end
/-- a value as data: a list of the store, too -/
def pyD (G : Sto) : D → Option PyData
  | .p x => toPy x
  | .ref n => match G[n]? with
    | some (.lst xs) => match allP xs with
      | some ys => toPy (.lst ys)
      | none => none
    | _ => none
  | _ => none
theorem pyD_dp {T : Tb} {Cl : Addr → V → Prop} {Φ : Addr → Prop} {μ : List Addr} {H : Hp} {G : Sto} {x : D} {v : V} {d : PyData} (g : RG T Cl Φ μ H G) (r : RD T Cl Φ μ H x v) (e : pyD G x = some d) : Dp T.K H v d := by
  cases r with
  | p r => exact r.dp e
  | ref h =>
    simp only [pyD] at e
    split at e
    · rename_i xs hx
      split at e
      · rename_i ys hy
        obtain ⟨vs, h1, h2⟩ := g.look h hx
        rw [allP_eq hy] at h2
        simp only [toPy] at e
        split at e
        · rename_i ds hd
          cases e
          exact .lst (.of h1) (h2.toP.dp hd)
        · cases e
      · cases e
    · cases e
  | tup _ _ => simp [pyD] at e
  | lst _ _ _ => simp [pyD] at e
  | lam _ => simp [pyD] at e
  | scr _ => simp [pyD] at e
/-- == of data -/
def eqS : D → D → Option Bool
  | .p (.str i), .p (.str j) => some (decide (i = j))
  | .p (.int i), .p (.int j) => some (decide (i = j))
  | _, _ => none
def eqD (G : Sto) (x y : D) : Option Bool := match eqS x y with
  | some b => some b
  | none => match pyD G x, pyD G y with
    | some d, some e => if SeqAt.shaped d = true ∧ SeqAt.shaped e = true then some (PyData.eqv d e) else none
    | _, _ => none

/-! ### rows -/
def rowL (G : Sto) : D → Option (List D)
  | .p (.lst xs) => some (xs.map D.p)
  | .lst xs => some xs
  | .ref n => match G[n]? with
    | some (.lst xs) => some xs
    | _ => none
  | _ => none
theorem rowL_rd {T : Tb} {Cl : Addr → V → Prop} {Φ : Addr → Prop} {μ : List Addr} {H : Hp} {G : Sto} {x : D} {v : V} {xs : List D} (g : RG T Cl Φ μ H G) (r : RD T Cl Φ μ H x v) (e : rowL G x = some xs) : ∃ a vs, v = .ref a ∧ H a = some (.lst vs) ∧ RDs T Cl Φ μ H xs vs := by
  cases r with
  | p r => cases r with
    | lst h n r => simp only [rowL, Option.some.injEq] at e; subst e; exact ⟨_, _, rfl, h, .ofP r⟩
    | _ => simp [rowL] at e
  | lst h n r => simp only [rowL, Option.some.injEq] at e; subst e; exact ⟨_, _, rfl, h, r⟩
  | ref h =>
    simp only [rowL] at e
    split at e
    · rename_i xs hx
      cases e
      obtain ⟨vs, h1, h2⟩ := g.look h hx
      exact ⟨_, vs, rfl, h1, h2⟩
    · cases e
  | _ => simp [rowL] at e
def lim : Nat := 16777216
theorem lim_eq : (sizeLine : Nat) = lim := sizeLine_eq

/-! ### two-place operators -/
def mulOk (i j : Int) : Bool := decide (i.natAbs.log2 + j.natAbs.log2 < 1000000)
def divOk (j : Int) : Bool := decide (j ≠ 0) && decide (j.natAbs.log2 < 9000)
def powOk (i j : Int) : Bool := decide (0 ≤ j) && decide (j ≤ 1000000) && decide (i.natAbs < 2 ^ 64)
def addD (G : Sto) : D → D → Option D
  | .p (.int i), .p (.int j) => some (.p (.int (i + j)))
  | .p (.str i), .p (.str j) => if i.length + j.length ≤ lim then some (.p (.str (i ++ j))) else none
  | .p (.tup a), .p (.tup b) => if a.length + b.length ≤ lim then some (.p (.tup (a ++ b))) else none
  | .p (.lst a), .p (.lst b) => if a.length + b.length ≤ lim then some (.p (.lst (a ++ b))) else none
  | x, y => match rowL G x, rowL G y with
    | some a, some b => if a.length + b.length ≤ lim then some (mkLst (a ++ b)) else none
    | _, _ => none
def subD : D → D → Option D
  | .p (.int i), .p (.int j) => some (.p (.int (i - j)))
  | _, _ => none
def mulD : D → D → Option D
  | .p (.int i), .p (.int j) => if mulOk i j = true then some (.p (.int (i * j))) else none
  | _, _ => none
def divD : D → D → Option D
  | .p (.int i), .p (.int j) => if divOk j = true then some (.p (.int (i.fdiv j))) else none
  | _, _ => none
def modD : D → D → Option D
  | .p (.int i), .p (.int j) => if j ≠ 0 then some (.p (.int (i.fmod j))) else none
  | _, _ => none
def powD : D → D → Option D
  | .p (.int i), .p (.int j) => if powOk i j = true then some (.p (.int (i ^ j.toNat))) else none
  | _, _ => none
def binD (op : Operator) (G : Sto) (x y : D) : Option D := match op with
  | .Add => addD G x y
  | .Sub => subD x y
  | .Mult => mulD x y
  | .FloorDiv => divD x y
  | .Mod => modD x y
  | .Pow => powD x y
  | _ => none
section
variable {X : Cx} {T : Tb} {Cl : Addr → V → Prop} {Φ : Addr → Prop} {μ : List Addr} {H : Hp} {G : Sto}
theorem ints_of {f : Int → Int → Option D} {g : D → D → Option D} (hg : ∀ x y d, g x y = some d → ∃ i j, x = .p (.int i) ∧ y = .p (.int j) ∧ f i j = some d) {x y d : D} {vx vy : V} (rx : RD T Cl Φ μ H x vx) (ry : RD T Cl Φ μ H y vy) (e : g x y = some d) : ∃ i j, vx = .int i ∧ vy = .int j ∧ f i j = some d := by
  obtain ⟨i, j, rfl, rfl, h⟩ := hg x y d e
  cases rx with
  | p rx => cases rx with
    | int => cases ry with
      | p ry => cases ry with
        | int => exact ⟨i, j, rfl, rfl, h⟩
theorem cat_lists {x y : D} {a b : List D} {vx vy : V} {Q : VK} (g : RG T Cl Φ μ H G) (rx : RD T Cl Φ μ H x vx) (ry : RD T Cl Φ μ H y vy) (ea : rowL G x = some a) (eb : rowL G y = some b) (hl : a.length + b.length ≤ lim)
    (k : ∀ μ' H' v, Le μ H μ' H' → RG T Cl Φ μ' H' G → RD T Cl Φ μ' H' (mkLst (a ++ b)) v → Q v H') : anyO X (binaryOp .Add) vx vy H Q := by
  obtain ⟨p, vs, rfl, h1, r1⟩ := rowL_rd g rx ea
  obtain ⟨q, ws, rfl, h2, r2⟩ := rowL_rd g ry eb
  refine ⟨_, op_cat, p, q, vs, ws, rfl, rfl, h1, h2, by rw [lim_eq, ← r1.length, ← r2.length]; exact hl, fun l hl => ?_⟩
  obtain ⟨k1, k2, k3⟩ := new_lst g hl (r1.append r2)
  exact k μ _ _ k1 k2 k3
theorem add_ok (hK : T.K = X.K) : OpD X T (anyO X (binaryOp .Add)) (fun G x y => addD G x y) := by
  intro Cl Φ μ H G x y d vx vy Q g rx ry e k
  dsimp only at e
  unfold addD at e
  split at e
  · cases e
    cases rx with
    | p rx => cases rx with
      | int i => cases ry with
        | p ry => cases ry with
          | int j => exact ⟨_, op_add, _, _, rfl, rfl, k μ H _ .refl g (.p (.int _))⟩
  · split at e
    · rename_i hl
      cases e
      cases rx with
      | p rx => cases rx with
        | str i => cases ry with
          | p ry => cases ry with
            | str j => exact ⟨_, op_add_str, _, _, rfl, rfl, by rw [lim_eq]; exact hl, k μ H _ .refl g (.p (.str _))⟩
    · cases e
  · split at e
    · rename_i hl
      cases e
      cases rx with
      | p rx => cases rx with
        | tup h1 r1 => cases ry with
          | p ry => cases ry with
            | tup h2 r2 =>
              refine ⟨_, op_catA, _, _, _, _, rfl, rfl, hK ▸ h1.to, hK ▸ h2.to, by rw [lim_eq, ← r1.length, ← r2.length]; exact hl, fun z => ?_, fun _ z => ?_, fun _ _ p hp => ?_⟩
              · subst z
                cases r1
                exact k μ H _ .refl g (.p (.tup h2 r2))
              · subst z
                cases r2
                rw [List.append_nil] at k
                exact k μ H _ .refl g (.p (.tup h1 r1))
              · exact k μ _ _ (le_new hp) (g.new hp) (.p (.tup (.inl ⟨upd_same, g.bad hp⟩) ((r1.append r2).keep (le_new (μ := μ) hp).bad)))
    · cases e
  · split at e
    · rename_i a b hl
      cases e
      have := cat_lists (X := X) (Q := Q) g rx ry (a := a.map D.p) (b := b.map D.p) rfl rfl (by simpa using hl)
      refine this ?_
      rw [← List.map_append]
      unfold mkLst
      rw [allP_map]
      exact k
    · cases e
  · split at e
    · rename_i a b ea eb
      split at e
      · rename_i hl
        cases e
        exact cat_lists g rx ry ea eb hl k
      · cases e
    · cases e
theorem sub_ok : OpD X T (anyO X (binaryOp .Sub)) (fun _ x y => subD x y) := by
  intro Cl Φ μ H G x y d vx vy Q g rx ry e k
  obtain ⟨i, j, rfl, rfl, h⟩ := ints_of (g := subD) (f := fun i j => some (.p (.int (i - j)))) (fun x y d h => by
    unfold subD at h; split at h
    · exact ⟨_, _, rfl, rfl, h⟩
    · cases h) rx ry e
  cases h
  exact ⟨_, op_sub, i, j, rfl, rfl, k μ H _ .refl g (.p (.int _))⟩
theorem mul_ok : OpD X T (anyO X (binaryOp .Mult)) (fun _ x y => mulD x y) := by
  intro Cl Φ μ H G x y d vx vy Q g rx ry e k
  obtain ⟨i, j, rfl, rfl, h⟩ := ints_of (g := mulD) (f := fun i j => if mulOk i j = true then some (.p (.int (i * j))) else none) (fun x y d h => by
    unfold mulD at h; split at h
    · exact ⟨_, _, rfl, rfl, h⟩
    · cases h) rx ry e
  split at h
  · rename_i c
    cases h
    exact ⟨_, op_mulW, i, j, rfl, rfl, (by unfold mulOk at c; exact of_decide_eq_true (p := i.natAbs.log2 + j.natAbs.log2 < 1000000) c), k μ H _ .refl g (.p (.int _))⟩
  · cases h
/-- // of ints: by a divisor of less than 9000 bits -/
theorem op_fdivWN : OpR X (binaryOp .FloorDiv) (rI (fun _ j => j ≠ 0 ∧ j.natAbs.log2 < 9000) fun i j => .int (i.fdiv j)) :=
  opI fun _ _ _ _ _ _ _ c q => floordiv_int c.1 q (.inl (PyProof.noPylong_of_log2 c.2))
theorem div_ok : OpD X T (anyO X (binaryOp .FloorDiv)) (fun _ x y => divD x y) := by
  intro Cl Φ μ H G x y d vx vy Q g rx ry e k
  obtain ⟨i, j, rfl, rfl, h⟩ := ints_of (g := divD) (f := fun i j => if divOk j = true then some (.p (.int (i.fdiv j))) else none) (fun x y d h => by
    unfold divD at h; split at h
    · exact ⟨_, _, rfl, rfl, h⟩
    · cases h) rx ry e
  split at h
  · rename_i c
    cases h
    unfold divOk at c
    rw [Bool.and_eq_true] at c
    exact ⟨_, op_fdivWN, i, j, rfl, rfl, ⟨of_decide_eq_true c.1, of_decide_eq_true c.2⟩, k μ H _ .refl g (.p (.int _))⟩
  · cases h
theorem mod_ok : OpD X T (anyO X (binaryOp .Mod)) (fun _ x y => modD x y) := by
  intro Cl Φ μ H G x y d vx vy Q g rx ry e k
  obtain ⟨i, j, rfl, rfl, h⟩ := ints_of (g := modD) (f := fun i j => if j ≠ 0 then some (.p (.int (i.fmod j))) else none) (fun x y d h => by
    unfold modD at h; split at h
    · exact ⟨_, _, rfl, rfl, h⟩
    · cases h) rx ry e
  split at h
  · rename_i c
    cases h
    exact ⟨_, op_modN, i, j, rfl, rfl, c, k μ H _ .refl g (.p (.int _))⟩
  · cases h
theorem pow_ok : OpD X T (anyO X (binaryOp .Pow)) (fun _ x y => powD x y) := by
  intro Cl Φ μ H G x y d vx vy Q g rx ry e k
  obtain ⟨i, j, rfl, rfl, h⟩ := ints_of (g := powD) (f := fun i j => if powOk i j = true then some (.p (.int (i ^ j.toNat))) else none) (fun x y d h => by
    unfold powD at h; split at h
    · exact ⟨_, _, rfl, rfl, h⟩
    · cases h) rx ry e
  split at h
  · rename_i c
    cases h
    unfold powOk at c
    rw [Bool.and_eq_true, Bool.and_eq_true] at c
    exact ⟨_, op_pow, i, j, rfl, rfl, ⟨of_decide_eq_true c.1.1, of_decide_eq_true c.1.2, of_decide_eq_true c.2⟩, k μ H _ .refl g (.p (.int _))⟩
  · cases h
theorem bin_ok (hK : T.K = X.K) (op : Operator) : OpD X T (anyO X (binaryOp op)) (binD op) := by
  cases op with
  | Add => exact add_ok hK
  | Sub => exact sub_ok
  | Mult => exact mul_ok
  | FloorDiv => exact div_ok
  | Mod => exact mod_ok
  | Pow => exact pow_ok
  | _ => exact fun Cl Φ μ H G x y d vx vy Q g rx ry e k => by cases e
end

/-! ### one-place operators -/
def unD (op : UnaryOp) (_ : Sto) (x : D) : Option D := match op, x with
  | .USub, .p (.int i) => some (.p (.int (-i)))
  | _, _ => none
theorem un_ok {X : Cx} {T : Tb} (op : UnaryOp) : UnD X T (anyU X (unaryOp op)) (unD op) := by
  intro Cl Φ μ H G x d vx Q g rx e k
  unfold unD at e
  split at e
  · cases e
    cases rx with
    | p rx => cases rx with
      | int => exact ⟨_, un_neg, _, rfl, k μ H _ .refl g (.p (.int _))⟩
  · cases e

/-! ### comparisons -/
def ordI (op : CmpOp) (i j : Int) : Option Bool := match op with
  | .Lt => some (decide (i < j))
  | .LtE => some (decide (i ≤ j))
  | .Gt => some (decide (j < i))
  | .GtE => some (decide (j ≤ i))
  | _ => none
def ordD (op : CmpOp) : D → D → Option Bool
  | .p (.int i), .p (.int j) => ordI op i j
  | _, _ => none
def isNonD : D → Bool
  | .p .non => true
  | _ => false
def isD : D → D → Option Bool
  | x, .p .non => some (isNonD x)
  | .p (.bl a), .p (.bl b) => some (decide (a = b))
  | _, _ => none
/-- the values in which it is sought -/
def seqD (G : Sto) : D → Option (List D)
  | .p (.tup xs) => some (xs.map D.p)
  | x => rowL G x
/-- in a row of flat things -/
def flatP : P → Bool
  | .non => true
  | .bl _ => true
  | .int _ => true
  | .str _ => true
  | _ => false
def eqFlat : P → P → Bool
  | .non, .non => true
  | .bl a, .bl b => a == b
  | .bl a, .int j => (if a then 1 else 0) == j
  | .int i, .bl b => i == (if b then 1 else 0)
  | .int i, .int j => i == j
  | .str x, .str y => x == y
  | _, _ => false
def cmpB (op : CmpOp) (G : Sto) (x y : D) : Option Bool := match op with
  | .Eq => eqD G x y
  | .NotEq => match eqD G x y with
    | some b => some (!b)
    | none => none
  | .Is => isD x y
  | .IsNot => match isD x y with
    | some b => some (!b)
    | none => none
  | .In => none
  | .NotIn => none
  | op => ordD op x y
def cmpD (op : CmpOp) (G : Sto) (x y : D) : Option D := match cmpB op G x y with
  | some b => some (.p (.bl b))
  | none => none
section
variable {X : Cx} {T : Tb}
theorem isNon_rd {Cl : Addr → V → Prop} {Φ : Addr → Prop} {μ : List Addr} {H : Hp} {x : D} {v : V} (r : RD T Cl Φ μ H x v) : decide (v = .non) = isNonD x := by
  cases r with
  | p r => cases r <;> simp [isNonD]
  | ref _ => simp [isNonD]
  | tup _ _ => simp [isNonD]
  | lst _ _ _ => simp [isNonD]
  | scr _ => simp [isNonD]
  | lam h => obtain ⟨L, f, c, cl, ws, rfl, _⟩ := h; simp [isNonD]
theorem cmp_bool {op : CmpOp} {r : R2} (h : ∀ (Cl : Addr → V → Prop) (Φ : Addr → Prop) (μ : List Addr) (H : Hp) (G : Sto) (x y : D) (b : Bool) (vx vy : V) (Q : VK), RG T Cl Φ μ H G → RD T Cl Φ μ H x vx → RD T Cl Φ μ H y vy → cmpB op G x y = some b → Q (.bl b) H → r vx vy H Q) :
    OpD X T r (cmpD op) := by
  intro Cl Φ μ H G x y d vx vy Q g rx ry e k
  unfold cmpD at e
  split at e
  · rename_i b hb
    cases e
    exact h Cl Φ μ H G x y b vx vy Q g rx ry hb (k μ H _ .refl g (.p (.bl b)))
  · cases e
theorem ord_ok {op : CmpOp} {p : Int → Int → Bool} (ho : OpR X (compareOp op) (rI0 fun i j => .bl (p i j))) (hp : ∀ i j, ordI op i j = some (p i j)) {Cl : Addr → V → Prop} {Φ : Addr → Prop} {μ : List Addr} {H : Hp} {x y : D} {b : Bool} {vx vy : V} {Q : VK}
    (rx : RD T Cl Φ μ H x vx) (ry : RD T Cl Φ μ H y vy) (e : ordD op x y = some b) (q : Q (.bl b) H) : anyO X (compareOp op) vx vy H Q := by
  unfold ordD at e
  split at e
  · rename_i i j
    rw [hp] at e
    cases e
    cases rx with
    | p rx => cases rx with
      | int => cases ry with
        | p ry => cases ry with
          | int => exact ⟨_, ho, i, j, rfl, rfl, q⟩
  · cases e
theorem cmp_ok (hK : T.K = X.K) (hu : X.A.units + 64 < cLine) (op : CmpOp) : OpD X T (anyO X (compareOp op)) (cmpD op) := by
  refine cmp_bool fun Cl Φ μ H G x y b vx vy Q g rx ry e q => ?_
  have eqs : ∀ {b : Bool}, eqD G x y = some b → (scal vx vy = true ∧ b = decide (vx = vy)) ∨ ∃ d e', Dp X.K H vx d ∧ Dp X.K H vy e' ∧ SeqAt.shaped d = true ∧ SeqAt.shaped e' = true ∧ b = PyData.eqv d e' := fun {b} h => by
    unfold eqD at h
    split at h
    · rename_i b' hb
      cases h
      unfold eqS at hb
      split at hb
      · cases hb
        cases rx with
        | p rx => cases rx; cases ry with
          | p ry => cases ry; exact .inl ⟨rfl, by simp⟩
      · cases hb
        cases rx with
        | p rx => cases rx; cases ry with
          | p ry => cases ry; exact .inl ⟨rfl, by simp⟩
      · cases hb
    · split at h
      · rename_i d e' h1 h2
        split at h
        · rename_i hs
          cases h
          exact .inr ⟨d, e', hK ▸ pyD_dp g rx h1, hK ▸ pyD_dp g ry h2, hs.1, hs.2, rfl⟩
        · cases h
      · cases h
  have iss : ∀ {b : Bool}, isD x y = some b → (vy = .non ∧ decide (vx = .non) = b) ∨ ∃ p q, vx = .bl p ∧ vy = .bl q ∧ b = decide (p = q) := fun {b} h => by
    unfold isD at h
    split at h
    · cases h
      refine .inl ⟨?_, isNon_rd rx⟩
      cases ry with
      | p ry => cases ry; rfl
    · cases h
      cases rx with
      | p rx => cases rx with
        | bl p => cases ry with
          | p ry => cases ry with
            | bl q => exact .inr ⟨_, _, rfl, rfl, rfl⟩
    · cases h
  cases op with
  | Eq =>
    rcases eqs e with ⟨h1, h2⟩ | ⟨d, e', h1, h2, h3, h4, h5⟩
    · exact ⟨_, op_eq, h1, h2 ▸ q⟩
    · exact ⟨_, op_eqD hu, d, e', h1, h2, h3, h4, h5 ▸ q⟩
  | NotEq =>
    simp only [cmpB] at e
    split at e
    · rename_i b' hb
      cases e
      rcases eqs hb with ⟨h1, h2⟩ | ⟨d, e', h1, h2, h3, h4, h5⟩
      · exact ⟨_, op_ne, h1, h2 ▸ q⟩
      · exact ⟨_, op_neD hu, d, e', h1, h2, h3, h4, h5 ▸ q⟩
    · cases e
  | Is =>
    rcases iss e with ⟨h1, h2⟩ | ⟨p, p', h1, h2, h3⟩
    · exact ⟨_, op_isN, h1, by rw [h2]; exact q⟩
    · exact ⟨_, op_isBl, p, p', h1, h2, h3 ▸ q⟩
  | IsNot =>
    simp only [cmpB] at e
    split at e
    · rename_i b' hb
      cases e
      rcases iss hb with ⟨h1, h2⟩ | ⟨p, p', h1, h2, h3⟩
      · exact ⟨_, op_notN, h1, by rw [h2]; exact q⟩
      · exact ⟨_, op_notBl, p, p', h1, h2, h3 ▸ q⟩
    · cases e
  | In => cases e
  | NotIn => cases e
  | Lt => exact ord_ok op_lt (fun _ _ => rfl) rx ry e q
  | LtE => exact ord_ok op_le (fun _ _ => rfl) rx ry e q
  | Gt => exact ord_ok op_gt (fun _ _ => rfl) rx ry e q
  | GtE => exact ord_ok op_ge (fun _ _ => rfl) rx ry e q
end
end DL

set_option Elab.async false
set_option linter.all false
set_option maxRecDepth 100000
set_option maxHeartbeats 4000000
/-! DL 6: subscripts, slices, membership. -/
namespace DL
open PySem PySem.Spec PyProof.Rows L2

/-! ### x[::-1] -/
section
open HT
variable {prog : Program} {w : World} {A : Around} {E : Value → Shared → Prop} {s : Shared}
theorem sliceApplied_rev {sl : Addr} {vk : Value} {n : Nat} {Q : Int × Int × Nat → Shared → Prop} (hs : s.heap.IsSliceOf sl .none .none vk) (pk : IsPart vk (some (-1)))
    (h : Q (((n : Int) - 1), -1, n) s) : wpAny (model prog w) A (Builtin.Slice.sliceApplied (.ref sl) (pure (n : Int))) Q E s := by
  obtain ⟨os, hos, hcs, hds⟩ := id hs
  unfold Builtin.Slice.sliceApplied Builtin.Slice.sliceFields
  refine wpAny_bind (wpAny_bind (wpAny_field hos hds (x := .none) rfl (wpAny_bind (wpAny_field hos hds (x := .none) rfl (wpAny_bind (wpAny_field hos hds (x := vk) rfl (wpAny_pure ?_)))))))
  refine wpAny_bind (slicePart_ pk ?_)
  show wpAny _ _ (if ((-1 : Int) == 0) = true then _ else _) _ _ s
  rw [if_neg (by decide)]
  refine wpAny_bind (slicePart_none (wpAny_bind (slicePart_none (wpAny_bind (wpAny_pure ?_)))))
  show wpAny _ _ (pure (((n : Int) - 1), (-1 : Int), Builtin.Slice.slicePlaces ((n : Int) - 1) (-1) (-1))) _ _ s
  have e : Builtin.Slice.slicePlaces ((n : Int) - 1) (-1) (-1) = n := by
    unfold Builtin.Slice.slicePlaces
    rw [if_neg (by decide)]
    by_cases c : (n : Int) - 1 > -1
    · rw [if_pos c]
      have : ((n : Int) - 1 - -1 - 1) / (- -1) = (n : Int) - 1 := by
        rw [show (- -1 : Int) = 1 by decide, Int.ediv_one]; omega
      rw [this]; omega
    · rw [if_neg c]; omega
  rw [e]
  exact wpAny_pure h
theorem fm_congr {α β : Type} {f g : α → Option β} : ∀ {l : List α}, (∀ x ∈ l, f x = g x) → l.filterMap f = l.filterMap g
  | [], _ => rfl
  | x :: l, h => by
    rw [List.filterMap_cons, List.filterMap_cons, h x (by simp), fm_congr fun y hy => h y (by simp [hy])]
theorem pick_rev (xs : Array Value) : ((List.range xs.size).filterMap fun (m : Nat) => xs[(((xs.size : Nat) : Int) - 1 + (m : Int) * -1).toNat]?).toArray = xs.toList.reverse.toArray := by
  congr 1
  rw [← PySem.W.krv_all xs, ← List.filterMap_reverse, ← PySem.W.krv_range, List.filterMap_map]
  refine fm_congr fun m hm => ?_
  have := List.mem_range.mp hm
  show xs[_]? = xs[xs.size - 1 - m]?
  congr 1
  omega
theorem getItem_tuple_rev {t sl : Addr} {items : Array Value} {vk : Value} {Q : Value → Shared → Prop} (ht : IsTup s.heap t items) (hs : s.heap.IsSliceOf sl .none .none vk) (pk : IsPart vk (some (-1)))
    (h : Q (.ref s.heap.objs.size) { s with heap := s.heap.push { cls := .type "tuple", data := .seq items.toList.reverse.toArray } })
    (hsz : items.size ≤ sizeLine) : wpAny (model prog w) A (getItem (.ref t) (.ref sl)) Q E s := by
  have htake : sizeOk (.seq items.toList.reverse.toArray) := by
    show items.toList.reverse.toArray.size ≤ sizeLine
    rw [List.size_toArray, List.length_reverse, Array.length_toList]
    exact hsz
  obtain ⟨os, hos, hcs, hds⟩ := id hs
  have hTs : s.TypeIs (.ref sl) "slice" := ⟨os, hos, hcs⟩
  unfold getItem
  try with_reducible refine wpAny_holding ?_
  first | refine wpAny_bind (wpAny_pure ?_) | skip
  refine wpAny_bind (wpAny_sequenceKey ht.typeIs (by decide) ?_)
  refine wpAny_bind (wpAny_callSpecial?_slot (name := Str.ofString "__getitem__") ht.typeIs PyProof.Rows.slot_tuple_getitem
    (wpAny_call_entry PyProof.Rows.slot_tuple_getitem ht.typeIs entry_tuple_getitem ?_ (args_tuple_getitem _ _)))
  show wpAny _ _ (Builtin.Tuple.tupleItemsOf (.ref t) >>= _) _ _ s
  refine wpAny_bind (tupleItemsOf_ ht ?_)
  refine wpAny_bind (wpAny_typeOf hTs ?_)
  rw [if_pos (by decide)]
  refine wpAny_bind (sliceApplied_rev hs pk ?_)
  have hno : ¬ (((((items.size : Nat) : Int) - 1) == 0 && (-1 : Int) == 1 && items.size == items.size) = true) := by
    rw [show ((-1 : Int) == 1) = false by decide, Bool.and_false, Bool.false_and]
    exact Bool.false_ne_true
  show wpAny _ _ (if ((((items.size : Nat) : Int) - 1) == 0 && (-1 : Int) == 1 && items.size == items.size) = true then _ else _) _ _ s
  rw [if_neg hno, pick_rev]
  first
    | exact wpAny_bind (m := Builtin.Tuple.tupleExact _) (wpAny_newObj_type (wpAny_pure ⟨_, rfl, wpAny_pure h⟩) htake)
    | exact wpAny_bind (m := Builtin.Tuple.tupleExact _) (wpAny_newObj_type (wpAny_bind (wpAny_pure (wpAny_pure ⟨_, rfl, wpAny_pure h⟩))) htake)
    | exact wpAny_bind (wpAny_bind (m := Builtin.Tuple.tupleExact _) (wpAny_newObj_type (wpAny_pure (wpAny_pure ⟨_, rfl, wpAny_pure h⟩)) htake))
    | exact wpAny_bind (wpAny_bind (m := Builtin.Tuple.tupleExact _) (wpAny_newObj_type (wpAny_pure ⟨_, rfl, wpAny_pure h⟩) htake))
end
/-- x[::-1] of a list or a tuple -/
def tRevA (K : PySem.W.Frag) (te : TE) : TE := fun σ H Q => te σ H fun x H1 => ∃ a xs, x = .ref a ∧ ((SqL K H1 a xs ∧ ∀ p, H1 p = none → Q (.ref p) (upd H1 p (.lst xs.reverse))) ∨ (SqT K H1 a xs ∧ ∀ p, H1 p = none → Q (.ref p) (upd H1 p (.tup xs.reverse))))
section
variable {X : Cx}
theorem pe_revA {e : Expr} {te : TE} {k : Nat} {p1 p2 p3 pos : Pos} (he : PE X e te) : PE X (.Subscript e (.Slice none none (some (.UnaryOp .USub (.Constant (.int 1) k p1) p2)) p3) pos) (tRevA X.K te) := by
  refine ⟨fun pins s σ H Q I h => ?_⟩
  refine Subscript_ (thn (he.run pins s σ H _ I h) fun v s1 ⟨x, H1, I1, r1, a, xs, ex, q1⟩ => ?_)
  subst ex
  cases r1
  have hst : PO X (some (.UnaryOp .USub (.Constant (.int 1) k p1) p2)) (tPart (tUn (rU fun i => .int (-i)) (tC (.int 1)))) := po_some (pe_un un_neg pe_int)
  refine wpAny_Slice (thn (po_none.run pins s1 σ H1 (fun o H2 => o = none ∧ H2 = H1) I1 ⟨rfl, rfl⟩) fun vl s2 ⟨l, H2, I2, pl, el, e2⟩ => ?_)
  subst el e2
  refine thn (po_none.run pins s2 σ H2 (fun o H3 => o = none ∧ H3 = H2) I2 ⟨rfl, rfl⟩) fun vu s3 ⟨u, H3, I3, pu, eu, e3⟩ => ?_
  subst eu e3
  refine thn (hst.run pins s3 σ H3 (fun o H4 => o = some (-1) ∧ H4 = H3) I3 ⟨1, rfl, -1, rfl, rfl, rfl⟩) fun vs s4 ⟨o, H4, I4, ps, eo, e4⟩ => ?_
  subst eo e4
  have I5 : Inv X pins σ H4 { s4 with heap := s4.heap.push { cls := .type "slice", data := .fields #[vl, vu, vs] } } := I4.kept (t' := s4.toks) fun b ob q => Heap.get?_push_of_some _ q
  show wpAny (model X.prog X.w) X.A (subscriptTail e (.Slice none none (some (.UnaryOp .USub (.Constant (.int 1) k p1) p2)) p3) (.ref a) (.ref s4.heap.objs.size)) (EP X pins σ Q) X.xe { s4 with heap := s4.heap.push { cls := .type "slice", data := .fields #[vl, vu, vs] } }
  rcases q1 with ⟨hx, q⟩ | ⟨hx, q⟩
  · obtain ⟨its, r, ht, hz⟩ := I5.list hx
    have hlen := r.length
    refine tail_any (ops := [.ref a, .ref s4.heap.objs.size]) ht.isList.typeIs (PySem.slot_list_getitem.lookup) ?_ (by with_unfolding_all rfl)
    refine wpAny_getItem_list_slice ht.isList (Heap.IsSliceOf.new _ vl vu vs) pl pu ps (by decide) ?_ (by rw [List.size_toArray]; omega)
    rw [PySem.W.krv_pick]
    refine ⟨.ref _, _, I5.laid (t' := s4.toks) (o := .lst xs.reverse) (fun b ob q => Heap.get?_push_of_some _ q) (Nat.le_refl _) ?_, rfl, q _ (I5.hok.fresh (Nat.le_refl _))⟩
    exact ⟨by rw [List.length_reverse]; exact hz, _, 0, r.reverse, Heap.get?_push_size _ rfl⟩
  · obtain ⟨its, r, ht, hz⟩ := I5.tuple hx
    have hlen := r.length
    cases pl
    cases pu
    refine tail_any (ops := [.ref a, .ref s4.heap.objs.size]) ht.typeIs (PyProof.Rows.slot_tuple_getitem.lookup) ?_ (by with_unfolding_all rfl)
    refine getItem_tuple_rev ht (Heap.IsSliceOf.new _ _ _ vs) ps ?_ (by rw [List.size_toArray]; omega)
    refine ⟨.ref _, _, I5.laid (t' := s4.toks) (o := .tup xs.reverse) (fun b ob q => Heap.get?_push_of_some _ q) (Nat.le_refl _) ?_, rfl, q _ (I5.hok.fresh (Nat.le_refl _))⟩
    refine ⟨by rw [List.length_reverse]; exact hz, its.reverse, r.reverse, ?_⟩
    exact IsTup.new _ _
end
def revD (G : Sto) : D → Option D
  | .p (.tup xs) => some (.p (.tup xs.reverse))
  | .tup xs => some (.tup xs.reverse)
  | x => (rowL G x).map fun xs => mkLst xs.reverse
section
variable {X : Cx} {C : CF} {T : Tb} {W : WX} {e : Expr} {fe : EF}
theorem RDs.reverse {Cl : Addr → V → Prop} {Φ : Addr → Prop} {μ : List Addr} {H : Hp} : ∀ {xs : List D} {vs : List V}, RDs T Cl Φ μ H xs vs → RDs T Cl Φ μ H xs.reverse vs.reverse
  | _, _, .nil => .nil
  | _, _, .cons r t => by
    rw [List.reverse_cons, List.reverse_cons]
    exact (RDs.reverse t).append (.cons r .nil)
theorem rev_rd {Cl : Addr → V → Prop} {Φ : Addr → Prop} {μ : List Addr} {H : Hp} {G : Sto} {x d : D} {v : V} {Q : VK} (hK : T.K = X.K) (g : RG T Cl Φ μ H G) (r : RD T Cl Φ μ H x v) (e : revD G x = some d)
    (k : ∀ μ' H' v, Le μ H μ' H' → RG T Cl Φ μ' H' G → RD T Cl Φ μ' H' d v → Q v H') :
    ∃ a xs, v = .ref a ∧ ((SqL X.K H a xs ∧ ∀ p, H p = none → Q (.ref p) (upd H p (.lst xs.reverse))) ∨ (SqT X.K H a xs ∧ ∀ p, H p = none → Q (.ref p) (upd H p (.tup xs.reverse)))) := by
  have rows : ∀ {xs : List D}, rowL G x = some xs → mkLst xs.reverse = d → ∃ a xs, v = .ref a ∧ ((SqL X.K H a xs ∧ ∀ p, H p = none → Q (.ref p) (upd H p (.lst xs.reverse))) ∨ (SqT X.K H a xs ∧ ∀ p, H p = none → Q (.ref p) (upd H p (.tup xs.reverse)))) := by
    intro xs h1 h2
    obtain ⟨a, vs, rfl, h, rr⟩ := rowL_rd g r h1
    refine ⟨a, vs, rfl, .inl ⟨.of h, fun p hp => ?_⟩⟩
    obtain ⟨k1, k2, k3⟩ := new_lst g hp rr.reverse
    exact k _ _ _ k1 k2 (h2 ▸ k3)
  unfold revD at e
  split at e
  · cases e
    cases r with
    | p r => cases r with
      | tup h1 h2 =>
        refine ⟨_, _, rfl, .inr ⟨hK ▸ h1.to, fun p hp => k _ _ _ (le_new hp) (g.new hp) (.p (.tup (.inl ⟨upd_same, g.bad hp⟩) (h2.reverse.keep (le_new (μ := μ) hp).bad)))⟩⟩
  · cases e
    cases r with
    | tup h1 h2 => exact ⟨_, _, rfl, .inr ⟨hK ▸ h1.to, fun p hp => k _ _ _ (le_new hp) (g.new hp) (.tup (.inl ⟨upd_same, g.bad hp⟩) (h2.reverse.keep (le_new hp)))⟩⟩
  · cases h : rowL G x with
    | none => rw [h] at e; cases e
    | some xs => rw [h] at e; exact rows h (Option.some.inj e)
def fRev (f : EF) : EF := f1 revD f
theorem re_rev {k : Nat} {p1 p2 p3 pos : Pos} (hK : T.K = X.K) (he : PE X e (eOf C T W fe)) : PE X (.Subscript e (.Slice none none (some (.UnaryOp .USub (.Constant (.int 1) k p1) p2)) p3) pos) (eOf C T W (fRev fe)) :=
  peImp (pe_revA he) fun σ H Q ⟨Φ, μ, ρ, G, r, o⟩ => ⟨Φ, μ, ρ, G, r, o.bind fun v H1 ⟨μ1, G1, x, k1, g1, rx, o1⟩ => by
    cases ed : revD G1 x with
    | none => rw [ed] at o1; exact o1.elim
    | some d =>
      rw [ed] at o1
      exact rev_rd hK g1 rx ed fun μ' H' v k2 g2 r2 => o1 μ' H' v k2 g2 r2⟩
end
/-! ### subscripts -/
def keyP : P → Option Key
  | .int i => some (.inl i)
  | .str s => some (.inr s)
  | _ => none
def keysP : List P → Option (List Key)
  | [] => some []
  | x :: xs => match keyP x, keysP xs with
    | some k, some ks => some (k :: ks)
    | _, _ => none
/-- rows of whole numbers are no keys here (they might be the written part's) -/
def rowP : List P → Bool
  | [] => false
  | x :: xs => (x :: xs).all fun x => match x with
    | .int _ => true
    | _ => false
def keysW (ks : List P) : Option (List Key) := if rowP ks then none else keysP ks
def valK {α κ : Type} [DecidableEq κ] (kvs : List (κ × α)) (k : κ) : Option α := (kvs.find? fun kv => decide (kv.1 = k)).map (·.2)
/-- a dict of the store, or one that stays: what it holds at a key; none: no such dict or key -/
def dgetD (G : Sto) : D → D → Option (Option D)
  | .ref n, y => match G[n]? with
    | some (.dK kvs) => match y with
      | .p k => (keyP k).map fun k => valK kvs k
      | _ => none
    | some (.dT kvs) => match y with
      | .p (.tup ks) => (keysW ks).map fun k => valK kvs k
      | _ => none
    | _ => none
  | .p (.dct kvs), .p k => (keyP k).map fun k => (valK kvs k).map D.p
  | _, _ => none
def atD (G : Sto) (x : D) (i : Int) : Option D := match x with
  | .p (.tup xs) => (atI xs i).map D.p
  | .tup xs => atI xs i
  | .p (.str s) => if s.length ≤ lim then (atI s.cps.toList i).map fun c => .p (.str ⟨#[c]⟩) else none
  | x => match rowL G x with
    | some xs => atI xs i
    | none => none
def ixD (G : Sto) (x y : D) : Option D := match dgetD G x y with
  | some o => o
  | none => match y with
    | .p (.int i) => atD G x i
    | _ => none
section
variable {X : Cx} {T : Tb} {Cl : Addr → V → Prop} {Φ : Addr → Prop} {μ : List Addr} {H : Hp} {G : Sto}
theorem keyP_rd {B : Addr → Prop} {x : P} {v : V} {k : Key} (r : RP T.K T.ga B H x v) (e : keyP x = some k) : v = kV k := by
  cases r with
  | int i => simp only [keyP, Option.some.injEq] at e; subst e; rfl
  | str i => simp only [keyP, Option.some.injEq] at e; subst e; rfl
  | _ => simp [keyP] at e
theorem keysP_rd {B : Addr → Prop} : ∀ {x : List P} {v : List V} {k : List Key}, RPs T.K T.ga B H x v → keysP x = some k → v = k.map kV
  | _, _, _, .nil, e => by simp only [keysP, Option.some.injEq] at e; subst e; rfl
  | _, _, _, .cons r t, e => by
    simp only [keysP] at e
    split at e
    · rename_i k ks h1 h2
      cases e
      rw [keyP_rd r h1, keysP_rd t h2]; rfl
    · cases e
theorem rowP_rd {B : Addr → Prop} : ∀ {x : List P} {v : List V} {k : List Key}, RPs T.K T.ga B H x v → keysP x = some k → kRow v = true → rowP x = true := by
  have all : ∀ {x : List P} {v : List V} {k : List Key}, RPs T.K T.ga B H x v → keysP x = some k → (v.all fun v => match v with | .int _ => true | _ => false) = true → (x.all fun x => match x with | .int _ => true | _ => false) = true := by
    intro x
    induction x with
    | nil => intro _ _ _ _ _; rfl
    | cons y ys ih =>
      intro v k r e h
      cases r with
      | cons r t =>
        simp only [keysP] at e
        split at e
        · rename_i k1 ks h1 h2
          rw [List.all_cons, Bool.and_eq_true] at h ⊢
          refine ⟨?_, ih t h2 h.2⟩
          cases r <;> first | rfl | (cases h1; done) | (simp at h)
        · cases e
  intro x v k r e h
  cases r with
  | nil => cases h
  | cons r t => exact all (.cons r t) e h
theorem keysW_rd {B : Addr → Prop} {a : Addr} {x : List P} {v : List V} {k : List Key} (ht : SqTB T.K B H a v) (r : RPs T.K T.ga B H x v) (e : keysW x = some k) : H a = some (.tup (k.map kV)) := by
  unfold keysW at e
  split at e
  · cases e
  · rename_i hn
    rw [← keysP_rd r e]
    rcases ht with h | h
    · exact h.1
    · exact absurd (rowP_rd r e h.2) hn
theorem valK_get {α β κ : Type} [DecidableEq κ] {R : α → β → Prop} : ∀ {kvs : List (κ × α)} {vs : List (κ × β)} {k : κ}, vs.map Prod.fst = kvs.map Prod.fst → (∀ (i : Nat) (a : α) (b : β), (kvs.map Prod.snd)[i]? = some a → (vs.map Prod.snd)[i]? = some b → R a b) →
    (valK kvs k = none ∧ valK vs k = none) ∨ ∃ a b, valK kvs k = some a ∧ valK vs k = some b ∧ R a b
  | [], [], _, _, _ => .inl ⟨rfl, rfl⟩
  | [], _ :: _, _, h, _ => by simp at h
  | _ :: _, [], _, h, _ => by simp at h
  | (k1, a) :: kvs, (k2, b) :: vs, k, h, hr => by
    simp only [List.map_cons, List.cons.injEq] at h
    obtain ⟨h1, h2⟩ := h
    subst h1
    by_cases c : k2 = k
    · exact .inr ⟨a, b, by simp [valK, List.find?_cons, c], by simp [valK, List.find?_cons, c], hr 0 a b rfl rfl⟩
    · have e1 : valK ((k2, a) :: kvs) k = valK kvs k := by simp [valK, List.find?_cons, c]
      have e2 : valK ((k2, b) :: vs) k = valK vs k := by simp [valK, List.find?_cons, c]
      rw [e1, e2]
      exact valK_get h2 fun i x y p q => hr (i + 1) x y (by simpa using p) (by simpa using q)
theorem valV_valK {κ : Type} [DecidableEq κ] (kvs : List (κ × V)) (k : κ) : valV kvs k = valK kvs k := rfl
theorem dget_rd {x y : D} {vx vy : V} {o : Option D} (g : RG T Cl Φ μ H G) (rx : RD T Cl Φ μ H x vx) (ry : RD T Cl Φ μ H y vy) (e : dgetD G x y = some o) :
    ∃ a ov, vx = .ref a ∧ DGet H a vy ov ∧ ((o = none ∧ ov = none) ∨ ∃ d v, o = some d ∧ ov = some v ∧ RD T Cl Φ μ H d v) := by
  unfold dgetD at e
  split at e
  · rename_i n
    cases rx with
    | ref hn =>
      split at e
      · rename_i kvs hk
        obtain ⟨vs, h1, h2, h3⟩ := g.look hn hk
        split at e
        · rename_i k
          obtain ⟨kk, ek, eo⟩ := Option.map_eq_some_iff.mp e
          cases ry with
          | p ry =>
            rw [keyP_rd ry ek]
            refine ⟨_, valV vs kk, rfl, .k h1, ?_⟩
            rcases valK_get (R := RD T Cl Φ μ H) (k := kk) h2 (fun i a b p q => by
              obtain ⟨v, q1, q2⟩ := h3.get p
              rw [q] at q1; cases q1; exact q2) with ⟨e1, e2⟩ | ⟨a, b, e1, e2, r⟩
            · exact .inl ⟨eo ▸ e1, e2⟩
            · exact .inr ⟨a, b, eo ▸ e1, e2, r⟩
        · cases e
      · rename_i kvs hk
        obtain ⟨vs, h1, h2, h3⟩ := g.look hn hk
        split at e
        · rename_i ks
          obtain ⟨kk, ek, eo⟩ := Option.map_eq_some_iff.mp e
          cases ry with
          | p ry => cases ry with
            | tup ht rr =>
              have hb := keysW_rd ht rr ek
              refine ⟨_, valV vs kk, rfl, .t h1 hb, ?_⟩
              rcases valK_get (R := RD T Cl Φ μ H) (k := kk) h2 (fun i a b p q => by
                obtain ⟨v, q1, q2⟩ := h3.get p
                rw [q] at q1; cases q1; exact q2) with ⟨e1, e2⟩ | ⟨a, b, e1, e2, r⟩
              · exact .inl ⟨eo ▸ e1, e2⟩
              · exact .inr ⟨a, b, eo ▸ e1, e2, r⟩
        · cases e
      · cases e
  · rename_i kvs k
    obtain ⟨kk, ek, eo⟩ := Option.map_eq_some_iff.mp e
    cases ry with
    | p ry => cases rx with
      | p rx => cases rx with
        | dct h1 nb h2 h3 =>
          rename_i a vs
          rw [keyP_rd ry ek]
          refine ⟨_, valV vs kk, rfl, .k h1, ?_⟩
          rcases valK_get (R := RP T.K T.ga (Bad Φ μ) H) (k := kk) h2 (fun i a b p q => by
            obtain ⟨v, q1, q2⟩ := h3.get p
            rw [q] at q1; cases q1; exact q2) with ⟨e1, e2⟩ | ⟨a, b, e1, e2, r⟩
          · exact .inl ⟨by rw [← eo, e1]; rfl, e2⟩
          · exact .inr ⟨.p a, b, by rw [← eo, e1]; rfl, e2, .p r⟩
  · cases e
/-- x[y], a dict -/
theorem ix_dget (hu : X.A.units + 1 < cLine) : IxR X (fun x y H Q => ∃ a v, x = .ref a ∧ DGet H a y (some v) ∧ Q v H) := by
  intro value slice pins s σ H x y v u Q I rx ry ⟨a, w, ex, g, q⟩ hs
  subst ex
  obtain rfl : v = Value.ref a := rx
  exact tail_any (dict_typeIs I g) PySem.F.slot_dict_getitem.lookup (d_getItem hu I g ry fun w' s3 I3 rw' => ⟨w, H, I3, rw', q⟩) hs
theorem atI_lt {α β : Type} {xs : List α} {i : Int} {x : α} (h : atI xs i = some x) : ∃ j : Nat, xs[j]? = some x ∧ ∀ (ys : List β), ys.length = xs.length → atI ys i = ys[j]? := by
  obtain ⟨j, h1, h2, h3, h4, h5⟩ := atI_get h
  refine ⟨j, h2, fun ys hl => ?_⟩
  unfold atI at h ⊢
  rw [hl]
  cases e : ixN xs.length i with
  | none => rw [e] at h; cases h
  | some j' =>
    obtain ⟨q1, _⟩ := ixN_seq e
    rw [h1] at q1
    cases q1
    rfl
theorem atI_rds {xs : List D} {vs : List V} {i : Int} {d : D} (r : RDs T Cl Φ μ H xs vs) (e : atI xs i = some d) : ∃ v, atI vs i = some v ∧ RD T Cl Φ μ H d v := by
  obtain ⟨j, h1, h2⟩ := atI_lt e
  obtain ⟨v, h3, h4⟩ := r.get h1
  exact ⟨v, (h2 vs r.length.symm).trans h3, h4⟩
theorem atI_rps {B : Addr → Prop} {xs : List P} {vs : List V} {i : Int} {d : P} (r : RPs T.K T.ga B H xs vs) (e : atI xs i = some d) : ∃ v, atI vs i = some v ∧ RP T.K T.ga B H d v := by
  obtain ⟨j, h1, h2⟩ := atI_lt e
  obtain ⟨v, h3, h4⟩ := r.get h1
  exact ⟨v, (h2 vs r.length.symm).trans h3, h4⟩
theorem at_ok (hK : T.K = X.K) {x d : D} {vx : V} {i : Int} {Q : VK} (g : RG T Cl Φ μ H G) (rx : RD T Cl Φ μ H x vx) (e : atD G x i = some d) (k : ∀ v, RD T Cl Φ μ H d v → Q v H) : anyI X vx (.int i) H Q := by
  unfold atD at e
  split at e
  · obtain ⟨z, e1, e2⟩ := Option.map_eq_some_iff.mp e
    subst e2
    cases rx with
    | p rx => cases rx with
      | tup h1 h2 =>
        obtain ⟨v, e3, r⟩ := atI_rps h2 e1
        exact ⟨_, ix_tup, _, _, i, v, rfl, rfl, hK ▸ h1.to, e3, k _ (.p r)⟩
  · cases rx with
    | tup h1 h2 =>
      obtain ⟨v, e3, r⟩ := atI_rds h2 e
      exact ⟨_, ix_tup, _, _, i, v, rfl, rfl, hK ▸ h1.to, e3, k _ r⟩
  · split at e
    · rename_i s hl
      obtain ⟨z, e1, e2⟩ := Option.map_eq_some_iff.mp e
      subst e2
      cases rx with
      | p rx => cases rx with
        | str => exact ⟨_, ix_str, s, i, z, rfl, rfl, by rw [lim_eq]; exact hl, e1, k _ (.p (.str _))⟩
    · cases e
  · split at e
    · rename_i xs hx
      obtain ⟨a, vs, rfl, h1, h2⟩ := rowL_rd g rx hx
      obtain ⟨v, e3, r⟩ := atI_rds h2 e
      exact ⟨_, ix_list, _, vs, i, v, rfl, rfl, .of h1, e3, k _ r⟩
    · cases e
theorem ix_ok (hK : T.K = X.K) (hu : X.A.units + 1 < cLine) : OpD X T (anyI X) ixD := by
  intro Cl Φ μ H G x y d vx vy Q g rx ry e k
  unfold ixD at e
  split at e
  · rename_i o ho
    obtain ⟨a, ov, ev, hd, hr⟩ := dget_rd g rx ry ho
    rcases hr with ⟨h1, _⟩ | ⟨d', v, h1, h2, r⟩
    · rw [h1] at e; cases e
    · rw [h1] at e
      cases e
      subst h2
      exact ⟨_, ix_dget hu, a, v, ev, hd, k _ _ _ .refl g r⟩
  · split at e
    · rename_i i
      cases ry with
      | p ry => cases ry with
        | int => exact at_ok hK g rx e fun v r => k _ _ _ .refl g r
    · cases e
end

/-! ### slices -/
abbrev OF := Ro → Sto → Res (Option Int)
def oOf (C : CF) (T : Tb) (W : WX) (f : OF) : TO := fun σ H Q => ∃ Φ μ ρ G, Rel C T Φ μ H σ ρ G ∧ Out C T W Φ ρ σ (fun _ _ (a b : Option Int) => a = b) μ H (f ρ G) Q
def oNone : OF := fun _ G => .ok none G
def oSome (f : EF) : OF := fun ρ G => (f ρ G).bind fun x G1 => match x with
  | .p (.int i) => .ok (some i) G1
  | _ => .stuck
def cutL {α : Type} (xs : List α) (lo hi : Option Int) : List α := (xs.drop (HT.sIx xs.length 0 lo)).take (HT.sIx xs.length xs.length hi - HT.sIx xs.length 0 lo)
def cutD (G : Sto) (lo hi : Option Int) : D → Option D
  | .p (.tup xs) => some (.p (.tup (cutL xs lo hi)))
  | .tup xs => some (.tup (cutL xs lo hi))
  | .p (.str s) => if s.length ≤ lim then some (.p (.str (cutS s lo hi))) else none
  | x => (rowL G x).map fun xs => mkLst (cutL xs lo hi)
def fCut (f : EF) (lo hi : OF) : EF := fun ρ G => (f ρ G).bind fun x G1 => (lo ρ G1).bind fun l G2 => (hi ρ G2).bind fun h G3 => Res.of (cutD G3 l h x) G3
section
variable {X : Cx} {C : CF} {T : Tb} {W : WX} {e : Expr} {fe : EF} {lo hi : Option Expr} {fl fh : OF} {pos p2 : Pos}
theorem poImp {e : Option Expr} {t t' : TO} (h : PO X e t) (k : ∀ σ H Q, t' σ H Q → t σ H Q) : PO X e t' := ⟨fun pins s σ H Q I hw => h.run pins s σ H Q I (k _ _ _ hw)⟩
theorem ro_none : PO X none (oOf C T W oNone) := poImp po_none fun σ H Q ⟨Φ, μ, ρ, G, r, o⟩ => o μ H none .refl r.g rfl
theorem ro_some (h : PE X e (eOf C T W fe)) : PO X (some e) (oOf C T W (oSome fe)) := poImp (po_some h) fun σ H Q ⟨Φ, μ, ρ, G, r, o⟩ => ⟨Φ, μ, ρ, G, r, o.bind fun v H1 ⟨μ1, G1, x, k1, g1, rx, o1⟩ => by
  split at o1
  · rename_i i
    cases rx with
    | p rx => cases rx with
      | int => exact ⟨i, rfl, o1 μ1 H1 _ .refl g1 rfl⟩
  · exact o1.elim⟩
def anyS (X : Cx) : V → Option Int → Option Int → Hp → VK → Prop := fun x l h H Q => ∃ r, SlR X r ∧ r x l h H Q
theorem any_sl : SlR X (anyS X) := fun pins s σ H x v vl vu lo hi sl Q I rx hs pl pu ⟨r, h, q⟩ => h pins s σ H x v vl vu lo hi sl Q I rx hs pl pu q
theorem RDs.take {Cl : Addr → V → Prop} {Φ : Addr → Prop} {μ : List Addr} {H : Hp} : ∀ {xs : List D} {vs : List V} (n : Nat), RDs T Cl Φ μ H xs vs → RDs T Cl Φ μ H (xs.take n) (vs.take n)
  | _, _, 0, _ => .nil
  | _, _, _ + 1, .nil => .nil
  | _, _, n + 1, .cons r t => .cons r (RDs.take n t)
theorem RDs.drop {Cl : Addr → V → Prop} {Φ : Addr → Prop} {μ : List Addr} {H : Hp} : ∀ {xs : List D} {vs : List V} (n : Nat), RDs T Cl Φ μ H xs vs → RDs T Cl Φ μ H (xs.drop n) (vs.drop n)
  | _, _, 0, r => r
  | _, _, _ + 1, .nil => .nil
  | _, _, n + 1, .cons _ t => RDs.drop n t
theorem cut_rds {Cl : Addr → V → Prop} {Φ : Addr → Prop} {μ : List Addr} {H : Hp} {xs : List D} {vs : List V} (r : RDs T Cl Φ μ H xs vs) (lo hi : Option Int) : RDs T Cl Φ μ H (cutL xs lo hi) (cutV vs lo hi) := by
  unfold cutL cutV
  rw [r.length]
  exact (r.drop _).take _
theorem cut_rps {B : Addr → Prop} {H : Hp} {xs : List P} {vs : List V} (r : RPs T.K T.ga B H xs vs) (lo hi : Option Int) : RPs T.K T.ga B H (cutL xs lo hi) (cutV vs lo hi) := by
  unfold cutL cutV
  rw [r.length]
  exact (r.drop _).take _
theorem cut_whole {α : Type} {xs : List α} {lo hi : Option Int} (h : HT.sIx xs.length 0 lo = 0 ∧ HT.sIx xs.length xs.length hi = xs.length) : cutL xs lo hi = xs := by
  unfold cutL
  rw [h.1, h.2]
  simp
theorem cut_ok (hK : T.K = X.K) {Cl : Addr → V → Prop} {Φ : Addr → Prop} {μ : List Addr} {H : Hp} {G : Sto} {x d : D} {vx : V} {lo hi : Option Int} {Q : VK} (g : RG T Cl Φ μ H G) (rx : RD T Cl Φ μ H x vx) (e : cutD G lo hi x = some d)
    (k : ∀ μ' H' v, Le μ H μ' H' → RG T Cl Φ μ' H' G → RD T Cl Φ μ' H' d v → Q v H') : anyS X vx lo hi H Q := by
  have rows : ∀ {xs : List D}, rowL G x = some xs → mkLst (cutL xs lo hi) = d → anyS X vx lo hi H Q := by
    intro xs h1 h2
    obtain ⟨a, vs, rfl, h, rr⟩ := rowL_rd g rx h1
    refine ⟨_, sl_list, a, vs, rfl, .of h, fun p hp => ?_⟩
    obtain ⟨k1, k2, k3⟩ := new_lst g hp (cut_rds rr lo hi)
    exact k _ _ _ k1 k2 (h2 ▸ k3)
  unfold cutD at e
  split at e
  · cases e
    cases rx with
    | p rx => cases rx with
      | tup h1 h2 =>
        refine ⟨_, sl_tupA, _, _, rfl, hK ▸ h1.to, fun w => ?_, fun _ p hp => ?_⟩
        · have w' := w
          rw [← h2.length] at w'
          rw [cut_whole w'] at k
          exact k _ _ _ .refl g (.p (.tup h1 h2))
        · exact k _ _ _ (le_new hp) (g.new hp) (.p (.tup (.inl ⟨upd_same, g.bad hp⟩) ((cut_rps h2 lo hi).keep (le_new (μ := μ) hp).bad)))
  · cases e
    cases rx with
    | tup h1 h2 =>
      refine ⟨_, sl_tupA, _, _, rfl, hK ▸ h1.to, fun w => ?_, fun _ p hp => ?_⟩
      · have w' := w
        rw [← h2.length] at w'
        rw [cut_whole w'] at k
        exact k _ _ _ .refl g (.tup h1 h2)
      · exact k _ _ _ (le_new hp) (g.new hp) (.tup (.inl ⟨upd_same, g.bad hp⟩) ((cut_rds h2 lo hi).keep (le_new hp)))
  · split at e
    · rename_i s hl
      cases e
      cases rx with
      | p rx => cases rx with
        | str => exact ⟨_, sl_str, s, rfl, by rw [lim_eq]; exact hl, k _ _ _ .refl g (.p (.str _))⟩
    · cases e
  · cases h : rowL G x with
    | none => rw [h] at e; cases e
    | some xs => rw [h] at e; exact rows h (Option.some.inj e)
theorem re_cut (hK : T.K = X.K) (he : PE X e (eOf C T W fe)) (hl : PO X lo (oOf C T W fl)) (hh : PO X hi (oOf C T W fh)) : PE X (.Subscript e (.Slice lo hi none p2) pos) (eOf C T W (fCut fe fl fh)) :=
  peImp (pe_slice any_sl he hl hh) fun σ H Q ⟨Φ, μ, ρ, G, r, o⟩ => ⟨Φ, μ, ρ, G, r, o.bind fun v H1 ⟨μ1, G1, x, k1, g1, rx, o1⟩ =>
    ⟨Φ, μ1, ρ, G1, r.later k1 g1, o1.bind fun l H2 ⟨μ2, G2, l', k2, g2, el, o2⟩ => ⟨Φ, μ2, ρ, G2, (r.later k1 g1).later k2 g2, o2.bind fun h H3 ⟨μ3, G3, h', k3, g3, eh, o3⟩ => by
      subst el
      subst eh
      cases ed : cutD G3 l' h' x with
      | none => rw [ed] at o3; exact o3.elim
      | some d =>
        rw [ed] at o3
        exact cut_ok hK g3 ((rx.keep k2).keep k3) ed fun μ' H' v k2 g2 r2 => o3 μ' H' v k2 g2 r2⟩⟩⟩
end

/-! ### in, not in -/
def inD (G : Sto) (x y : D) : Option Bool := match dgetD G y x with
  | some o => some o.isSome
  | none => match pyD G x, pyD G y with
    | some d, some (.list ds) => if SeqAt.shaped d = true ∧ SeqAt.shaped (.list ds) = true then some (ds.any fun z => PyData.eqv z d) else none
    | some d, some (.tuple ds) => if SeqAt.shaped d = true ∧ SeqAt.shaped (.tuple ds) = true then some (ds.any fun z => PyData.eqv z d) else none
    | _, _ => none
section
variable {X : Cx} {T : Tb}
theorem op_inT (hu : X.A.units + 65 < cLine) : OpR X (compareOp .In) (fun x y H Q => ∃ d ds, Dp X.K H x d ∧ Dp X.K H y (.tuple ds) ∧ SeqAt.shaped d = true ∧ SeqAt.shaped (.tuple ds) = true ∧ Q (.bl (ds.any fun z => PyData.eqv z d)) H) := by
  intro pins s σ H x y v u Q I rx ry h
  obtain ⟨d, ds, hd, he, sd, se, q⟩ := h
  obtain ⟨as, r1⟩ := Dp.reads I d x v hd rx
  obtain ⟨bs, r2⟩ := Dp.reads I (.tuple ds) y u he ry
  exact SeqAt.in_tuple_reads r2 r1 (SeqAt.canLay_of_shaped se) (SeqAt.canLay_of_shaped sd) (room_in_shaped (xs := ds) sd hu) ⟨.bl _, H, I, rfl, q⟩
theorem op_notInT (hu : X.A.units + 65 < cLine) : OpR X (compareOp .NotIn) (fun x y H Q => ∃ d ds, Dp X.K H x d ∧ Dp X.K H y (.tuple ds) ∧ SeqAt.shaped d = true ∧ SeqAt.shaped (.tuple ds) = true ∧ Q (.bl (!ds.any fun z => PyData.eqv z d)) H) := by
  intro pins s σ H x y v u Q I rx ry h
  obtain ⟨d, ds, hd, he, sd, se, q⟩ := h
  obtain ⟨as, r1⟩ := Dp.reads I d x v hd rx
  obtain ⟨bs, r2⟩ := Dp.reads I (.tuple ds) y u he ry
  exact SeqAt.notIn_tuple_reads r2 r1 (SeqAt.canLay_of_shaped se) (SeqAt.canLay_of_shaped sd) (room_in_shaped (xs := ds) sd hu) ⟨.bl _, H, I, rfl, q⟩
theorem op_dIn (hu : X.A.units + 1 < cLine) : OpR X (compareOp .In) (fun y x H Q => ∃ a o, x = .ref a ∧ DGet H a y o ∧ Q (.bl o.isSome) H) := by
  intro pins s σ H y x u v Q I ry rx ⟨a, o, ex, g, q⟩
  subst ex
  obtain rfl : v = Value.ref a := rx
  exact d_in hu I g ry fun s3 I3 => ⟨.bl o.isSome, H, I3, rfl, q⟩
theorem op_dNotIn (hu : X.A.units + 1 < cLine) : OpR X (compareOp .NotIn) (fun y x H Q => ∃ a o, x = .ref a ∧ DGet H a y o ∧ Q (.bl (!o.isSome)) H) := by
  intro pins s σ H y x u v Q I ry rx ⟨a, o, ex, g, q⟩
  subst ex
  obtain rfl : v = Value.ref a := rx
  exact d_notIn hu I g ry fun s3 I3 => ⟨.bl (!o.isSome), H, I3, rfl, q⟩
theorem in_ok (hK : T.K = X.K) (hu : X.A.units + 65 < cLine) {Cl : Addr → V → Prop} {Φ : Addr → Prop} {μ : List Addr} {H : Hp} {G : Sto} {x y : D} {vx vy : V} {b : Bool} (g : RG T Cl Φ μ H G) (rx : RD T Cl Φ μ H x vx) (ry : RD T Cl Φ μ H y vy) (e : inD G x y = some b) :
    (∀ Q : VK, Q (.bl b) H → anyO X (compareOp .In) vx vy H Q) ∧ ∀ Q : VK, Q (.bl (!b)) H → anyO X (compareOp .NotIn) vx vy H Q := by
  unfold inD at e
  split at e
  · rename_i o ho
    cases e
    obtain ⟨a, ov, ev, hd, hr⟩ := dget_rd g ry rx ho
    have eo : ov.isSome = o.isSome := by
      rcases hr with ⟨rfl, rfl⟩ | ⟨_, _, rfl, rfl, _⟩ <;> rfl
    exact ⟨fun Q q => ⟨_, op_dIn (by omega), a, ov, ev, hd, by rw [eo]; exact q⟩, fun Q q => ⟨_, op_dNotIn (by omega), a, ov, ev, hd, by rw [eo]; exact q⟩⟩
  · split at e
    · rename_i d ds h1 h2
      split at e
      · rename_i hs
        cases e
        exact ⟨fun Q q => ⟨_, op_inD hu, d, ds, hK ▸ pyD_dp g rx h1, hK ▸ pyD_dp g ry h2, hs.1, hs.2, q⟩, fun Q q => ⟨_, op_notInD hu, d, ds, hK ▸ pyD_dp g rx h1, hK ▸ pyD_dp g ry h2, hs.1, hs.2, q⟩⟩
      · cases e
    · rename_i d ds h1 h2
      split at e
      · rename_i hs
        cases e
        exact ⟨fun Q q => ⟨_, op_inT hu, d, ds, hK ▸ pyD_dp g rx h1, hK ▸ pyD_dp g ry h2, hs.1, hs.2, q⟩, fun Q q => ⟨_, op_notInT hu, d, ds, hK ▸ pyD_dp g rx h1, hK ▸ pyD_dp g ry h2, hs.1, hs.2, q⟩⟩
      · cases e
    · cases e
/-- comparisons, with in and not in -/
def cmpA (op : CmpOp) (G : Sto) (x y : D) : Option D := match op with
  | .In => (inD G x y).map fun b => .p (.bl b)
  | .NotIn => (inD G x y).map fun b => .p (.bl (!b))
  | op => cmpD op G x y
theorem cmpA_ok (hK : T.K = X.K) (hu : X.A.units + 65 < cLine) (op : CmpOp) : OpD X T (anyO X (compareOp op)) (cmpA op) := by
  have other : ∀ op, OpD X T (anyO X (compareOp op)) (cmpD op) := fun op => cmp_ok hK (by omega) op
  cases op with
  | In =>
    intro Cl Φ μ H G x y d vx vy Q g rx ry e k
    obtain ⟨b, e1, e2⟩ := Option.map_eq_some_iff.mp (show (inD G x y).map (fun b => D.p (.bl b)) = some d from e)
    subst e2
    exact (in_ok hK hu g rx ry e1).1 Q (k _ _ _ .refl g (.p (.bl b)))
  | NotIn =>
    intro Cl Φ μ H G x y d vx vy Q g rx ry e k
    obtain ⟨b, e1, e2⟩ := Option.map_eq_some_iff.mp (show (inD G x y).map (fun b => D.p (.bl (!b))) = some d from e)
    subst e2
    exact (in_ok hK hu g rx ry e1).2 Q (k _ _ _ .refl g (.p (.bl _)))
  | Eq => exact other _
  | NotEq => exact other _
  | Is => exact other _
  | IsNot => exact other _
  | Lt => exact other _
  | LtE => exact other _
  | Gt => exact other _
  | GtE => exact other _
end
end DL

set_option Elab.async false
set_option linter.all false
set_option maxRecDepth 100000
set_option maxHeartbeats 4000000
/-! DL 7: calls of what is built in. -/
namespace DL
open PySem PySem.Spec PyProof.Rows L2

abbrev FN := Sto → List D → Option D
def CallD (X : Cx) (T : Tb) (r : List V → Hp → VK → Prop) (g : FN) : Prop := ∀ (Cl : Addr → V → Prop) (Φ : Addr → Prop) (μ : List Addr) (H : Hp) (G : Sto) (ds : List D) (d : D) (vs : List V) (Q : VK), RG T Cl Φ μ H G → RDs T Cl Φ μ H ds vs → g G ds = some d →
  (∀ μ' H' v, Le μ H μ' H' → RG T Cl Φ μ' H' G → RD T Cl Φ μ' H' d v → Q v H') → r vs H Q
def fCall (g : FN) (f : AF) : EF := fun ρ G => (f ρ G).bind fun ds G1 => Res.of (g G1 ds) G1
section
variable {X : Cx} {C : CF} {T : Tb} {W : WX} {e : Expr} {es : List Expr} {ff : AF} {pos p : Pos} {x : Str} {id ty : String} {g : FN}
theorem eOf_call {r : List V → Hp → VK → Prop} (h : CallD X T r g) {σ : Slots} {H : Hp} {Q : VK} (hw : eOf C T W (fCall g ff) σ H Q) : tCB r (aOf C T W ff) σ H Q := by
  obtain ⟨Φ, μ, ρ, G, r0, o⟩ := hw
  refine ⟨Φ, μ, ρ, G, r0, o.bind fun vs H1 ⟨μ1, G1, ds, k1, g1, rx, o1⟩ => ?_⟩
  cases e : g G1 ds with
  | none => rw [e] at o1; exact o1.elim
  | some d =>
    rw [e] at o1
    exact h _ Φ μ1 H1 G1 ds d vs Q g1 rx e fun μ3 H3 w k3 g3 r3 => o1 μ3 H3 w k3 g3 r3
theorem re_callB (h : CallD X T (anyC X (.builtin id)) g) (hg : Gl X x) (hm : X.mg x = none) (hv : bootBuiltins x = some (.builtin id)) (ha : PA X (e :: es) (aOf C T W ff)) (hn : x ≠ "__name__") (hdb : (x == ("__debug__" : Str)) = false)
    (he : starEach (e :: es) X.env = (false, eval e X.env) :: starEach es X.env) (hpl : (backTo pos (starEach es X.env)).any (·.1) = false) : PE X (.Call (.Name x p) (e :: es) [] pos) (eOf C T W (fCall g ff)) :=
  peImp (pe_callB (any_call X _) hg hm hv ha hn hdb he hpl) fun σ H Q hw => eOf_call h hw
theorem re_callT (h : CallD X T (anyC X (.type ty)) g) (hg : Gl X x) (hm : X.mg x = none) (hv : bootBuiltins x = some (.type ty)) (ha : PA X (e :: es) (aOf C T W ff)) (hn : x ≠ "__name__") (hdb : (x == ("__debug__" : Str)) = false)
    (he : starEach (e :: es) X.env = (false, eval e X.env) :: starEach es X.env) (hpl : (backTo pos (starEach es X.env)).any (·.1) = false) : PE X (.Call (.Name x p) (e :: es) [] pos) (eOf C T W (fCall g ff)) :=
  peImp (pe_callTy (any_call X _) hg hm hv ha hn hdb he hpl) fun σ H Q hw => eOf_call h hw
/-- a name of the module for a built-in function -/
theorem re_callG (h : CallD X T (anyC X (.builtin id)) g) (hg : Gl X x) (hm : X.mg x = some (.builtin id)) (ha : PA X (e :: es) (aOf C T W ff)) (hdb : (x == ("__debug__" : Str)) = false)
    (he : starEach (e :: es) X.env = (false, eval e X.env) :: starEach es X.env) (hpl : (backTo pos (starEach es X.env)).any (·.1) = false) : PE X (.Call (.Name x p) (e :: es) [] pos) (eOf C T W (fCall g ff)) :=
  peImp (pe_callBfun (any_call X _) hg hm ha hdb he hpl) fun σ H Q hw => eOf_call h hw
end

/-! ### kinds -/
inductive Tag where
  | b (n : String)
  | o (g : Nat)
deriving DecidableEq
def tagV (ga : Nat → Addr) : Tag → Value
  | .b n => .type n
  | .o g => .ref (ga g)
def tagP : P → Option Tag
  | .non => some (.b "NoneType")
  | .bl _ => some (.b "bool")
  | .int _ => some (.b "int")
  | .str _ => some (.b "str")
  | .tup _ => some (.b "tuple")
  | .lst _ => some (.b "list")
  | .dct _ => some (.b "dict")
  | .obj g _ => some (.o g)
  | .ty _ => none
  | .glo _ => none
def tagD (G : Sto) : D → Option Tag
  | .p x => tagP x
  | .ref n => match G[n]? with
    | some (.lst _) => some (.b "list")
    | some (.dK _) => some (.b "dict")
    | some (.dT _) => some (.b "dict")
    | some (.ins g _) => some (.o g)
    | none => none
  | .tup _ => some (.b "tuple")
  | .lst _ => some (.b "list")
  | _ => none
def clsP : P → Option Tag
  | .ty n => some (.b n)
  | .glo g => some (.o g)
  | _ => none
abbrev Ask := Tag → Tag → Option Bool
def anyT (ask : Ask) (t : Tag) : List P → Option Bool
  | [] => some false
  | c :: r => match clsP c with
    | some u => match ask t u with
      | some true => some true
      | some false => anyT ask t r
      | none => none
    | none => none
def isi1 (ask : Ask) (G : Sto) (x : D) (c : P) : Option Bool := match tagD G x, clsP c with
  | some t, some u => ask t u
  | _, _ => none
def isiR (ask : Ask) (G : Sto) (x : D) (cs : List P) : Option Bool := if cs.all (fun c => (clsP c).isSome) = true ∧ cs ≠ [] then (match tagD G x with
  | some t => anyT ask t cs
  | none => none) else none
/-- isinstance: one class, or a row of classes -/
def isiA (ask : Ask) (G : Sto) : List D → Option D
  | [x, .p (.tup cs)] => (isiR ask G x cs).map fun b => .p (.bl b)
  | [x, .p c] => (isi1 ask G x c).map fun b => .p (.bl b)
  | _ => none
structure InsK (K : PySem.W.Frag) (C : Addr) : Prop where
  cl : Cls K C
  ha : PySem.W.findIn K (.ref C) "__class__" = some (some (.builtin "object.__class__"))
  hn : PySem.W.specialIn K (.builtin "object.__class__") "__get__" = some (some (.builtin "getset_descriptor.__get__"))
  htk : PySem.W.takesIn K (.builtin "object.__class__") = some true
  hm : PySem.W.mroIn K C (.type "object") = some true
structure AskOk (T : Tb) (ask : Ask) : Prop where
  ok : ∀ t u b, ask t u = some b → PySem.W.kitOne T.K (tagV T.ga t) (tagV T.ga u) = some b
  ins : ∀ g u b, ask (.o g) u = some b → InsK T.K (T.ga g)
section
variable {X : Cx} {T : Tb} {Cl : Addr → V → Prop} {Φ : Addr → Prop} {μ : List Addr} {H : Hp} {G : Sto} {ask : Ask}
theorem tagP_ty {B : Addr → Prop} {x : P} {v : V} {t : Tag} (r : RP T.K T.ga B H x v) (e : tagP x = some t) (hi : ∀ g, t = .o g → InsK T.K (T.ga g)) : TyX T.K H v (tagV T.ga t) := by
  cases r with
  | non => cases e; exact .base .non
  | bl b => cases e; exact .base (.bl b)
  | int i => cases e; exact .base (.int i)
  | str i => cases e; exact .base (.str i)
  | tup h _ =>
    cases e
    rcases h with h | ⟨⟨o, its, n, h1, h2, _⟩, _⟩
    · exact .base (.tup h.1)
    · exact .kTuple h1 h2
  | lst h _ _ => cases e; exact .base (.lst h)
  | dct h _ _ _ => cases e; exact .base (.dK h)
  | obj h _ _ _ => cases e; have k := hi _ rfl; exact .base (.ins h k.cl k.ha k.hn k.htk k.hm)
  | ty _ => cases e
  | glo _ => cases e
theorem tagD_ty {x : D} {v : V} {t : Tag} (g : RG T Cl Φ μ H G) (r : RD T Cl Φ μ H x v) (e : tagD G x = some t) (hi : ∀ g, t = .o g → InsK T.K (T.ga g)) : TyX T.K H v (tagV T.ga t) := by
  cases r with
  | p r => exact tagP_ty r (by simpa only [tagD] using e) hi
  | ref hn =>
    simp only [tagD] at e
    split at e
    · cases e; rename_i hk; obtain ⟨vs, h1, _⟩ := g.look hn hk; exact .base (.lst h1)
    · cases e; rename_i hk; obtain ⟨vs, h1, _⟩ := g.look hn hk; exact .base (.dK h1)
    · cases e; rename_i hk; obtain ⟨vs, h1, _⟩ := g.look hn hk; exact .base (.dT h1)
    · cases e; rename_i hk; obtain ⟨dx, vs, h1, _⟩ := g.look hn hk; have k := hi _ rfl; exact .base (.ins h1 k.cl k.ha k.hn k.htk k.hm)
    · cases e
  | tup h _ => 
    simp only [tagD, Option.some.injEq] at e; subst e
    rcases h with h | ⟨⟨o, its, n, h1, h2, _⟩, _⟩
    · exact .base (.tup h.1)
    · exact .kTuple h1 h2
  | lst h _ _ => simp only [tagD, Option.some.injEq] at e; subst e; exact .base (.lst h)
  | scr _ => simp [tagD] at e
  | lam _ => simp [tagD] at e
theorem clsP_v {B : Addr → Prop} {c : P} {v : V} {u : Tag} (r : RP T.K T.ga B H c v) (e : clsP c = some u) : ClsV v (tagV T.ga u) := by
  cases r with
  | ty n => cases e; exact .ty n
  | glo n => cases e; exact .own _
  | _ => cases e
theorem rowT {B : Addr → Prop} {cs : List P} {vs : List V} (r : RPs T.K T.ga B H cs vs) (h : ∀ c ∈ cs, (clsP c).isSome = true) (z : kRow vs = true) : False := by
  cases r with
  | nil => cases z
  | cons r t =>
    have h1 := h _ (List.mem_cons_self ..)
    simp only [kRow, List.all_cons, Bool.and_eq_true] at z
    cases r <;> first | (simp [clsP] at h1; done) | (simp at z)
theorem anyT_all (ha : AskOk T ask) {t : Tag} {B : Addr → Prop} : ∀ {cs : List P} {vs : List V} {b : Bool}, RPs T.K T.ga B H cs vs → (∀ c ∈ cs, (clsP c).isSome = true) → anyT ask t cs = some b → ∃ us : List Value, Paired ClsV vs us ∧ PySem.W.kitAny T.K (tagV T.ga t) us = some b
  | _, _, _, .nil, _, e => by cases e; exact ⟨[], .nil, rfl⟩
  | c :: cs, _, b, .cons r rs, hc, e => by
    have all : ∀ {cs : List P} {vs : List V}, RPs T.K T.ga B H cs vs → (∀ c ∈ cs, (clsP c).isSome = true) → ∃ us : List Value, Paired ClsV vs us := by
      intro cs
      induction cs with
      | nil => intro vs r _; cases r; exact ⟨[], .nil⟩
      | cons c cs ih =>
        intro vs r h
        cases r with
        | cons r rs =>
          obtain ⟨u, hu⟩ := Option.isSome_iff_exists.mp (h c (by simp))
          obtain ⟨us, hp⟩ := ih rs fun c h' => h c (by simp [h'])
          exact ⟨_ :: us, .cons (clsP_v r hu) hp⟩
    unfold anyT at e
    split at e
    · rename_i u hu
      split at e
      · rename_i hk
        cases e
        obtain ⟨us, hp⟩ := all rs fun c h' => hc c (by simp [h'])
        refine ⟨tagV T.ga u :: us, .cons (clsP_v r hu) hp, ?_⟩
        unfold PySem.W.kitAny
        rw [ha.ok _ _ _ hk]
      · rename_i hk
        obtain ⟨us, hp, h2⟩ := anyT_all ha rs (fun c h' => hc c (by simp [h'])) e
        refine ⟨tagV T.ga u :: us, .cons (clsP_v r hu) hp, ?_⟩
        unfold PySem.W.kitAny
        rw [ha.ok _ _ _ hk]
        exact h2
      · cases e
    · cases e
theorem anyT_ins (ha : AskOk T ask) {g : Nat} : ∀ {cs : List P} {b : Bool}, cs ≠ [] → anyT ask (.o g) cs = some b → InsK T.K (T.ga g)
  | [], _, h, _ => absurd rfl h
  | c :: cs, b, _, e => by
    unfold anyT at e
    split at e
    · split at e
      · rename_i hk; exact ha.ins _ _ _ hk
      · rename_i hk; exact ha.ins _ _ _ hk
      · cases e
    · cases e
theorem isi_ok (hK : T.K = X.K) (ha : AskOk T ask) : CallD X T (anyC X (.builtin "isinstance")) (isiA ask) := by
  intro Cl Φ μ H G ds d vs Q g r e k
  unfold isiA at e
  split at e
  · rename_i x cs
    obtain ⟨b, h0, h2⟩ := Option.map_eq_some_iff.mp e
    subst h2
    unfold isiR at h0
    split at h0
    · rename_i hc
      split at h0
      · rename_i t ht
        cases r with
        | cons r1 r => cases r with
          | cons r2 r => cases r with
            | nil => cases r2 with
              | p r2 => cases r2 with
                | tup hs rs =>
                  obtain ⟨us, hp, h3⟩ := anyT_all ha rs (by simpa using hc.1) h0
                  have hs' : H _ = some (.tup _) := hs.elim (fun z => z.1) fun z => (rowT rs (by simpa using hc.1) z.2).elim
                  exact ⟨_, call_isiT, _, _, _, tagV T.ga t, us, b, rfl, hs', hp, hK ▸ tagD_ty g r1 ht fun g' hg => anyT_ins ha hc.2 (hg ▸ h0), hK ▸ h3, k _ _ _ .refl g (.p (.bl b))⟩
      · cases h0
    · cases h0
  · rename_i x c hn
    obtain ⟨b, h0, h2⟩ := Option.map_eq_some_iff.mp e
    subst h2
    unfold isi1 at h0
    split at h0
    · rename_i t u e2 e3
      cases r with
      | cons r1 r => cases r with
        | cons r2 r => cases r with
          | nil => cases r2 with
            | p r2 =>
              exact ⟨_, call_isi, _, _, tagV T.ga t, tagV T.ga u, b, rfl, clsP_v r2 e3, hK ▸ tagD_ty g r1 e2 fun g' hg => ha.ins g' u b (hg ▸ h0), hK ▸ ha.ok _ _ _ h0, k _ _ _ .refl g (.p (.bl b))⟩
    · cases h0
  · cases e
end
/-- the built-in kinds -/
def askT : List (String × String × Bool) :=
  [("NoneType", "int", false), ("NoneType", "bool", false), ("NoneType", "tuple", false), ("NoneType", "list", false), ("NoneType", "str", false), ("NoneType", "dict", false),
   ("bool", "int", true), ("bool", "bool", true), ("bool", "tuple", false), ("bool", "list", false), ("bool", "str", false), ("bool", "dict", false),
   ("int", "int", true), ("int", "bool", false), ("int", "tuple", false), ("int", "list", false), ("int", "str", false), ("int", "dict", false),
   ("str", "int", false), ("str", "bool", false), ("str", "tuple", false), ("str", "list", false), ("str", "str", true), ("str", "dict", false),
   ("tuple", "int", false), ("tuple", "bool", false), ("tuple", "tuple", true), ("tuple", "list", false), ("tuple", "str", false), ("tuple", "dict", false),
   ("list", "int", false), ("list", "bool", false), ("list", "tuple", false), ("list", "list", true), ("list", "str", false), ("list", "dict", false),
   ("dict", "int", false), ("dict", "bool", false), ("dict", "tuple", false), ("dict", "list", false), ("dict", "str", false), ("dict", "dict", true)]
theorem askT_ok : ∀ q ∈ askT, kitB q.1 q.2.1 = some q.2.2 := by decide +kernel
def askB (a b : String) : Option Bool := (askT.find? fun q => q.1 == a && q.2.1 == b).map (·.2.2)
theorem askB_ok {K : PySem.W.Frag} {a b : String} {r : Bool} (h : askB a b = some r) : PySem.W.kitOne K (.type a) (.type b) = some r := by
  obtain ⟨q, h1, h2⟩ := Option.map_eq_some_iff.mp h
  have h3 := List.find?_some h1
  rw [Bool.and_eq_true, beq_iff_eq, beq_iff_eq] at h3
  have h4 := askT_ok q (List.mem_of_find?_eq_some h1)
  rw [h3.1, h3.2, h2] at h4
  exact kit_ty h4

/-! ### len, abs, int, list, tuple, str, all, any, sum, min, max, gcd, repr -/
def lenD (G : Sto) : List D → Option D
  | [.p (.str s)] => if s.length ≤ lim then some (.p (.int s.length)) else none
  | [.p (.tup xs)] => some (.p (.int xs.length))
  | [.tup xs] => some (.p (.int xs.length))
  | [.scr ns] => some (.p (.int ns.length))
  | [.p (.dct kvs)] => some (.p (.int kvs.length))
  | [.ref n] => match G[n]? with
    | some (.lst xs) => some (.p (.int xs.length))
    | some (.dK xs) => some (.p (.int xs.length))
    | some (.dT xs) => some (.p (.int xs.length))
    | _ => none
  | [x] => (rowL G x).map fun xs => .p (.int xs.length)
  | _ => none
def absD (_ : Sto) : List D → Option D
  | [.p (.int i)] => some (.p (.int (if i < 0 then -i else i)))
  | _ => none
def intD (_ : Sto) : List D → Option D
  | [.p (.int i)] => some (.p (.int i))
  | [.p (.bl b)] => some (.p (.int (if b then 1 else 0)))
  | _ => none
def strD (_ : Sto) : List D → Option D
  | [.p (.int i)] => if i.natAbs.log2 < 1920 then some (.p (.str (toString i))) else none
  | [.p (.str s)] => some (.p (.str s))
  | _ => none
def rowA (G : Sto) : D → Option (List D)
  | .p (.tup xs) => some (xs.map D.p)
  | .tup xs => some xs
  | .scr ns => some (ns.map fun n => D.p (.int n))
  | x => rowL G x
def listD (G : Sto) : List D → Option D
  | [x] => (rowA G x).map mkLst
  | _ => none
def tupleD (G : Sto) : List D → Option D
  | [.p (.tup xs)] => some (.p (.tup xs))
  | [.tup xs] => some (.tup xs)
  | [x] => (rowL G x).map mkTup
  | _ => none
def blsD : List D → Option (List Bool)
  | [] => some []
  | .p (.bl b) :: r => (blsD r).map (b :: ·)
  | _ => none
def intsD : List D → Option (List Int)
  | [] => some []
  | .p (.int b) :: r => (intsD r).map (b :: ·)
  | _ => none
def allD (G : Sto) : List D → Option D
  | [x] => ((rowL G x).bind blsD).map fun bs => .p (.bl (bs.all id))
  | _ => none
def anyD (G : Sto) : List D → Option D
  | [x] => ((rowL G x).bind blsD).map fun bs => .p (.bl (bs.any id))
  | _ => none
def sumD (G : Sto) : List D → Option D
  | [x] => ((rowL G x).bind intsD).map fun bs => .p (.int bs.sum)
  | _ => none
def maxD (_ : Sto) : List D → Option D
  | [.p (.int i), .p (.int j)] => some (.p (.int (if j > i then j else i)))
  | _ => none
def minD (_ : Sto) : List D → Option D
  | [.p (.int i), .p (.int j)] => some (.p (.int (if j < i then j else i)))
  | _ => none
def gcdD (_ : Sto) : List D → Option D
  | [.p (.int i), .p (.int j)] => some (.p (.int ((Nat.gcd i.natAbs j.natAbs : Nat) : Int)))
  | _ => none
def shownOk (d : PyData) : Bool := PyData.showable d && decide (d.shown.length ≤ lim) && decide (PyData.depth d ≤ 64) && !PyData.hasDict d
mutual
/-- data with empty dicts, without lists -/
def toPyT : P → Option PyData
  | .non => some .none
  | .bl b => some (.bool b)
  | .int i => some (.int i)
  | .str s => some (.str s)
  | .tup xs => match toPyTs xs with
    | some ds => some (.tuple ds)
    | none => none
  | .lst _ => none
  | .dct kvs => match kvs with
    | [] => some (.dict [])
    | _ :: _ => none
  | .obj _ _ => none
  | .ty _ => none
  | .glo _ => none
def toPyTs : List P → Option (List PyData)
  | [] => some []
  | x :: xs => match toPyT x, toPyTs xs with
    | some d, some ds => some (d :: ds)
    | _, _ => none
end
def shownT (d : PyData) : Bool := PyData.showable d && decide (d.shown.length ≤ lim) && decide (PyData.depth d ≤ 64)
def pyT : D → Option PyData
  | .p x => toPyT x
  | _ => none
def reprD (G : Sto) : List D → Option D
  | [x] => match pyD G x with
    | some d => if shownOk d = true then some (.p (.str d.shown)) else none
    | none => match pyT x with
      | some d => if shownT d = true then some (.p (.str d.shown)) else none
      | none => none
  | _ => none
section
variable {X : Cx} {T : Tb}
theorem rds1 {Cl : Addr → V → Prop} {Φ : Addr → Prop} {μ : List Addr} {H : Hp} {x : D} {vs : List V} (r : RDs T Cl Φ μ H [x] vs) : ∃ v, vs = [v] ∧ RD T Cl Φ μ H x v := by
  cases r with
  | cons r1 r => cases r; exact ⟨_, rfl, r1⟩
theorem rds2 {Cl : Addr → V → Prop} {Φ : Addr → Prop} {μ : List Addr} {H : Hp} {x y : D} {vs : List V} (r : RDs T Cl Φ μ H [x, y] vs) : ∃ v u, vs = [v, u] ∧ RD T Cl Φ μ H x v ∧ RD T Cl Φ μ H y u := by
  cases r with
  | cons r1 r => cases r with
    | cons r2 r => cases r; exact ⟨_, _, rfl, r1, r2⟩
theorem rd_int {Cl : Addr → V → Prop} {Φ : Addr → Prop} {μ : List Addr} {H : Hp} {i : Int} {v : V} (r : RD T Cl Φ μ H (.p (.int i)) v) : v = .int i := by
  cases r with
  | p r => cases r; rfl
theorem rd_str {Cl : Addr → V → Prop} {Φ : Addr → Prop} {μ : List Addr} {H : Hp} {i : Str} {v : V} (r : RD T Cl Φ μ H (.p (.str i)) v) : v = .str i := by
  cases r with
  | p r => cases r; rfl
theorem rd_bl {Cl : Addr → V → Prop} {Φ : Addr → Prop} {μ : List Addr} {H : Hp} {i : Bool} {v : V} (r : RD T Cl Φ μ H (.p (.bl i)) v) : v = .bl i := by
  cases r with
  | p r => cases r; rfl
theorem rd_ptup {Cl : Addr → V → Prop} {Φ : Addr → Prop} {μ : List Addr} {H : Hp} {xs : List P} {v : V} (r : RD T Cl Φ μ H (.p (.tup xs)) v) : ∃ a vs, v = .ref a ∧ SqTB T.K (Bad Φ μ) H a vs ∧ RPs T.K T.ga (Bad Φ μ) H xs vs := by
  cases r with
  | p r => cases r with
    | tup h r => exact ⟨_, _, rfl, h, r⟩
theorem rd_dtup {Cl : Addr → V → Prop} {Φ : Addr → Prop} {μ : List Addr} {H : Hp} {xs : List D} {v : V} (r : RD T Cl Φ μ H (.tup xs) v) : ∃ a vs, v = .ref a ∧ SqTB T.K (Bad Φ μ) H a vs ∧ RDs T Cl Φ μ H xs vs := by
  cases r with
  | tup h r => exact ⟨_, _, rfl, h, r⟩
theorem lenT_rule : CallR X (.builtin "len") (fun xs H Q => ∃ a kvs, xs = [V.ref a] ∧ H a = some (.dK kvs) ∧ Q (.int kvs.length) H) := call_lenD
theorem len_ok (hK : T.K = X.K) : CallD X T (anyC X (.builtin "len")) lenD := by
  intro Cl Φ μ H G ds d vs Q g r e k
  have fin : ∀ n : Int, d = .p (.int n) → Q (.int n) H := fun n h => k _ _ _ .refl g (h ▸ .p (.int n))
  unfold lenD at e
  split at e
  · split at e
    · rename_i s hl
      obtain ⟨v, rfl, r1⟩ := rds1 r
      cases rd_str r1
      exact ⟨_, call_len_str, s, rfl, by rw [lim_eq]; exact hl, fin _ (Option.some.inj e).symm⟩
    · cases e
  · obtain ⟨v, rfl, r1⟩ := rds1 r
    obtain ⟨a, ws, rfl, h1, h2⟩ := rd_ptup r1
    exact ⟨_, call_len_seq, a, ws, rfl, .inr (hK ▸ h1.to), by rw [← h2.length]; exact fin _ (Option.some.inj e).symm⟩
  · obtain ⟨v, rfl, r1⟩ := rds1 r
    obtain ⟨a, ws, rfl, h1, h2⟩ := rd_dtup r1
    exact ⟨_, call_len_seq, a, ws, rfl, .inr (hK ▸ h1.to), by rw [← h2.length]; exact fin _ (Option.some.inj e).symm⟩
  · obtain ⟨v, rfl, r1⟩ := rds1 r
    cases r1 with
    | scr h => exact ⟨_, call_len_seq, _, _, rfl, .inl (hK ▸ h.to), by rw [List.length_map]; exact fin _ (Option.some.inj e).symm⟩
  · obtain ⟨v, rfl, r1⟩ := rds1 r
    cases r1 with
    | p r1 => cases r1 with
      | dct h1 h2 h3 h4 =>
        rename_i kvs a ws
        have hl : ws.length = kvs.length := by have := congrArg List.length h3; simpa using this
        exact ⟨_, call_lenD, _, ws, rfl, h1, by rw [hl]; exact fin _ (Option.some.inj e).symm⟩
  · rename_i n
    obtain ⟨v, rfl, r1⟩ := rds1 r
    cases r1 with
    | ref hn =>
      split at e
      · rename_i xs hk
        obtain ⟨ws, h1, h2⟩ := g.look hn hk
        exact ⟨_, call_len_seq, _, ws, rfl, .inl (.of h1), by rw [← h2.length]; exact fin _ (Option.some.inj e).symm⟩
      · rename_i xs hk
        obtain ⟨ws, h1, h2, h3⟩ := g.look hn hk
        have hl : ws.length = xs.length := by have := congrArg List.length h2; simpa using this
        exact ⟨_, call_lenD, _, ws, rfl, h1, by rw [hl]; exact fin _ (Option.some.inj e).symm⟩
      · rename_i xs hk
        obtain ⟨ws, h1, h2, h3⟩ := g.look hn hk
        have hl : ws.length = xs.length := by have := congrArg List.length h2; simpa using this
        exact ⟨_, call_len_dT, _, ws, rfl, h1, by rw [hl]; exact fin _ (Option.some.inj e).symm⟩
      · cases e
  · obtain ⟨v, rfl, r1⟩ := rds1 r
    obtain ⟨xs, h1, h2⟩ := Option.map_eq_some_iff.mp e
    obtain ⟨a, ws, rfl, h3, h4⟩ := rowL_rd g r1 h1
    exact ⟨_, call_len_seq, a, ws, rfl, .inl (.of h3), by rw [← h4.length]; exact fin _ h2.symm⟩
  · cases e
theorem abs_ok : CallD X T (anyC X (.builtin "abs")) absD := by
  intro Cl Φ μ H G ds d vs Q g r e k
  unfold absD at e
  split at e
  · obtain ⟨v, rfl, r1⟩ := rds1 r
    cases rd_int r1
    cases e
    exact ⟨_, call_abs, _, rfl, k _ _ _ .refl g (.p (.int _))⟩
  · cases e
theorem int_ok : CallD X T (anyC X (.type "int")) intD := by
  intro Cl Φ μ H G ds d vs Q g r e k
  unfold intD at e
  split at e
  · obtain ⟨v, rfl, r1⟩ := rds1 r
    cases rd_int r1
    cases e
    exact ⟨_, call_int1, .inl ⟨_, rfl, k _ _ _ .refl g (.p (.int _))⟩⟩
  · obtain ⟨v, rfl, r1⟩ := rds1 r
    cases rd_bl r1
    cases e
    exact ⟨_, call_int1, .inr ⟨_, rfl, k _ _ _ .refl g (.p (.int _))⟩⟩
  · cases e
theorem str_ok : CallD X T (anyC X (.type "str")) strD := by
  intro Cl Φ μ H G ds d vs Q g r e k
  unfold strD at e
  split at e
  · split at e
    · rename_i hl
      obtain ⟨v, rfl, r1⟩ := rds1 r
      cases rd_int r1
      cases e
      exact ⟨_, call_str_int, _, rfl, hl, k _ _ _ .refl g (.p (.str _))⟩
    · cases e
  · obtain ⟨v, rfl, r1⟩ := rds1 r
    cases rd_str r1
    cases e
    exact ⟨_, SkE.call_str_str, _, rfl, k _ _ _ .refl g (.p (.str _))⟩
  · cases e
theorem rowA_rd (hK : T.K = X.K) {Cl : Addr → V → Prop} {Φ : Addr → Prop} {μ : List Addr} {H : Hp} {G : Sto} {x : D} {v : V} {xs : List D} (g : RG T Cl Φ μ H G) (r : RD T Cl Φ μ H x v) (e : rowA G x = some xs) : ∃ a vs, v = .ref a ∧ (SqL X.K H a vs ∨ SqT X.K H a vs) ∧ RDs T Cl Φ μ H xs vs := by
  unfold rowA at e
  split at e
  · obtain ⟨a, vs, rfl, h1, h2⟩ := rd_ptup r
    cases e
    exact ⟨a, vs, rfl, .inr (hK ▸ h1.to), .ofP h2⟩
  · obtain ⟨a, vs, rfl, h1, h2⟩ := rd_dtup r
    cases e
    exact ⟨a, vs, rfl, .inr (hK ▸ h1.to), h2⟩
  · cases r with
    | scr h => cases e; exact ⟨_, _, rfl, .inl (hK ▸ h.to), rds_ints _⟩
  · obtain ⟨a, vs, rfl, h1, h2⟩ := rowL_rd g r e
    exact ⟨a, vs, rfl, .inl (.of h1), h2⟩
theorem list_ok (hK : T.K = X.K) : CallD X T (anyC X (.type "list")) listD := by
  intro Cl Φ μ H G ds d vs Q g r e k
  unfold listD at e
  split at e
  · obtain ⟨v, rfl, r1⟩ := rds1 r
    obtain ⟨xs, h1, h2⟩ := Option.map_eq_some_iff.mp e
    obtain ⟨a, ws, rfl, h3, h4⟩ := rowA_rd hK g r1 h1
    refine ⟨_, call_list_of, a, ws, rfl, h3, fun l hl => ?_⟩
    obtain ⟨k1, k2, k3⟩ := new_lst g hl h4
    exact k _ _ _ k1 k2 (h2 ▸ k3)
  · cases e
theorem tuple_ok (hK : T.K = X.K) : CallD X T (anyC X (.type "tuple")) tupleD := by
  intro Cl Φ μ H G ds d vs Q g r e k
  unfold tupleD at e
  split at e
  · obtain ⟨v, rfl, r1⟩ := rds1 r
    cases e
    obtain ⟨a, ws, rfl, h3, h4⟩ := rd_ptup r1
    exact ⟨_, call_tuple_of, a, ws, rfl, .inr ⟨hK ▸ h3.to, k _ _ _ .refl g r1⟩⟩
  · obtain ⟨v, rfl, r1⟩ := rds1 r
    cases e
    obtain ⟨a, ws, rfl, h3, h4⟩ := rd_dtup r1
    exact ⟨_, call_tuple_of, a, ws, rfl, .inr ⟨hK ▸ h3.to, k _ _ _ .refl g r1⟩⟩
  · obtain ⟨v, rfl, r1⟩ := rds1 r
    obtain ⟨xs, h1, h2⟩ := Option.map_eq_some_iff.mp e
    obtain ⟨a, ws, rfl, h3, h4⟩ := rowL_rd g r1 h1
    refine ⟨_, call_tuple_of, a, ws, rfl, .inl ⟨.of h3, fun l hl => ?_⟩⟩
    obtain ⟨k1, k2, k3⟩ := new_tup g hl h4
    exact k _ _ _ k1 k2 (h2 ▸ k3)
  · cases e
theorem blsD_rd {Cl : Addr → V → Prop} {Φ : Addr → Prop} {μ : List Addr} {H : Hp} : ∀ {xs : List D} {vs : List V} {bs : List Bool}, RDs T Cl Φ μ H xs vs → blsD xs = some bs → vs = bs.map V.bl
  | _, _, _, .nil, e => by cases e; rfl
  | x :: xs, _, bs, .cons r t, e => by
    unfold blsD at e
    split at e
    · rename_i h; cases h
    · rename_i h
      cases h
      obtain ⟨cs, h1, h2⟩ := Option.map_eq_some_iff.mp e
      subst h2
      rw [rd_bl r, blsD_rd t h1]; rfl
    · cases e
theorem intsD_rd {Cl : Addr → V → Prop} {Φ : Addr → Prop} {μ : List Addr} {H : Hp} : ∀ {xs : List D} {vs : List V} {bs : List Int}, RDs T Cl Φ μ H xs vs → intsD xs = some bs → vs = bs.map V.int
  | _, _, _, .nil, e => by cases e; rfl
  | x :: xs, _, bs, .cons r t, e => by
    unfold intsD at e
    split at e
    · rename_i h; cases h
    · rename_i h
      cases h
      obtain ⟨cs, h1, h2⟩ := Option.map_eq_some_iff.mp e
      subst h2
      rw [rd_int r, intsD_rd t h1]; rfl
    · cases e
theorem all_ok (hc : X.calm = true) : CallD X T (anyC X (.builtin "all")) allD := by
  intro Cl Φ μ H G ds d vs Q g r e k
  unfold allD at e
  split at e
  · obtain ⟨v, rfl, r1⟩ := rds1 r
    obtain ⟨bs, h1, h2⟩ := Option.map_eq_some_iff.mp e
    obtain ⟨xs, h3, h4⟩ := Option.bind_eq_some_iff.mp h1
    obtain ⟨a, ws, rfl, h5, h6⟩ := rowL_rd g r1 h3
    have hv := blsD_rd h6 h4
    subst hv
    exact ⟨_, cr_all hc, a, bs, rfl, .of h5, k _ _ _ .refl g (h2 ▸ .p (.bl _))⟩
  · cases e
theorem any_ok (hc : X.calm = true) : CallD X T (anyC X (.builtin "any")) anyD := by
  intro Cl Φ μ H G ds d vs Q g r e k
  unfold anyD at e
  split at e
  · obtain ⟨v, rfl, r1⟩ := rds1 r
    obtain ⟨bs, h1, h2⟩ := Option.map_eq_some_iff.mp e
    obtain ⟨xs, h3, h4⟩ := Option.bind_eq_some_iff.mp h1
    obtain ⟨a, ws, rfl, h5, h6⟩ := rowL_rd g r1 h3
    have hv := blsD_rd h6 h4
    subst hv
    exact ⟨_, cr_any hc, a, bs, rfl, .of h5, k _ _ _ .refl g (h2 ▸ .p (.bl _))⟩
  · cases e
theorem sum_ok (hc : X.calm = true) : CallD X T (anyC X (.builtin "sum")) sumD := by
  intro Cl Φ μ H G ds d vs Q g r e k
  unfold sumD at e
  split at e
  · obtain ⟨v, rfl, r1⟩ := rds1 r
    obtain ⟨bs, h1, h2⟩ := Option.map_eq_some_iff.mp e
    obtain ⟨xs, h3, h4⟩ := Option.bind_eq_some_iff.mp h1
    obtain ⟨a, ws, rfl, h5, h6⟩ := rowL_rd g r1 h3
    have hv := intsD_rd h6 h4
    subst hv
    exact ⟨_, cr_sum hc, a, bs, rfl, .of h5, k _ _ _ .refl g (h2 ▸ .p (.int _))⟩
  · cases e
theorem max_ok (hc : X.calm = true) : CallD X T (anyC X (.builtin "max")) maxD := by
  intro Cl Φ μ H G ds d vs Q g r e k
  unfold maxD at e
  split at e
  · obtain ⟨v, u, rfl, r1, r2⟩ := rds2 r
    cases rd_int r1
    cases rd_int r2
    cases e
    exact ⟨_, call_max2 hc, _, _, rfl, k _ _ _ .refl g (.p (.int _))⟩
  · cases e
theorem min_ok (hc : X.calm = true) : CallD X T (anyC X (.builtin "min")) minD := by
  intro Cl Φ μ H G ds d vs Q g r e k
  unfold minD at e
  split at e
  · obtain ⟨v, u, rfl, r1, r2⟩ := rds2 r
    cases rd_int r1
    cases rd_int r2
    cases e
    exact ⟨_, call_min2 hc, _, _, rfl, k _ _ _ .refl g (.p (.int _))⟩
  · cases e
theorem gcd_ok : CallD X T (anyC X (.builtin "math.gcd")) gcdD := by
  intro Cl Φ μ H G ds d vs Q g r e k
  unfold gcdD at e
  split at e
  · obtain ⟨v, u, rfl, r1, r2⟩ := rds2 r
    cases rd_int r1
    cases rd_int r2
    cases e
    exact ⟨_, cr_gcd, _, _, rfl, k _ _ _ .refl g (.p (.int _))⟩
  · cases e
theorem call_reprD (hg : X.A.guards = some []) (hu : X.A.units + 66 < cLine) : CallR X (.builtin "repr") (fun xs H Q => ∃ v d, xs = [v] ∧ Dp X.K H v d ∧ shownOk d = true ∧ Q (.str d.shown) H) := by
  intro pins s σ H xs us Q I r ⟨v, d, e, hd, hs, q⟩
  subst e
  obtain ⟨u, rfl, rv⟩ := vals1 r
  unfold shownOk at hs
  rw [Bool.and_eq_true, Bool.and_eq_true, Bool.and_eq_true] at hs
  obtain ⟨⟨⟨h1, h2⟩, h3⟩, h4⟩ := hs
  have h2 : d.shown.length ≤ sizeLine := by rw [lim_eq]; exact of_decide_eq_true h2
  have h3 := of_decide_eq_true h3
  have h4 : d.hasDict = false := by simpa using h4
  obtain ⟨as, rr⟩ := Dp.reads I d v u hd rv
  have big : ∀ a, u = .ref a → wpAny (model X.prog X.w) X.A (call (.builtin "repr") [u]) (EP X pins σ Q) X.xe s := by
    intro a ea
    subst ea
    exact repr_of_reads' rr h1 (fun z => by rw [h4] at z; cases z) hg (by omega) (fun _ _ z => z) (fun h' t tk hk => ⟨.str d.shown, H, I.kept hk, ⟨t, rfl⟩, q⟩) h2
  cases rr with
  | none => exact P.repr_of_none ⟨.str _, H, I.tok _, ⟨_, rfl⟩, by simpa only [PyData.shown] using q⟩
  | bool b => exact P.repr_of_bool ⟨.str _, H, I.tok _, ⟨_, rfl⟩, by simpa only [PyData.shown] using q⟩
  | int i t => exact P.repr_of_int (by simpa [PyData.showable] using h1) ⟨.str _, H, I.tok _, ⟨_, rfl⟩, by simpa only [PyData.shown] using q⟩
  | str x t => exact P.repr_of_str ⟨.str _, H, I.tok _, ⟨_, rfl⟩, by simpa only [PyData.shown] using q⟩ (by simpa only [PyData.shown] using h2)
  | list _ _ _ _ => exact big _ rfl
  | tuple _ _ _ _ => exact big _ rfl
  | dict _ _ _ _ _ => exact big _ rfl
mutual
theorem RP.readsT {K : PySem.W.Frag} {ga : Nat → Addr} {B : Addr → Prop} {pins : List (Addr × Obj)} {σ : Slots} {H : Hp} {s : Shared} (I : Inv X pins σ H s) (hK : K = X.K) : ∀ {x : DL.P} {v : V} {u : Value} {d : PyData}, RP K ga B H x v → RelV v u → toPyT x = some d → ∃ as, Reads s.heap u d as ∧ sysModules ∉ as
  | _, _, _, _, .non, r, e => by
    simp only [toPyT, Option.some.injEq] at e; subst e
    cases r
    exact ⟨[], .none, by simp⟩
  | _, _, _, _, .bl b, r, e => by
    simp only [toPyT, Option.some.injEq] at e; subst e
    cases r
    exact ⟨[], .bool b, by simp⟩
  | _, _, _, _, .int i, r, e => by
    simp only [toPyT, Option.some.injEq] at e; subst e
    obtain ⟨t, rfl⟩ := r
    exact ⟨[], .int i t, by simp⟩
  | _, _, _, _, .str i, r, e => by
    simp only [toPyT, Option.some.injEq] at e; subst e
    obtain ⟨t, rfl⟩ := r
    exact ⟨[], .str i t, by simp⟩
  | _, _, _, _, .tup h rs, r, e => by
    simp only [toPyT] at e
    split at e
    · rename_i ds h2
      cases e
      cases r
      obtain ⟨its, rv, ⟨o, ho, hc, n, hd⟩, _⟩ := I.tuple (hK ▸ h.to)
      obtain ⟨as, h3, h4⟩ := RPs.readsT I hK rs rv h2
      exact ⟨as, .tuple ho hc hd h3, h4⟩
    · cases e
  | _, _, _, _, .lst _ _ _, _, e => by simp [toPyT] at e
  | _, _, _, _, @RP.dct _ _ _ _ a kvs vs h n e1 rs, r, e => by
    simp only [toPyT] at e
    split at e
    · cases e
      cases r
      have z : ObjOk X.prog X.w H s.heap a (.dK vs) := I.hok a _ h
      obtain ⟨_, hs, us, kv, o, es, ep, h1, h2, h3, _, h5, _⟩ := z
      have ev : vs = [] := by simpa using e1
      subst ev
      cases kv
      have ee : es.toList = [] := by simpa using h5.length
      refine ⟨[a] ++ [] ++ [], .dict (o := o) (es := es) (n := ep) h1 h2.1 h3 (by rw [ee]; exact .nil) (by rw [ee]; exact .nil), ?_⟩
      have : a ≠ sysModules := by simpa using hs
      simpa using fun z => this z.symm
    · cases e
  | _, _, _, _, .obj _ _ _ _, _, e => by simp [toPyT] at e
  | _, _, _, _, .ty _, _, e => by simp [toPyT] at e
  | _, _, _, _, .glo _, _, e => by simp [toPyT] at e
theorem RPs.readsT {K : PySem.W.Frag} {ga : Nat → Addr} {B : Addr → Prop} {pins : List (Addr × Obj)} {σ : Slots} {H : Hp} {s : Shared} (I : Inv X pins σ H s) (hK : K = X.K) : ∀ {x : List DL.P} {v : List V} {u : List Value} {d : List PyData}, RPs K ga B H x v → Vals v u → toPyTs x = some d → ∃ as, ReadsAll s.heap u d as ∧ sysModules ∉ as
  | _, _, _, _, .nil, r, e => by
    simp only [toPyTs, Option.some.injEq] at e; subst e
    cases r
    exact ⟨[], .nil, by simp⟩
  | _, _, _, _, .cons h t, r, e => by
    simp only [toPyTs] at e
    split at e
    · rename_i d ds h1 h2
      cases e
      cases r with
      | cons r1 r2 =>
        obtain ⟨as, a1, a2⟩ := RP.readsT I hK h r1 h1
        obtain ⟨bs, b1, b2⟩ := RPs.readsT I hK t r2 h2
        exact ⟨_, .cons a1 b1, by simp [a2, b2]⟩
    · cases e
end
theorem call_reprT (hg : X.A.guards = some []) (hu : X.A.units + 66 < cLine) : CallR X (.builtin "repr") (fun xs H Q => ∃ (ga : Nat → Addr) (B : Addr → Prop) (x : DL.P) (v : V) (d : PyData), xs = [v] ∧ RP X.K ga B H x v ∧ toPyT x = some d ∧ shownT d = true ∧ Q (.str d.shown) H) := by
  intro pins s σ H xs us Q I r ⟨ga, B, x, v, d, e, hp, hx, hs, q⟩
  subst e
  obtain ⟨u, rfl, rv⟩ := vals1 r
  unfold shownT at hs
  rw [Bool.and_eq_true, Bool.and_eq_true] at hs
  obtain ⟨⟨h1, h2⟩, h3⟩ := hs
  have h2 : d.shown.length ≤ sizeLine := by rw [lim_eq]; exact of_decide_eq_true h2
  have h3 := of_decide_eq_true h3
  obtain ⟨as, rr, nm⟩ := RP.readsT I rfl hp rv hx
  have big : ∀ a, u = .ref a → wpAny (model X.prog X.w) X.A (call (.builtin "repr") [u]) (EP X pins σ Q) X.xe s := by
    intro a ea
    subst ea
    exact repr_of_reads' rr h1 (fun _ => nm) hg (by omega) (fun _ _ z => z) (fun h' t tk hk => ⟨.str d.shown, H, I.kept hk, ⟨t, rfl⟩, q⟩) h2
  cases rr with
  | none => exact P.repr_of_none ⟨.str _, H, I.tok _, ⟨_, rfl⟩, by simpa only [PyData.shown] using q⟩
  | bool b => exact P.repr_of_bool ⟨.str _, H, I.tok _, ⟨_, rfl⟩, by simpa only [PyData.shown] using q⟩
  | int i t => exact P.repr_of_int (by simpa [PyData.showable] using h1) ⟨.str _, H, I.tok _, ⟨_, rfl⟩, by simpa only [PyData.shown] using q⟩
  | str x t => exact P.repr_of_str ⟨.str _, H, I.tok _, ⟨_, rfl⟩, by simpa only [PyData.shown] using q⟩ (by simpa only [PyData.shown] using h2)
  | list _ _ _ _ => exact big _ rfl
  | tuple _ _ _ _ => exact big _ rfl
  | dict _ _ _ _ _ => exact big _ rfl
theorem repr_ok (hK : T.K = X.K) (hg : X.A.guards = some []) (hu : X.A.units + 66 < cLine) : CallD X T (anyC X (.builtin "repr")) reprD := by
  intro Cl Φ μ H G ds d vs Q g r e k
  unfold reprD at e
  split at e
  · obtain ⟨v, rfl, r1⟩ := rds1 r
    split at e
    · rename_i dd hd
      split at e
      · rename_i hs
        cases e
        exact ⟨_, call_reprD hg hu, v, dd, rfl, hK ▸ pyD_dp g r1 hd, hs, k _ _ _ .refl g (.p (.str _))⟩
      · cases e
    · split at e
      · rename_i dd hd
        split at e
        · rename_i hs
          cases e
          unfold pyT at hd
          split at hd
          · cases r1 with
            | p r1 => exact ⟨_, call_reprT hg hu, _, _, _, v, dd, rfl, hK ▸ r1, hd, hs, k _ _ _ .refl g (.p (.str _))⟩
          · cases hd
        · cases e
      · cases e
  · cases e
end
end DL

set_option Elab.async false
set_option linter.all false
set_option maxRecDepth 100000
set_option maxHeartbeats 4000000
/-! DL 8: the program's own functions. -/
namespace DL
open PySem PySem.Spec PyProof.Rows L2

abbrev NoC : Addr → V → Prop := fun _ _ => False
abbrev FS := List D → Sto → Res D
/-- what a function gives, and what is wanted of it -/
def OutF (T : Tb) (E : XK) (Φ : Addr → Prop) (μ : List Addr) (H : Hp) (r : Res D) (Q : VK) : Prop := match r with
  | .ok d G' => ∀ μ' H' v, Le μ H μ' H' → RG T NoC Φ μ' H' G' → RD T NoC Φ μ' H' d v → Q v H'
  | .exc x G' => ∀ μ' H' cls dx, Le μ H μ' H' → RG T NoC Φ μ' H' G' → ExR T Φ μ' H' x cls dx → E cls dx H'
  | .stuck => False
def spD (T : Tb) (n : Nat) (F : FS) : Sp := fun vs H Q E => vs.length = n ∧ ∃ Φ μ G ds, RG T NoC Φ μ H G ∧ RDs T NoC Φ μ H ds vs ∧ OutF T E Φ μ H (F ds G) Q
/-- a function's promise, where no repr is under way -/
def FnG (P : Program) (w : World) (K : PySem.W.Frag) (mg : Str → Option Value) (base : Heap) (k : Nat) (f : Addr) (sp : Sp) : Prop :=
  ∀ (A : Around) (outer : List Env) (s : Shared) (H : Hp) (us : List Value) (vs : List V) (Q : VK) (E : XK), Room k A → A.guards = some [] → Env0 P w K mg base A outer s H → Vals vs us → sp vs H Q E →
    codeAny (model P w) A (.call (.ref f) ⟨us, []⟩) (CR (L2.CX P w) outer P w H s Q E) s
theorem FnG.mono {P : Program} {w : World} {K : PySem.W.Frag} {mg : Str → Option Value} {base : Heap} {j k : Nat} {f : Addr} {sp : Sp} (F : FnG P w K mg base j f sp) (h : j ≤ k) : FnG P w K mg base k f sp :=
  fun A outer s H us vs Q E hr => F A outer s H us vs Q E (hr.mono h)

/-! ### the body -/
abbrev cx (P : Program) (w : World) (K : PySem.W.Frag) (mg : Str → Option Value) (base : Heap) (N : List Str) (qual : Str) (scope : Scope) (f : Addr) (cd : Value) (A : Around) (outer : List Env) (s : Shared) (H : Hp) (E : XK) : Cx := cxOf (L2.CX P w) P w K mg base N qual scope f cd A outer s H E
theorem fnG_of {P : Program} {w : World} {K : PySem.W.Frag} {mg : Str → Option Value} {base : Heap} {k : Nat} {f : Addr} {name qual : Str} {params : Arguments} {body : List Stmt} {scope : Scope} {dV kV doc pm cdv ct oc : Value} {an od : Option Addr}
    {osl : Array (Option Value)} {N ps : List Str} {sp : Sp} (lk : K.lookup f = some ⟨oc, od, .func (PySem.W.fnOf name qual params body scope dV kV doc pm an cdv ct), osl⟩) (hcd : PySem.W.codeIn K cdv qual = true) (S : FnScope N ps scope)
    (hbind : Binds K (PySem.W.fnOf name qual params body scope dV kV doc pm an cdv ct) ps []) (len : ∀ vs H Q E, sp vs H Q E → vs.length = ps.length)
    (hbody : ∀ (A : Around) (outer : List Env) (s : Shared) (H : Hp) (vs : List V) (Q : VK) (E : XK), Room k (A.deeper (envOfC qual scope s.heap.objs.size f cdv)) → A.guards = some [] → sp vs H Q E →
      ∃ t, PSs (cx P w K mg base N qual scope f cdv A outer s H E) body t ∧ t { nx := fun _ H' => Q .non H', rt := Q } (start N vs) H) : FnG P w K mg base (k + 1) f sp := by
  intro A outer s H us vs Q E hr hgd e0 r hsp
  have hl := len _ _ _ _ hsp
  have KX : K.In s.heap := e0.mod.kin.keeps fun b o e => (e0.bs b o e).1
  have hlim : s.heap.NoLimit := e0.mod.nolimit.keeps fun b o e => (e0.bs b o e).1
  have hb := hbind s us KX (by rw [List.append_nil, ← r.length]; exact hl)
  rw [List.append_nil] at hb
  have cells : ∀ y ∈ ps.zip us, scope.names.lookup y.1 = some .local ∨ (scope.names.lookup y.1 = some .cell ∧ ((cellsFrom (s.heap.objs.size + 1) scope.names []).lookup y.1).isSome = true) := by
    rintro ⟨n, v⟩ hy
    exact (S.par n (List.of_mem_zip hy).1).imp id fun q => ⟨q, PySem.W.cellsFrom_some _ _ _ (.inl q)⟩
  refine codeAny_call_function hr.depth (KX _ _ lk) rfl S.co S.gen rfl (PySem.W.codeRec_of KX hcd) (hb _ _ _ _ (wpAny_newFunctionEnv_cells S.kind cells fun env he s1 x => ?_))
  subst he
  refine ⟨hlim.keeps x.toInCall.keep, codeAny_func ?_⟩
  obtain ⟨t, ht, hq⟩ := hbody A outer s H vs Q E (hr.deeper _) hgd hsp
  have I : Inv (cx P w K mg base N qual scope f cdv A outer s H E) [] (start N vs) H s1 := inv_start S hr.hd e0 hl r x
  have fin : ∀ {σ' : Slots} {H' : Hp} {v : V} {u : Value} {s' : Shared}, Inv (cx P w K mg base N qual scope f cdv A outer s H E) [] σ' H' s' → RelV v u → Q v H' → CE outer P w H s Q u s' := by
    intro σ' H' v u s' J rv q
    exact ⟨v, H', J.os, J.bare, J.base, J.hok, rv, q⟩
  refine wpAny_mono (ht.run [] s1 (start N vs) H _ I hq) (fun fl s' hs => ?_) fun e s' hs => hs
  cases fl with
  | ret u => obtain ⟨v, σ', H', J, rv, q⟩ := hs; exact fin J rv q
  | next => obtain ⟨σ', H', J, q⟩ := hs; exact fin (v := V.non) (u := Value.none) J rfl q
  | brk => obtain ⟨_, _, _, q⟩ := hs; exact q.elim
  | cont => obtain ⟨_, _, _, q⟩ := hs; exact q.elim
/-- the slots at the entry -/
def start0 (n : Nat) (ds : List D) : Ro := ⟨ds.map some ++ List.replicate (n - ds.length) none, []⟩
/-- a body's end, as a function's -/
def SR.res (G0 : Sto) : SR → Res D
  | .nx ρ G => if ρ.z.isEmpty then .ok (.p .non) G else .stuck
  | .rt d ρ G => if ρ.z.isEmpty then .ok d G else match d, G0 with
    | .p x, [] => .ok (.p x) []
    | _, _ => .stuck
  | .exc x ρ G => if ρ.z.isEmpty then .exc x G else .stuck
  | _ => .stuck
/-- a function of the text: how many slots, its body -/
def fnS (n : Nat) (body : SF) : FS := fun ds G => (body (start0 n ds) G).res G
section
variable {T : Tb} {Φ : Addr → Prop} {μ : List Addr} {H : Hp} {G : Sto}
theorem rel_start {X : Cx} {N : List Str} {ds : List D} {vs : List V} (g : RG T NoC Φ μ H G) (r : RDs T NoC Φ μ H ds vs) : Rel (CX1 X) T Φ μ H (start N vs) (start0 N.length ds) G := by
  have e : (CX1 X).c (start0 N.length ds) (start N vs) = NoC := clX_nil rfl
  refine ⟨by rw [e]; exact g, ⟨?_, fun i d h => ?_⟩, trivial⟩
  · unfold start0 L2.start
    simp [r.length]
  · rw [e]
    unfold start0 at h
    unfold L2.start
    by_cases hi : i < ds.length
    · rw [List.getElem?_append_left (by simpa using hi), List.getElem?_map] at h
      cases hd : ds[i]? with
      | none => rw [hd] at h; cases h
      | some d' =>
        rw [hd] at h
        cases h
        obtain ⟨v, h1, h2⟩ := r.get hd
        exact ⟨v, by rw [List.getElem?_append_left (by rw [List.length_map, ← r.length]; exact hi), List.getElem?_map, h1]; rfl, h2⟩
    · rw [List.getElem?_append_right (by simpa using hi), List.getElem?_replicate] at h
      split at h <;> cases h
end

/-! ### calls -/
section
variable {X : Cx} {C : CF} {T : Tb} {W : WX} {k : Nat} {f : Addr} {sp : Sp} {x : Str} {p pos : Pos} {e : Expr} {es : List Expr} {t : TA} {ff : AF} {n : Nat} {F : FS}
theorem run_G {pins : List (Addr × Obj)} {σ : Slots} {H : Hp} {s : Shared} {Q : VK} {us : List Value} {vs : List V} (hF : FnG X.prog X.w X.K X.mg X.base k f sp) (hr : Room k X.A) (hgd : X.A.guards = some []) (tk : Takes X W)
    (I : Inv X pins σ H s) (r : Vals vs us) (h : sp vs H Q (WE W σ)) : wpAny (model X.prog X.w) X.A (call (.ref f) us) (EP X pins σ Q) X.xe s := by
  refine wpAny_call (codeAny_mono (hF X.A X.stack s H us vs Q (WE W σ) hr hgd I.env0 r h) fun r s' hq => ?_)
  cases r with
  | error e => exact passAt tk σ pins H s e s' I hq
  | ok fl => cases fl with
    | ret u => exact I.after hq
    | _ => exact hq.elim
def tCallG (sp : Sp) (W : WX) (t : TA) : TE := fun σ H Q => t σ H fun vs H1 => sp vs H1 Q (WE W σ)
theorem pe_callG (hF : FnG X.prog X.w X.K X.mg X.base k f sp) (hr : Room k X.A) (hgd : X.A.guards = some []) (tk : Takes X W) (hg : Gl X x) (hm : X.mg x = some (.ref f)) (hk : PySem.W.keepIn X.K (.ref f) = true) (ha : PA X (e :: es) t) (hdb : (x == ("__debug__" : Str)) = false)
    (he : starEach (e :: es) X.env = (false, eval e X.env) :: starEach es X.env) (hpl : (backTo pos (starEach es X.env)).any (·.1) = false) : PE X (.Call (.Name x p) (e :: es) [] pos) (tCallG sp W t) :=
  ⟨fun pins s σ H Q I h => wpAny_Call_Name_kw (ld_glob I hg hm (PySem.W.callWith_K (h₀ := X.base) I.ok.mod.kin hk (thn (ha.run pos pins s σ H _ I h) fun us s1 ⟨vs, H1, I1, r, q⟩ => ⟨I1.kIn, run_G hF hr hgd tk I1 r q⟩) he hpl) hdb)⟩
theorem pe_callG0 (hF : FnG X.prog X.w X.K X.mg X.base k f sp) (hr : Room k X.A) (hgd : X.A.guards = some []) (tk : Takes X W) (hg : Gl X x) (hm : X.mg x = some (.ref f)) (hk : PySem.W.keepIn X.K (.ref f) = true) (hdb : (x == ("__debug__" : Str)) = false) :
    PE X (.Call (.Name x p) [] [] pos) (tCallG sp W tNil) :=
  ⟨fun pins s σ H Q I h => wpAny_Call_Name_kw (ld_glob I hg hm (PySem.W.callWith_K0 I.kIn hk (run_G (us := []) hF hr hgd tk I .nil h)) hdb)⟩

/-! what is handed to a function that may change nothing -/
def pureArg : D → Bool
  | .p _ => true
  | .scr _ => true
  | _ => false
/-- what such a function has made, as what stays -/
def freeze (G : Sto) : D → Option P
  | .p x => some x
  | .ref n => match G[n]? with
    | some (.lst xs) => (allP xs).map P.lst
    | some (.dK kvs) => (allP (kvs.map Prod.snd)).map fun xs => .dct ((kvs.map Prod.fst).zip xs)
    | some (.ins g fs) => (allP (fs.map Prod.snd)).map fun xs => .obj g ((fs.map Prod.fst).zip xs)
    | _ => none
  | _ => none
def fPure (n : Nat) (F : FS) (f : AF) : EF := fun ρ G => (f ρ G).bind fun ds G1 => if ds.length = n ∧ ds.all pureArg = true then (match F ds [] with
    | .ok d G2 => match freeze G2 d with
      | some x => .ok (.p x) G1
      | none => .stuck
    | .exc x _ => .exc x G1
    | .stuck => .stuck) else .stuck
def fEff (n : Nat) (F : FS) (f : AF) : EF := fun ρ G => if ρ.z.isEmpty then (f ρ G).bind fun ds G1 => if ds.length = n then F ds G1 else .stuck else .stuck
theorem bad_nil {Φ : Addr → Prop} {a : Addr} (h : Bad Φ [] a) : Φ a := h.elim id fun z => by cases z
theorem bad_bad {Φ : Addr → Prop} {μ μ' : List Addr} {a : Addr} (h : Bad Φ μ a) : Bad (Bad Φ μ) μ' a := .inl h
section
variable {Cl : Addr → V → Prop} {Φ : Addr → Prop} {μ μ' : List Addr} {H H' : Hp} {G : Sto}
theorem rds_pure : ∀ {ds : List D} {vs : List V}, ds.all pureArg = true → RDs T Cl Φ μ H ds vs → RDs T NoC (Bad Φ μ) [] H ds vs
  | _, _, _, .nil => .nil
  | d :: ds, _, h, .cons r t => by
    rw [List.all_cons, Bool.and_eq_true] at h
    refine .cons ?_ (rds_pure h.2 t)
    cases r with
    | p r => exact .p (r.less fun a z => bad_nil z)
    | scr r => exact .scr (r.less fun a z => bad_nil z)
    | _ => exact absurd h.1 (by simp [pureArg])
theorem RG.enter (g : RG T Cl Φ μ H G) : RG T NoC (Bad Φ μ) [] H [] :=
  ⟨rfl, List.nodup_nil, fun a z => absurd z (by simp), fun a z => g.muB z, fun n a mo h => by simp at h, g.tabs, fun q hq => (g.con q hq).less fun a z => bad_nil z⟩
theorem Le.leave (k : Le [] H μ' H') : Le μ H μ H' := ⟨fun a o h _ t => k.keep a o h (by simp) t, ⟨[], by simp⟩, fun a h => .inl h, k.there⟩
theorem tabs_keep {tabs : List (Addr × Str)} (k : Le [] H μ' H') (h : LamX.Tabs tabs H) (h' : LamX.Tabs tabs H') : LamX.Tabs tabs H' := h'
theorem RG.leave {Cl' : Addr → V → Prop} {Φ' : Addr → Prop} {G' : Sto} (g : RG T Cl Φ μ H G) (k : Le [] H μ' H') (g' : RG T Cl' Φ' μ' H' G') : RG T Cl Φ μ H' G := by
  have le : Le μ H μ H' := k.leave
  refine ⟨g.len, g.nd, g.dis, fun a z => let ⟨o, e, m⟩ := g.phi a z; ⟨o, k.keep a o e (by simp) m.1, m⟩, fun n a mo h1 h2 => (g.obj n a mo h1 h2).keep le ?_, g'.tabs, fun q hq => (g.con q hq).keep le.bad⟩
  have m := g.obj n a mo h1 h2
  cases hh : H a with
  | none => exact absurd hh m.there
  | some o => exact k.keep a o hh (by simp) fun ps z => m.notTbl (ps := ps) (by rw [hh, z])
theorem zip_fst {α β γ : Type} {xs : List (α × β)} {ys : List γ} (h : ys.length = xs.length) : ((xs.map Prod.fst).zip ys).map Prod.fst = xs.map Prod.fst := by
  rw [List.map_fst_zip]; simp [h]
theorem zip_snd {α β γ : Type} {xs : List (α × β)} {ys : List γ} (h : ys.length = xs.length) : ((xs.map Prod.fst).zip ys).map Prod.snd = ys := by
  rw [List.map_snd_zip]; simp [h]
theorem allP_len {ds : List D} {xs : List P} (h : allP ds = some xs) : xs.length = ds.length := by rw [allP_eq h, List.length_map]
theorem freeze_rd {d : D} {v : V} {x : P} (g0 : RG T Cl Φ μ H G) (k : Le [] H μ' H') {G' : Sto} (g : RG T NoC (Bad Φ μ) μ' H' G') (r : RD T NoC (Bad Φ μ) μ' H' d v) (e : freeze G' d = some x) : RP T.K T.ga (Bad Φ μ) H' x v := by
  have less : ∀ a, Bad Φ μ a → Bad (Bad Φ μ) μ' a := fun a z => bad_bad z
  have fresh : ∀ {n : Nat} {a : Addr}, μ'[n]? = some a → ¬ Bad Φ μ a := fun {n a} h z => by
    rcases k.out a (List.mem_of_getElem? h) with y | y
    · cases y
    · exact g0.bad y z
  cases r with
  | p r => cases e; exact r.less less
  | @ref n a hn =>
    simp only [freeze] at e
    split at e
    · rename_i xs hx
      obtain ⟨ys, e1, e2⟩ := Option.map_eq_some_iff.mp e
      subst e2
      obtain ⟨vs, h1, h2⟩ := g.look hn hx
      rw [allP_eq e1] at h2
      exact .lst h1 (fresh hn) (h2.toP.less less)
    · rename_i kvs hx
      obtain ⟨ys, e1, e2⟩ := Option.map_eq_some_iff.mp e
      subst e2
      obtain ⟨vs, h1, h2, h3⟩ := g.look hn hx
      have hl : ys.length = kvs.length := by rw [allP_len e1, List.length_map]
      rw [allP_eq e1] at h3
      exact .dct h1 (fresh hn) (by rw [h2, zip_fst hl]) (by rw [zip_snd hl]; exact h3.toP.less less)
    · rename_i gg fs hx
      obtain ⟨ys, e1, e2⟩ := Option.map_eq_some_iff.mp e
      subst e2
      obtain ⟨dx, vs, h1, h2, h3⟩ := g.look hn hx
      have hl : ys.length = fs.length := by rw [allP_len e1, List.length_map]
      rw [allP_eq e1] at h3
      exact .obj h1 (fresh hn) (by rw [h2, zip_fst hl]) (by rw [zip_snd hl]; exact h3.toP.less less)
    · cases e
  | _ => cases e
theorem ExR.less {Φ' : Addr → Prop} {x : Exn} {cls : Value} {dx : Option Addr} (h : ExR T Φ' μ' H x cls dx) (k : ∀ a, Bad Φ μ a → Bad Φ' μ' a) : ExR T Φ μ H x cls dx := by
  refine ⟨h.1, h.2.imp id fun ⟨d, vs, h1, h2, h3, h4, h5⟩ => ⟨d, vs, h1, h2, fun z => h3 (k _ z), h4, h5.less k⟩⟩
end
theorem pure_to {σ : Slots} {H : Hp} {Q : VK} (hw : eOf C T W (fPure n F ff) σ H Q) : tCallG (spD T n F) W (aOf C T W ff) σ H Q := by
  obtain ⟨Φ, μ, ρ, G, r, o⟩ := hw
  refine ⟨Φ, μ, ρ, G, r, o.bind fun vs H1 ⟨μ1, G1, ds, k1, g1, rx, o1⟩ => ?_⟩
  split at o1
  case isFalse => exact o1.elim
  rename_i hc
  refine ⟨by rw [← rx.length]; exact hc.1, Bad Φ μ1, [], [], ds, g1.enter, rds_pure hc.2 rx, ?_⟩
  cases eF : F ds [] with
  | ok d G2 =>
    rw [eF] at o1
    dsimp only at o1
    intro μ' H' v k g' rd
    cases ef : freeze G2 d with
    | none => rw [ef] at o1; exact o1.elim
    | some y =>
      rw [ef] at o1
      exact o1 μ1 H' v k.leave (g1.leave k g') (.p (freeze_rd g1 k g' rd ef))
  | exc y G2 =>
    rw [eF] at o1
    intro μ' H' cls dx k g' ex
    exact o1 μ1 H' cls dx k.leave (g1.leave k g') (ex.less fun a z => bad_bad z)
  | stuck => rw [eF] at o1; exact o1.elim
theorem eff_to (hZ : C.Nil) {σ : Slots} {H : Hp} {Q : VK} (hw : eOf C T W (fEff n F ff) σ H Q) : tCallG (spD T n F) W (aOf C T W ff) σ H Q := by
  obtain ⟨Φ, μ, ρ, G, r, o⟩ := hw
  unfold fEff at o
  split at o
  case isFalse => exact o.elim
  rename_i hz
  have eC := hZ ρ σ (List.isEmpty_iff.mp hz)
  refine ⟨Φ, μ, ρ, G, r, o.bind fun vs H1 ⟨μ1, G1, ds, k1, g1, rx, o1⟩ => ?_⟩
  split at o1
  case isFalse => exact o1.elim
  rename_i hc
  rw [eC] at g1 rx
  refine ⟨by rw [← rx.length]; exact hc, Φ, μ1, G1, ds, g1, rx, ?_⟩
  unfold Out at o1
  rw [eC] at o1
  unfold OutF
  cases eF : F ds G1 with
  | ok d G2 => rw [eF] at o1; exact o1
  | exc y G2 => rw [eF] at o1; exact o1
  | stuck => rw [eF] at o1; exact o1
theorem re_pure (hF : FnG X.prog X.w X.K X.mg X.base k f (spD T n F)) (hr : Room k X.A) (hgd : X.A.guards = some []) (tk : Takes X W) (hg : Gl X x) (hm : X.mg x = some (.ref f)) (hk : PySem.W.keepIn X.K (.ref f) = true) (ha : PA X (e :: es) (aOf C T W ff)) (hdb : (x == ("__debug__" : Str)) = false)
    (he : starEach (e :: es) X.env = (false, eval e X.env) :: starEach es X.env) (hpl : (backTo pos (starEach es X.env)).any (·.1) = false) : PE X (.Call (.Name x p) (e :: es) [] pos) (eOf C T W (fPure n F ff)) :=
  peImp (pe_callG hF hr hgd tk hg hm hk ha hdb he hpl) fun _ _ _ hw => pure_to hw
theorem re_eff (hZ : C.Nil) (hF : FnG X.prog X.w X.K X.mg X.base k f (spD T n F)) (hr : Room k X.A) (hgd : X.A.guards = some []) (tk : Takes X W) (hg : Gl X x) (hm : X.mg x = some (.ref f)) (hk : PySem.W.keepIn X.K (.ref f) = true) (ha : PA X (e :: es) (aOf C T W ff)) (hdb : (x == ("__debug__" : Str)) = false)
    (he : starEach (e :: es) X.env = (false, eval e X.env) :: starEach es X.env) (hpl : (backTo pos (starEach es X.env)).any (·.1) = false) : PE X (.Call (.Name x p) (e :: es) [] pos) (eOf C T W (fEff n F ff)) :=
  peImp (pe_callG hF hr hgd tk hg hm hk ha hdb he hpl) fun _ _ _ hw => eff_to hZ hw
end
section
variable {T : Tb} {Φ : Addr → Prop} {μ : List Addr} {H : Hp} {G : Sto}
theorem body_end {X : Cx} {E : XK} {Q : VK} {r : SR} (g0 : RG T NoC Φ μ H G) (h : OutF T E Φ μ H (r.res G) Q) : SOut (CX1 X) T (fun cls d _ H => E cls d H) Φ μ H r { nx := fun _ H' => Q .non H', rt := Q } := by
  cases r with
  | nx ρ G' =>
    unfold SR.res at h
    dsimp only at h
    split at h
    · rename_i hz
      intro μ' H' σ' k r'
      have e : (CX1 X).c ρ σ' = NoC := clX_nil (List.isEmpty_iff.mp hz)
      have g := r'.g
      rw [e] at g
      exact h μ' H' .non k g (.p .non)
    · exact h.elim
  | rt d ρ G' =>
    unfold SR.res at h
    dsimp only at h
    split at h
    · rename_i hz
      intro μ' H' σ' v k r' rd
      have e : (CX1 X).c ρ σ' = NoC := clX_nil (List.isEmpty_iff.mp hz)
      have g := r'.g
      rw [e] at g rd
      exact h μ' H' v k g rd
    · split at h
      · intro μ' H' σ' v k r' rd
        obtain rfl : μ = [] := List.length_eq_zero_iff.mp (by have := g0.len; simpa using this)
        cases rd with
        | p rp => exact h [] H' v k.leave (g0.leave k r'.g) (.p (rp.less fun a z => z.elim .inl fun y => by cases y))
      · exact h.elim
  | exc x ρ G' =>
    unfold SR.res at h
    dsimp only at h
    split at h
    · rename_i hz
      intro μ' H' σ' cls dx k r' ex
      have e : (CX1 X).c ρ σ' = NoC := clX_nil (List.isEmpty_iff.mp hz)
      have g := r'.g
      rw [e] at g
      exact h μ' H' cls dx k g ex
    · exact h.elim
  | bk ρ G' => exact h.elim
  | ct ρ G' => exact h.elim
  | stuck => exact h.elim
end
end DL

set_option Elab.async false
set_option linter.all false
set_option maxRecDepth 100000
set_option maxHeartbeats 4000000
/-! DL 9: dicts that change, append, bit_length. -/
namespace DL
open PySem PySem.Spec PyProof.Rows L2

/-! ### a thing of the store is stored anew -/
section
variable {T : Tb} {Cl : Addr → V → Prop} {Φ : Addr → Prop} {μ : List Addr} {H : Hp} {G : Sto} {a : Addr} {n : Nat} {o u : HO} {mo mo' : MO}
theorem le_set (ha : a ∈ μ) : Le μ H μ (upd H a o) := ⟨fun b v h nb _ => by rw [upd_ne (fun z => nb (by rw [z]; exact ha))]; exact h, ⟨[], by simp⟩, fun _ h => .inl h, fun b h => by
  by_cases e : b = a
  · rw [e, upd_same]; simp
  · rw [upd_ne e]; exact h⟩
theorem RG.store (g : RG T Cl Φ μ H G) (hn : μ[n]? = some a) (hu : H a = some u) (h1 : NT u) (h2 : ∀ c q, u ≠ LamX.CodeO c q) (hm : MoR T Cl Φ μ (upd H a o) a mo) : RG T Cl Φ μ (upd H a o) (G.set n mo) := by
  have ha : a ∈ μ := List.mem_of_getElem? hn
  have bad : Bad Φ μ a := .inr ha
  refine ⟨by rw [List.length_set]; exact g.len, g.nd, g.dis, fun b h => let ⟨o, e, m⟩ := g.phi b h; ⟨o, by rw [upd_ne fun z => g.dis a ha (by rw [← z]; exact h)]; exact e, m⟩, fun m b mo2 e1 e2 => ?_, tabs_upd hu h1 h2 g.tabs, fun q hq => (g.con q hq).keep (keep_upd bad)⟩
  by_cases hmn : n = m
  · subst hmn
    rw [hn] at e1
    cases e1
    have hl : n < G.length := by rw [← g.len]; exact (List.getElem?_eq_some_iff.mp hn).1
    rw [List.getElem?_set_self hl] at e2
    cases e2
    exact hm
  · rw [List.getElem?_set_ne hmn] at e2
    have hb : b ≠ a := fun z => by
      subst z
      obtain ⟨l1, q1⟩ := List.getElem?_eq_some_iff.mp hn
      obtain ⟨l2, q2⟩ := List.getElem?_eq_some_iff.mp e1
      have nd := List.pairwise_iff_getElem.mp g.nd
      rcases Nat.lt_trichotomy n m with c | c | c
      · exact nd n m l1 l2 c (by rw [q1, q2])
      · exact hmn c
      · exact nd m n l2 l1 c (by rw [q1, q2])
    exact (g.obj m b mo2 e1 e2).move (keep_upd bad) (fun _ _ h => h) (fun _ _ h => h) (upd_ne hb)
theorem dK_noCode {xs} (c : Addr) (q : Str) : HO.dK xs ≠ LamX.CodeO c q := fun z => by unfold LamX.CodeO at z; cases z
theorem dT_noCode {xs} (c : Addr) (q : Str) : HO.dT xs ≠ LamX.CodeO c q := fun z => by unfold LamX.CodeO at z; cases z
theorem ins_noCode {x y z} (c : Addr) (q : Str) : HO.ins x y z ≠ LamX.CodeO c q := fun z => by unfold LamX.CodeO at z; cases z
end

/-! ### stored under a key -/
def putA {α κ : Type} [DecidableEq κ] (kvs : List (κ × α)) (k : κ) (v : α) : List (κ × α) :=
  if (kvs.any fun kv => decide (kv.1 = k)) = true then kvs.map (fun kv => if kv.1 = k then (kv.1, v) else kv) else kvs ++ [(k, v)]
theorem putK_A {κ : Type} [DecidableEq κ] (kvs : List (κ × V)) (k : κ) (v : V) : putK kvs k v = putA kvs k v := rfl
theorem any_fst {α β κ : Type} [DecidableEq κ] {k : κ} : ∀ {kvs : List (κ × α)} {vs : List (κ × β)}, vs.map Prod.fst = kvs.map Prod.fst → (vs.any fun kv => decide (kv.1 = k)) = kvs.any fun kv => decide (kv.1 = k)
  | [], [], _ => rfl
  | [], _ :: _, h => by simp at h
  | _ :: _, [], h => by simp at h
  | (k1, a) :: kvs, (k2, b) :: vs, h => by
    simp only [List.map_cons, List.cons.injEq] at h
    rw [List.any_cons, List.any_cons, any_fst h.2, h.1]
theorem putA_fst {α β κ : Type} [DecidableEq κ] {k : κ} {x : α} {y : β} {kvs : List (κ × α)} {vs : List (κ × β)} (h : vs.map Prod.fst = kvs.map Prod.fst) : (putA vs k y).map Prod.fst = (putA kvs k x).map Prod.fst := by
  have self : ∀ {γ : Type} {z : γ} (ws : List (κ × γ)), (ws.map fun kv => if kv.1 = k then (kv.1, z) else kv).map Prod.fst = ws.map Prod.fst := fun ws => by
    rw [List.map_map]
    refine List.map_congr_left fun kv _ => ?_
    show (if kv.1 = k then (kv.1, _) else kv).1 = kv.1
    split <;> rfl
  unfold putA
  rw [any_fst h]
  split
  · rw [self, self, h]
  · rw [List.map_append, List.map_append, h]; rfl
section
variable {T : Tb} {Cl : Addr → V → Prop} {Φ : Addr → Prop} {μ : List Addr} {H : Hp}
theorem putA_rds {κ : Type} [DecidableEq κ] {k : κ} {x : D} {y : V} (r : RD T Cl Φ μ H x y) {kvs : List (κ × D)} {vs : List (κ × V)} (h : vs.map Prod.fst = kvs.map Prod.fst) (hr : RDs T Cl Φ μ H (kvs.map Prod.snd) (vs.map Prod.snd)) :
    RDs T Cl Φ μ H ((putA kvs k x).map Prod.snd) ((putA vs k y).map Prod.snd) := by
  have go : ∀ {kvs : List (κ × D)} {vs : List (κ × V)}, vs.map Prod.fst = kvs.map Prod.fst → RDs T Cl Φ μ H (kvs.map Prod.snd) (vs.map Prod.snd) →
      RDs T Cl Φ μ H ((kvs.map fun kv => if kv.1 = k then (kv.1, x) else kv).map Prod.snd) ((vs.map fun kv => if kv.1 = k then (kv.1, y) else kv).map Prod.snd) := by
    intro kvs
    induction kvs with
    | nil => intro vs h hr; cases vs with
      | nil => exact .nil
      | cons _ _ => simp at h
    | cons p kvs ih => intro vs h hr; cases vs with
      | nil => simp at h
      | cons q vs =>
        simp only [List.map_cons, List.cons.injEq] at h
        rw [List.map_cons, List.map_cons] at hr
        cases hr with
        | cons r1 rr =>
          have t := ih h.2 rr
          rw [List.map_cons, List.map_cons, List.map_cons, List.map_cons, h.1]
          by_cases c : p.1 = k
          · rw [if_pos c, if_pos c]; exact .cons r t
          · rw [if_neg c, if_neg c]; exact .cons r1 t
  unfold putA
  rw [any_fst h]
  split
  · exact go h hr
  · rw [List.map_append, List.map_append]
    exact hr.append (.cons r .nil)
end
/-- d[y] = v -/
def dputD (G : Sto) (x y v : D) : Option Sto := match x with
  | .ref n => match G[n]? with
    | some (.dK kvs) => match y with
      | .p k => match keyP k with
        | some k => if kvs.length < lim then some (G.set n (.dK (putA kvs k v))) else none
        | none => none
      | _ => none
    | some (.dT kvs) => match y with
      | .p (.tup ks) => match keysW ks with
        | some k => if kvs.length < lim then some (G.set n (.dT (putA kvs k v))) else none
        | none => none
      | _ => none
    | _ => none
  | _ => none
def sPut (fd fk fv : EF) : SF := fun ρ G => (fv ρ G).st ρ fun v G1 => (fd ρ G1).st ρ fun x G2 => (fk ρ G2).st ρ fun y G3 => match dputD G3 x y v with
  | some G4 => .nx ρ G4
  | none => .stuck
section
variable {X : Cx} {C : CF} {T : Tb} {W : WX} {o i e : Expr} {fo fi fe : EF} {pos pos' : Pos}
theorem dput_rd {Cl : Addr → V → Prop} {Φ : Addr → Prop} {μ : List Addr} {H : Hp} {G G' : Sto} {x y v : D} {vx vy vv : V} (g : RG T Cl Φ μ H G) (rx : RD T Cl Φ μ H x vx) (ry : RD T Cl Φ μ H y vy) (rv : RD T Cl Φ μ H v vv) (e : dputD G x y v = some G') :
    ∃ a o, vx = .ref a ∧ DPut H a vy vv (upd H a o) ∧ Bad Φ μ a ∧ a ∈ μ ∧ RG T Cl Φ μ (upd H a o) G' := by
  unfold dputD at e
  split at e
  · rename_i n
    cases rx with
    | @ref _ a hn =>
      have ha : a ∈ μ := List.mem_of_getElem? hn
      split at e
      · rename_i kvs hk
        obtain ⟨vs, h1, h2, h3⟩ := g.look hn hk
        split at e
        · rename_i k
          split at e
          · rename_i kk ek
            split at e
            · rename_i hl
              cases e
              cases ry with
              | p ry =>
                rw [keyP_rd ry ek]
                have len : vs.length = kvs.length := by have := congrArg List.length h2; simpa using this
                refine ⟨a, _, rfl, DPut.k h1 (by rw [lim_eq, len]; exact hl), .inr ha, ha, g.store hn h1 nt_dK dK_noCode ⟨_, upd_same, ?_, ?_⟩⟩
                · rw [putK_A]; exact putA_fst h2
                · rw [putK_A]; exact (putA_rds rv h2 h3).move (keep_upd (.inr ha)) (fun _ _ z => z) (fun _ _ z => z)
            · cases e
          · cases e
        · cases e
      · rename_i kvs hk
        obtain ⟨vs, h1, h2, h3⟩ := g.look hn hk
        split at e
        · rename_i ks
          split at e
          · rename_i kk ek
            split at e
            · rename_i hl
              cases e
              cases ry with
              | p ry => cases ry with
                | tup ht rr =>
                  have hb := keysW_rd ht rr ek
                  have len : vs.length = kvs.length := by have := congrArg List.length h2; simpa using this
                  refine ⟨a, _, rfl, DPut.t h1 hb (by rw [lim_eq, len]; exact hl), .inr ha, ha, g.store hn h1 nt_dT dT_noCode ⟨_, upd_same, ?_, ?_⟩⟩
                  · rw [putK_A]; exact putA_fst h2
                  · rw [putK_A]; exact (putA_rds rv h2 h3).move (keep_upd (.inr ha)) (fun _ _ z => z) (fun _ _ z => z)
            · cases e
          · cases e
        · cases e
      · cases e
  · cases e
theorem Rel.stored {Φ : Addr → Prop} {μ : List Addr} {H : Hp} {σ : Slots} {ρ : Ro} {G G' : Sto} {a : Addr} {o' : HO} (r : Rel C T Φ μ H σ ρ G) (hb : Bad Φ μ a) (g : RG T (C.c ρ σ) Φ μ (upd H a o') G') : Rel C T Φ μ (upd H a o') σ ρ G' :=
  ⟨g, ⟨r.e.len, fun i d h => let ⟨v, h1, h2⟩ := r.e.val i d h; ⟨v, h1, h2.move (keep_upd hb) (fun _ _ z => z) fun _ _ z => z⟩⟩, r.k⟩
theorem rs_put (hu : X.A.units + 1 < cLine) (ho : PE X o (eOf C T W fo)) (hi : PE X i (eOf C T W fi)) (hv : PE X e (eOf C T W fe)) (hs : swapsWith e (some (.Subscript o i pos')) pos.line X.env = pure false) :
    PS X (.Assign [.Subscript o i pos'] e pos) (sOf C T W (sPut fo fi fe)) :=
  psImp (ps_dput hu ho hi hv hs) fun Dn σ H ⟨Φ, μ, ρ, G, r, o0⟩ => by
    refine ⟨Φ, μ, ρ, G, r, SOut.expr r o0 fun v H1 ⟨μ1, G1, dv, k1, r1, rv, o1⟩ => ?_⟩
    refine ⟨Φ, μ1, ρ, G1, r1, SOut.expr r1 o1 fun x H2 ⟨μ2, G2, dx, k2, r2, rx, o2⟩ => ?_⟩
    refine ⟨Φ, μ2, ρ, G2, r2, SOut.expr r2 o2 fun y H3 ⟨μ3, G3, dy, k3, r3, ry, o3⟩ => ?_⟩
    cases ed : dputD G3 dx dy dv with
    | none => rw [ed] at o3; exact o3.elim
    | some G4 =>
      rw [ed] at o3
      obtain ⟨a, u, ev, hp, hb, ha, g4⟩ := dput_rd r3.g (rx.keep k3) ry ((rv.keep k2).keep k3) ed
      exact ⟨a, _, ev, hp, o3 μ3 _ σ (le_set ha) (r3.stored hb g4)⟩
end

/-! ### l.append(x) -/
def appD (G : Sto) (x y : D) : Option Sto := match x with
  | .ref n => match G[n]? with
    | some (.lst xs) => if xs.length < lim then some (G.set n (.lst (xs ++ [y]))) else none
    | _ => none
  | _ => none
def isLst (G : Sto) : D → Bool
  | .ref n => match G[n]? with
    | some (.lst _) => true
    | _ => false
  | _ => false
def fApp (fo fe : EF) : EF := fun ρ G => (fo ρ G).bind fun x G1 => if isLst G1 x = true then (fe ρ G1).bind fun y G2 => match appD G2 x y with
  | some G3 => .ok (.p .non) G3
  | none => .stuck else .stuck
def fBits (f : EF) : EF := fun ρ G => (f ρ G).bind fun x G1 => match x with
  | .p (.int i) => .ok (.p (.int (Builtin.Int.intBits i : Nat))) G1
  | _ => .stuck
section
variable {X : Cx} {C : CF} {T : Tb} {W : WX} {o e : Expr} {fo fe : EF} {apos cpos : Pos}
theorem app_rd {Cl : Addr → V → Prop} {Φ : Addr → Prop} {μ : List Addr} {H : Hp} {G G' : Sto} {x y : D} {vx vy : V} (g : RG T Cl Φ μ H G) (rx : RD T Cl Φ μ H x vx) (ry : RD T Cl Φ μ H y vy) (e : appD G x y = some G') :
    ∃ a vs, vx = .ref a ∧ H a = some (.lst vs) ∧ vs.length < sizeLine ∧ Le μ H μ (upd H a (.lst (vs ++ [vy]))) ∧ RG T Cl Φ μ (upd H a (.lst (vs ++ [vy]))) G' := by
  unfold appD at e
  split at e
  · cases rx with
    | @ref _ a hn =>
      split at e
      · rename_i xs hk
        split at e
        · rename_i hl
          cases e
          obtain ⟨vs, h1, h2⟩ := g.look hn hk
          have ha := List.mem_of_getElem? hn
          exact ⟨a, vs, rfl, h1, by rw [lim_eq, ← h2.length]; exact hl, le_set ha, g.store hn h1 nt_lst lst_noCode ⟨_, upd_same, (h2.append (.cons ry .nil)).move (keep_upd (.inr ha)) (fun _ _ z => z) fun _ _ z => z⟩⟩
        · cases e
      · cases e
  · cases e
theorem isLst_rd {Cl : Addr → V → Prop} {Φ : Addr → Prop} {μ : List Addr} {H : Hp} {G : Sto} {x : D} {v : V} (g : RG T Cl Φ μ H G) (r : RD T Cl Φ μ H x v) (e : isLst G x = true) : tyV X.K "list" v H := by
  unfold isLst at e
  split at e
  · cases r with
    | ref hn =>
      split at e
      · rename_i xs hk
        obtain ⟨vs, h1, h2⟩ := g.look hn hk
        exact .inl ⟨rfl, vs, .of h1⟩
      · cases e
  · cases e
theorem re_app (ho : PE X o (eOf C T W fo)) (he : PE X e (eOf C T W fe)) (hbase : attributeBase o "append" X.env (eval o X.env) = eval o X.env)
    (hfew : ((backTo cpos (starEach [e] X.env)).all (fun x => !x.1) && (backToKw cpos (keywordEach [] X.env)).all (fun x => x.1.isSome) && decide (([e] : List Expr).length + ([] : List Keyword).length + (if ([] : List Keyword).isEmpty then 0 else 1) < 30)) = true)
    (hline : (apos.endLine == cpos.line) = true) (hs : starEach [e] X.env = (false, eval e X.env) :: starEach [] X.env) (hplain : (backTo cpos (starEach [] X.env)).any (·.1) = false) :
    PE X (.Call (.Attribute o "append" apos) [e] [] cpos) (eOf C T W (fApp fo fe)) := by
  refine peImp (pe_bm PySem.F.plainAttrs_list PySem.F.slot_list_append PySem.F.type_list_append mt_append ho (pa_cons he pa_nil hs) hbase hfew hline hs hplain) fun σ H Q ⟨Φ, μ, ρ, G, r, o0⟩ => ?_
  refine ⟨Φ, μ, ρ, G, r, o0.bind fun vx H1 ⟨μ1, G1, dx, k1, g1, rx, o1⟩ => ?_⟩
  split at o1
  case isFalse => exact o1.elim
  rename_i hl
  refine ⟨isLst_rd g1 rx hl, Φ, μ1, ρ, G1, r.later k1 g1, o1.bind fun vy H2 ⟨μ2, G2, dy, k2, g2, ry, o2⟩ => ?_⟩
  cases ed : appD G2 dx dy with
  | none => rw [ed] at o2; exact o2.elim
  | some G3 =>
    rw [ed] at o2
    obtain ⟨a, vs, ev, h1, h2, k3, g3⟩ := app_rd g2 (rx.keep k2) ry ed
    exact ⟨a, vs, vy, ev, rfl, h1, h2, o2 μ2 _ .non k3 g3 (.p .non)⟩
theorem re_bits (ho : PE X o (eOf C T W fo)) (hbase : attributeBase o "bit_length" X.env (eval o X.env) = eval o X.env) (hline : (apos.endLine == cpos.line) = true) : PE X (.Call (.Attribute o "bit_length" apos) [] [] cpos) (eOf C T W (fBits fo)) :=
  peImp (pe_bits ho hbase hline) fun σ H Q ⟨Φ, μ, ρ, G, r, o0⟩ => ⟨Φ, μ, ρ, G, r, o0.bind fun v H1 ⟨μ1, G1, d, k1, g1, rd, o1⟩ => by
    split at o1
    · exact ⟨_, rd_int rd, o1 μ1 H1 _ .refl g1 (.p (.int _))⟩
    · exact o1.elim⟩
end

/-! ### a display of a dict -/
def pairsF : List (Str × EF) → Ro → Sto → Res (List (Key × D))
  | [], _, G => .ok [] G
  | (k, f) :: r, ρ, G => (f ρ G).bind fun d G1 => (pairsF r ρ G1).bind fun ds G2 => .ok ((.inr k, d) :: ds) G2
def ndup : List Str → Bool
  | [] => true
  | k :: r => !r.contains k && ndup r
def fDict (kfs : List (Str × EF)) : EF := fun ρ G => (pairsF kfs ρ G).bind fun kvs G1 => .ok (.ref G1.length) (G1 ++ [.dK kvs])
section
variable {X : Cx} {C : CF} {T : Tb} {W : WX} {pos : Pos}
theorem RG.own {Cl : Addr → V → Prop} {Φ : Addr → Prop} {μ : List Addr} {H : Hp} {G : Sto} {b : Addr} {mo : MO} (g : RG T Cl (fun a => Φ a ∨ a = b) μ H G) (nb : ¬ Φ b) (hm : MoR T Cl Φ (μ ++ [b]) H b mo) : RG T Cl Φ (μ ++ [b]) H (G ++ [mo]) := by
  have kk : Keep (Bad (fun a => Φ a ∨ a = b) μ) H (Bad Φ (μ ++ [b])) H := fun a o h n _ => ⟨h, fun z => n (by
    rcases z with z | z
    · exact .inl (.inl z)
    · rcases List.mem_append.mp z with z | z
      · exact .inr z
      · exact .inl (.inr (List.mem_singleton.mp z)))⟩
  have gg : ∀ (n : Nat) (a : Addr), μ[n]? = some a → (μ ++ [b])[n]? = some a := fun n a h => by rw [List.getElem?_append_left (List.getElem?_eq_some_iff.mp h).1]; exact h
  have nm : b ∉ μ := fun z => g.dis b z (.inr rfl)
  refine ⟨by simp [g.len], ?_, fun a ha => ?_, fun a h => g.phi a (.inl h), fun n a m h1 h2 => ?_, g.tabs, fun q hq => (g.con q hq).keep kk⟩
  · rw [List.nodup_append]
    exact ⟨g.nd, by simp, fun a ha c hc => by rw [List.mem_singleton.mp hc]; rintro rfl; exact nm ha⟩
  · rcases List.mem_append.mp ha with z | z
    · exact fun q => g.dis a z (.inl q)
    · rw [List.mem_singleton.mp z]; exact nb
  · by_cases hn : n < μ.length
    · rw [List.getElem?_append_left hn] at h1
      rw [List.getElem?_append_left (by rw [← g.len]; exact hn)] at h2
      exact (g.obj n a m h1 h2).move kk gg (fun _ _ z => z) rfl
    · have e : n = μ.length := by
        have := (List.getElem?_eq_some_iff.mp h1).1
        simp at this; omega
      subst e
      rw [List.getElem?_append_right (Nat.le_refl _)] at h1
      rw [List.getElem?_append_right (by rw [g.len]; exact Nat.le_refl _)] at h2
      simp at h1
      rw [g.len] at h2
      simp at h2
      subst h1; subst h2
      exact hm
/-- the pairs as they come -/
def PairR (T : Tb) (Cl : Addr → V → Prop) (Φ : Addr → Prop) (μ : List Addr) (H : Hp) (kvs : List (Key × D)) (ps : List (V × V)) : Prop :=
  ∃ vs : List (Key × V), ps = vs.map (fun kv => (kV kv.1, kv.2)) ∧ vs.map Prod.fst = kvs.map Prod.fst ∧ RDs T Cl Φ μ H (kvs.map Prod.snd) (vs.map Prod.snd)
theorem pairs_to {Φ : Addr → Prop} {ρ : Ro} {σ : Slots} : ∀ (kfs : List (Str × EF)) {μ : List Addr} {H : Hp} {G : Sto} {Q : List (V × V) → Hp → Prop}, Rel C T Φ μ H σ ρ G → Out C T W Φ ρ σ (PairR T (C.c ρ σ) Φ) μ H (pairsF kfs ρ G) Q → tPairs (kfs.map fun kf => (tC (.str kf.1), eOf C T W kf.2)) σ H Q
  | [], μ, H, G, Q, r, o => o μ H [] .refl r.g ⟨[], rfl, rfl, .nil⟩
  | (k, f) :: kfs, μ, H, G, Q, r, o => by
    show tC (.str k) σ H _
    refine ⟨Φ, μ, ρ, G, r, o.bind fun v H1 ⟨μ1, G1, d, k1, g1, rd, o1⟩ => ?_⟩
    refine pairs_to kfs (r.later k1 g1) (o1.bind fun ps H2 ⟨μ2, G2, kvs, k2, g2, ⟨vs, e1, e2, rs⟩, o2⟩ => ?_)
    exact o2 μ2 H2 _ .refl g2 ⟨(.inr k, v) :: vs, by rw [e1]; rfl, by rw [List.map_cons, List.map_cons, e2], .cons (rd.keep k2) rs⟩
theorem pairsF_keys : ∀ (kfs : List (Str × EF)) {ρ : Ro} {G G' : Sto} {kvs : List (Key × D)}, pairsF kfs ρ G = .ok kvs G' → kvs.map Prod.fst = kfs.map fun kf => Sum.inr kf.1
  | [], ρ, G, G', kvs, h => by unfold pairsF at h; cases h; rfl
  | (k, f) :: kfs, ρ, G, G', kvs, h => by
    unfold pairsF at h
    cases e : f ρ G with
    | stuck => rw [e] at h; cases h
    | exc x G1 => rw [e] at h; cases h
    | ok d G1 =>
      rw [e] at h
      dsimp only [Res.bind] at h
      cases e2 : pairsF kfs ρ G1 with
      | stuck => rw [e2] at h; cases h
      | exc x G2 => rw [e2] at h; cases h
      | ok ds G2 =>
        rw [e2] at h
        cases h
        rw [List.map_cons, List.map_cons, pairsF_keys kfs e2]
theorem merge_new : ∀ (kvs acc : List (Key × V)), ((acc ++ kvs).map Prod.fst).Nodup → mergeK acc kvs = acc ++ kvs
  | [], acc, _ => by rw [List.append_nil]; rfl
  | p :: kvs, acc, h => by
    have e : putK acc p.1 p.2 = acc ++ [p] := by
      unfold putK
      rw [if_neg]
      intro z
      obtain ⟨q, h1, h2⟩ := List.any_eq_true.mp z
      rw [List.map_append, List.nodup_append] at h
      exact h.2.2 q.1 (List.mem_map_of_mem h1) p.1 (List.mem_map_of_mem (by simp)) (of_decide_eq_true h2)
    show mergeK (putK acc p.1 p.2) kvs = _
    rw [e, merge_new kvs (acc ++ [p]) (by rw [List.append_assoc]; exact h), List.append_assoc]
    rfl
theorem ndup_ok : ∀ {ks : List Str}, ndup ks = true → ks.Nodup
  | [], _ => List.nodup_nil
  | k :: r, h => by
    unfold ndup at h
    rw [Bool.and_eq_true, Bool.not_eq_true'] at h
    refine List.nodup_cons.mpr ⟨fun z => ?_, ndup_ok h.2⟩
    have := List.contains_iff_mem.mpr z
    rw [h.1] at this
    cases this
theorem re_dict {kfs : List (Str × EF)} {keys : List (Option Expr)} {values : List Expr} (h : PPs X pos keys values (kfs.map fun kf => (tC (.str kf.1), eOf C T W kf.2))) (hall : keys.all (·.isSome) = true) (hl : keys.length = values.length) (h0 : keys ≠ [])
    (h15 : keys.length ≤ 15) (hk : kfs.length ≤ 15) (hn : ndup (kfs.map Prod.fst) = true) : PE X (.Dict keys values pos) (eOf C T W (fDict kfs)) := by
  refine peImp (pe_disp h hall hl h0 h15) fun σ H Q ⟨Φ, μ, ρ, G, r, o⟩ => fun p hp => ?_
  have np : ¬ Φ p := fun z => r.g.phi0 z hp
  have r1 : Rel C T (fun a => Φ a ∨ a = p) μ (upd H p (.dK [])) σ ρ G := ⟨r.g.one hp mu_dK, ⟨r.e.len, fun i d h => let ⟨v, h1, h2⟩ := r.e.val i d h; ⟨v, h1, h2.move (keep_one hp) (fun _ _ z => z) fun _ _ z => z⟩⟩, r.k⟩
  refine pairs_to kfs r1 ?_
  unfold fDict at o
  cases e : pairsF kfs ρ G with
  | stuck => rw [e] at o; exact o.elim
  | exc x G1 =>
    rw [e] at o
    intro μ1 H1 cls dx k1 g1 ex
    exact o μ1 H1 cls dx ((le_new (μ := μ) hp).trans k1) (g1.less fun a z => .inl z) (ex.less fun a z => z.imp .inl id)
  | ok kvs G1 =>
    rw [e] at o
    dsimp only [Res.bind] at o
    intro μ1 H1 ps k1 g1 ⟨vs, e1, e2, rs⟩
    have hp1 : H1 p = some (.dK []) := k1.keep p _ upd_same (fun z => r1.g.dis p z (.inr rfl)) nt_dK
    have hkeys := pairsF_keys kfs e
    have hlen : vs.length = kfs.length := by
      have := congrArg List.length (e2.trans hkeys)
      simpa using this
    refine ⟨hp1, vs, e1, by rw [hlen]; exact hk, ?_⟩
    have hnd : (([] ++ vs).map Prod.fst).Nodup := by
      rw [List.nil_append, e2, hkeys]
      have h := ndup_ok hn
      have e : (kfs.map fun kf => (Sum.inr kf.1 : Key)) = (kfs.map Prod.fst).map Sum.inr := by rw [List.map_map]; rfl
      rw [e]
      exact List.Pairwise.map _ (fun a b hab z => hab (Sum.inr.inj z)) h
    rw [merge_new vs [] hnd, List.nil_append]
    have g2 : RG T (C.c ρ σ) (fun a => Φ a ∨ a = p) μ1 (upd H1 p (.dK vs)) G1 := g1.foreign (.inr rfl) hp1 nt_dK dK_noCode mu_dK
    have hq : ∀ {xs : List D} {ws : List V}, RDs T (C.c ρ σ) (fun a => Φ a ∨ a = p) μ1 H1 xs ws → RDs T (C.c ρ σ) Φ (μ1 ++ [p]) (upd H1 p (.dK vs)) xs ws := fun rr =>
      rr.move (fun a u hu nb _ => ⟨by rw [upd_ne (fun z => nb (.inl (.inr z)))]; exact hu, fun z => nb (by
        rcases z with z | z
        · exact .inl (.inl z)
        · rcases List.mem_append.mp z with z | z
          · exact .inr z
          · exact .inl (.inr (List.mem_singleton.mp z)))⟩) (fun n a hn => by rw [List.getElem?_append_left (List.getElem?_eq_some_iff.mp hn).1]; exact hn) fun _ _ z => z
    have g3 : RG T (C.c ρ σ) Φ (μ1 ++ [p]) (upd H1 p (.dK vs)) (G1 ++ [.dK kvs]) := g2.own np ⟨vs, upd_same, e2, hq rs⟩
    have kk : Le μ H (μ1 ++ [p]) (upd H1 p (.dK vs)) := by
      have k2 : Le μ H μ1 H1 := (le_new (μ := μ) hp).trans k1
      have k3 := le_upd (o := .dK vs) k2 hp
      exact ⟨k3.keep, by obtain ⟨l, el⟩ := k3.pre; exact ⟨l ++ [p], by rw [el, List.append_assoc]⟩, fun a ha => by
        rcases List.mem_append.mp ha with z | z
        · exact k3.out a z
        · rw [List.mem_singleton.mp z]; exact .inr hp, k3.there⟩
    refine o _ _ _ kk g3 (.ref ?_)
    rw [← g1.len, List.getElem?_append_right (Nat.le_refl _)]
    simp
/-- {}: 0: it stays so; 1, 2: a new thing of the store (keys, rows as keys) -/
def fDict0 (m : Nat) : EF := fun _ G => match m with
  | 0 => .ok (.p (.dct [])) G
  | 1 => .ok (.ref G.length) (G ++ [.dK []])
  | _ => .ok (.ref G.length) (G ++ [.dT []])
theorem re_dict0 {m : Nat} : PE X (.Dict [] [] pos) (eOf C T W (fDict0 m)) := by
  have le : ∀ {μ : List Addr} {H : Hp} {p : Addr} {o : HO}, H p = none → Le μ H (μ ++ [p]) (upd H p o) := fun {μ H p o} hp => ⟨(le_new (μ := μ) hp).keep, ⟨[p], rfl⟩, fun a ha => by
    rcases List.mem_append.mp ha with z | z
    · exact .inl z
    · rw [List.mem_singleton.mp z]; exact .inr hp, (le_new (μ := μ) hp).there⟩
  unfold fDict0
  split
  · exact peImp pe_dnewK fun σ H Q ⟨Φ, μ, ρ, G, r, o⟩ => fun p hp => o _ _ _ (le_new hp) (r.g.new hp) (.p (.dct (vs := []) upd_same (r.g.bad hp) rfl .nil))
  · refine peImp pe_dnewK fun σ H Q ⟨Φ, μ, ρ, G, r, o⟩ => fun p hp => ?_
    obtain ⟨h1, h2⟩ := r.g.push (mo := .dK []) hp ⟨[], upd_same, rfl, .nil⟩
    exact o _ _ _ h1 h2 (.ref (by rw [← r.g.len, List.getElem?_append_right (Nat.le_refl _)]; simp))
  · refine peImp pe_dnewT fun σ H Q ⟨Φ, μ, ρ, G, r, o⟩ => fun p hp => ?_
    obtain ⟨h1, h2⟩ := r.g.push (mo := .dT []) hp ⟨[], upd_same, rfl, .nil⟩
    exact o _ _ _ h1 h2 (.ref (by rw [← r.g.len, List.getElem?_append_right (Nat.le_refl _)]; simp))
end
end DL

set_option Elab.async false
set_option linter.all false
set_option maxRecDepth 100000
set_option maxHeartbeats 4000000
/-! DL O: instances of own classes: fields are read and stored; an instance is made. -/
namespace DL
open PySem PySem.Spec PyProof.Rows L2

abbrev Ob := Nat → List Str
structure ObOk (T : Tb) (ob : Ob) : Prop where
  ok : ∀ g f, (ob g).contains f = true → Cls T.K (T.ga g) ∧ NoAttr T.K (T.ga g) f
def fldD (ob : Ob) (f : Str) (G : Sto) : D → Option D
  | .p (.obj g fs) => if (ob g).contains f = true then (fs.lookup f).map D.p else none
  | .ref n => match G[n]? with
    | some (.ins g fs) => if (ob g).contains f = true then fs.lookup f else none
    | _ => none
  | _ => none
section
variable {T : Tb} {Cl : Addr → V → Prop} {Φ : Addr → Prop} {μ : List Addr} {H : Hp} {G : Sto} {K : PySem.W.Frag} {ga : Nat → Addr} {B : Addr → Prop}
theorem look_rps {f : Str} {x : P} : ∀ {fs : List (Str × P)} {vs : List (Str × V)}, vs.map Prod.fst = fs.map Prod.fst → RPs K ga B H (fs.map Prod.snd) (vs.map Prod.snd) → fs.lookup f = some x → ∃ v, vs.lookup f = some v ∧ RP K ga B H x v
  | [], _, _, _, h => by cases h
  | (k, y) :: fs, [], e, _, _ => by cases e
  | (k, y) :: fs, (k', v) :: vs, e, r, h => by
    simp only [List.map_cons, List.cons.injEq] at e
    obtain ⟨e1, e2⟩ := e
    subst e1
    cases r with
    | cons r1 r2 =>
      rw [List.lookup_cons] at h ⊢
      cases hb : f == k' with
      | true => rw [hb] at h; cases h; exact ⟨v, rfl, r1⟩
      | false => rw [hb] at h; exact look_rps e2 r2 h
theorem look_rds {f : Str} {x : D} : ∀ {fs : List (Str × D)} {vs : List (Str × V)}, vs.map Prod.fst = fs.map Prod.fst → RDs T Cl Φ μ H (fs.map Prod.snd) (vs.map Prod.snd) → fs.lookup f = some x → ∃ v, vs.lookup f = some v ∧ RD T Cl Φ μ H x v
  | [], _, _, _, h => by cases h
  | (k, y) :: fs, [], e, _, _ => by cases e
  | (k, y) :: fs, (k', v) :: vs, e, r, h => by
    simp only [List.map_cons, List.cons.injEq] at e
    obtain ⟨e1, e2⟩ := e
    subst e1
    cases r with
    | cons r1 r2 =>
      rw [List.lookup_cons] at h ⊢
      cases hb : f == k' with
      | true => rw [hb] at h; cases h; exact ⟨v, rfl, r1⟩
      | false => rw [hb] at h; exact look_rds e2 r2 h
theorem fld_ok {X : Cx} {ob : Ob} {f : Str} (hK : T.K = X.K) (O : ObOk T ob) : UnD X T (fun x H1 Q => ∃ a C dx fs v, x = .ref a ∧ H1 a = some (.ins C dx fs) ∧ Cls X.K C ∧ NoAttr X.K C f ∧ fs.lookup f = some v ∧ Q v H1) (fldD ob f) := by
  intro Cl Φ μ H G x d vx Q g rx e q
  rw [← hK]
  unfold fldD at e
  split at e
  · rename_i gg fs
    split at e
    · rename_i ho
      obtain ⟨y, e1, rfl⟩ := Option.map_eq_some_iff.mp e
      cases rx with
      | p rx => cases rx with
        | @obj a dx _ _ vs h1 nb h2 h3 =>
          obtain ⟨v, h4, h5⟩ := look_rps h2 h3 e1
          exact ⟨a, _, dx, vs, v, rfl, h1, (O.ok _ _ ho).1, (O.ok _ _ ho).2, h4, q μ H v .refl g (.p h5)⟩
    · cases e
  · rename_i n
    split at e
    · rename_i gg fs hn
      split at e
      · rename_i ho
        cases rx with
        | @ref _ a ha =>
          obtain ⟨dx, vs, h1, h2, h3⟩ := g.look ha hn
          obtain ⟨v, h4, h5⟩ := look_rds h2 h3 e
          exact ⟨a, _, dx, vs, v, rfl, h1, (O.ok _ _ ho).1, (O.ok _ _ ho).2, h4, q μ H v .refl g h5⟩
      · cases e
    · cases e
  · cases e
end
section
variable {X : Cx} {C : CF} {T : Tb} {W : WX} {o e : Expr} {fo fe : EF} {f : Str} {pos pos' : Pos} {ob : Ob}
theorem re_fld (hK : T.K = X.K) (O : ObOk T ob) (he : PE X e (eOf C T W fe)) (hb : attributeBase e f X.env (eval e X.env) = eval e X.env) : PE X (.Attribute e f pos) (eOf C T W (f1 (fldD ob f) fe)) :=
  peImp (pe_fld he hb) fun σ H Q hw => eOf_f1 (fld_ok hK O) hw
/-! ### o.f = e -/
def putFA {α : Type} (f : Str) (v : α) : List (Str × α) → List (Str × α)
  | [] => [(f, v)]
  | (g, x) :: r => if g = f then (g, v) :: r else (g, x) :: putFA f v r
theorem putF_A (f : Str) (v : V) : ∀ fs : List (Str × V), putF f v fs = putFA f v fs
  | [] => rfl
  | (g, x) :: r => by
    show (if g = f then (g, v) :: r else (g, x) :: putF f v r) = (if g = f then (g, v) :: r else (g, x) :: putFA f v r)
    rw [putF_A f v r]
theorem putFA_fst {α β : Type} {f : Str} {x : α} {y : β} : ∀ {fs : List (Str × α)} {vs : List (Str × β)}, vs.map Prod.fst = fs.map Prod.fst → (putFA f y vs).map Prod.fst = (putFA f x fs).map Prod.fst
  | [], [], _ => rfl
  | [], _ :: _, e => by cases e
  | _ :: _, [], e => by cases e
  | (k, a) :: fs, (k', b) :: vs, e => by
    simp only [List.map_cons, List.cons.injEq] at e
    obtain ⟨e1, e2⟩ := e
    subst e1
    unfold putFA
    by_cases h : k' = f
    · rw [if_pos h, if_pos h, List.map_cons, List.map_cons, e2]
    · rw [if_neg h, if_neg h, List.map_cons, List.map_cons, putFA_fst e2]
theorem putFA_rds {Cl : Addr → V → Prop} {Φ : Addr → Prop} {μ : List Addr} {H : Hp} {x : D} {y : V} (r : RD T Cl Φ μ H x y) : ∀ {fs : List (Str × D)} {vs : List (Str × V)}, vs.map Prod.fst = fs.map Prod.fst → RDs T Cl Φ μ H (fs.map Prod.snd) (vs.map Prod.snd) →
    RDs T Cl Φ μ H ((putFA f x fs).map Prod.snd) ((putFA f y vs).map Prod.snd)
  | [], [], _, _ => .cons r .nil
  | [], _ :: _, e, _ => by cases e
  | _ :: _, [], e, _ => by cases e
  | (k, a) :: fs, (k', b) :: vs, e, rr => by
    simp only [List.map_cons, List.cons.injEq] at e
    obtain ⟨e1, e2⟩ := e
    subst e1
    cases rr with
    | cons r1 r2 =>
      unfold putFA
      by_cases h : k' = f
      · rw [if_pos h, if_pos h]; exact .cons r r2
      · rw [if_neg h, if_neg h]; exact .cons r1 (putFA_rds r e2 r2)
def setfD (ob : Ob) (f : Str) (G : Sto) (x v : D) : Option Sto := match x with
  | .ref n => match G[n]? with
    | some (.ins g fs) => if (ob g).contains f = true ∧ fs.length < 900 then some (G.set n (.ins g (putFA f v fs))) else none
    | _ => none
  | _ => none
def sSetf (ob : Ob) (f : Str) (fo fv : EF) : SF := fun ρ G => (fv ρ G).st ρ fun v G1 => (fo ρ G1).st ρ fun x G2 => match setfD ob f G2 x v with
  | some G3 => .nx ρ G3
  | none => .stuck
theorem rs_setf (hK : T.K = X.K) (O : ObOk T ob) (ho : PE X o (eOf C T W fo)) (hv : PE X e (eOf C T W fe)) (hs : swapsWith e (some (.Attribute o f pos')) pos.line X.env = pure false) :
    PS X (.Assign [.Attribute o f pos'] e pos) (sOf C T W (sSetf ob f fo fe)) :=
  psImp (ps_fld ho hv hs) fun Dn σ H ⟨Φ, μ, ρ, G, r, o0⟩ => by
    refine ⟨Φ, μ, ρ, G, r, SOut.expr r o0 fun v H1 ⟨μ1, G1, dv, k1, r1, rv, o1⟩ => ?_⟩
    refine ⟨Φ, μ1, ρ, G1, r1, SOut.expr r1 o1 fun x H2 ⟨μ2, G2, dx, k2, r2, rx, o2⟩ => ?_⟩
    cases ed : setfD ob f G2 dx dv with
    | none => rw [ed] at o2; exact o2.elim
    | some G3 =>
      rw [ed] at o2
      unfold setfD at ed
      split at ed
      · rename_i n
        split at ed
        · rename_i g fs hn
          split at ed
          · rename_i hc
            cases ed
            cases rx with
            | @ref _ a ha =>
              obtain ⟨d0, vs, h1, h2, h3⟩ := r2.g.look ha hn
              have mem : a ∈ μ2 := List.mem_of_getElem? ha
              have len : vs.length = fs.length := by have := congrArg List.length h2; simpa using this
              rw [← hK]
              have g4 := r2.g.store (o := .ins (T.ga g) d0 (putF f v vs)) (mo := .ins g (putFA f dv fs)) ha h1 nt_ins ins_noCode ⟨d0, _, upd_same, by rw [putF_A]; exact putFA_fst h2, by rw [putF_A]; exact (putFA_rds (rv.keep k2) h2 h3).move (keep_upd (.inr mem)) (fun _ _ z => z) (fun _ _ z => z)⟩
              exact ⟨a, _, d0, vs, rfl, h1, (O.ok _ _ hc.1).1, (O.ok _ _ hc.1).2, by omega, o2 μ2 _ σ (le_set mem) (r2.stored (.inr mem) g4)⟩
          · cases ed
        · cases ed
      · cases ed
end

/-! ### C(..) -/
def tMakeG (C : Addr) (sp : Sp) (W : WX) (t : TA) : TE := fun σ H Q => t σ H fun vs H1 => ∀ x dx, H1 x = none → H1 dx = none → dx ≠ x → sp (V.ref x :: vs) (upd (upd H1 dx (.own x)) x (.ins C dx [])) (fun v H2 => v = .non ∧ Q (.ref x) H2) (WE W σ)
def fNew (n : Nat) (F : FS) (g : Nat) (f : AF) : EF := fun ρ G => (f ρ G).bind fun ds G1 => if ds.length + 1 = n ∧ ds.all pureArg = true then (match F (.ref 0 :: ds) [.ins g []] with
    | .ok (.p .non) G2 => match freeze G2 (.ref 0) with
      | some x => .ok (.p x) G1
      | none => .stuck
    | .ok _ _ => .stuck
    | .exc x _ => .exc x G1
    | .stuck => .stuck) else .stuck
section
variable {X : Cx} {C : CF} {T : Tb} {W : WX} {k n g : Nat} {a Ca : Addr} {sp : Sp} {x : Str} {p pos : Pos} {e : Expr} {es : List Expr} {t : TA} {ff : AF} {F : FS}
theorem run_makeG {pins : List (Addr × Obj)} {σ : Slots} {H : Hp} {s : Shared} {Q : VK} {us : List Value} {vs : List V} (M : Mk X.K Ca a) (hF : FnG X.prog X.w X.K X.mg X.base k a sp) (hr : Room (k + 1) X.A) (hgd : X.A.guards = some []) (tk : Takes X W) (I : Inv X pins σ H s) (r : Vals vs us)
    (q : ∀ x dx, H x = none → H dx = none → dx ≠ x → sp (V.ref x :: vs) (upd (upd H dx (.own x)) x (.ins Ca dx [])) (fun v H2 => v = .non ∧ Q (.ref x) H2) (WE W σ)) :
    wpAny (model X.prog X.w) X.A (call (.ref Ca) us) (EP X pins σ Q) X.xe s := by
  have q0 := q (s.heap.objs.size + 1) s.heap.objs.size (I.hok.fresh (Nat.le_succ _)) (I.hok.fresh (Nat.le_refl _)) (Nat.ne_of_lt (Nat.lt_succ_self _))
  have J := Inv.made (C := Ca) I
  have rr : Vals (V.ref (s.heap.objs.size + 1) :: vs) (Value.ref (s.heap.objs.size + 1) :: us) := .cons rfl r
  refine wpAny_call (make_map (f := a) I.kIn M.makes M.init (beq_iff_eq.mp M.fn) (codeAny_mono (hF _ X.stack _ _ _ _ _ (WE W σ) (hr.make Ca us []) hgd (J.env0.make Ca us []) rr q0) fun r s' z => ?_))
  cases r with
  | error er => exact passAt tk σ pins _ _ er s' J z
  | ok fl => cases fl with
    | ret u =>
      obtain ⟨v, H', I3, rv, ev, z3⟩ := J.after z
      subst ev
      exact ⟨rv, ⟨V.ref (s.heap.objs.size + 1), H', I3, rfl, z3⟩⟩
    | _ => exact z.elim
theorem pe_makeG (M : Mk X.K Ca a) (hF : FnG X.prog X.w X.K X.mg X.base k a sp) (hr : Room (k + 1) X.A) (hgd : X.A.guards = some []) (tk : Takes X W) (hg : Gl X x) (hm : X.mg x = some (.ref Ca)) (ha : PA X (e :: es) t) (hdb : (x == ("__debug__" : Str)) = false)
    (he : starEach (e :: es) X.env = (false, eval e X.env) :: starEach es X.env) (hpl : (backTo pos (starEach es X.env)).any (·.1) = false) : PE X (.Call (.Name x p) (e :: es) [] pos) (tMakeG Ca sp W t) :=
  ⟨fun pins s σ H Q I h => wpAny_Call_Name_kw (ld_glob I hg hm (PySem.W.callWith_K (h₀ := X.base) I.ok.mod.kin M.kp (thn (ha.run pos pins s σ H _ I h) fun us s1 ⟨vs, H1, I1, r, q⟩ => ⟨I1.kIn, run_makeG M hF hr hgd tk I1 r q⟩) he hpl) hdb)⟩
theorem new_to {σ : Slots} {H : Hp} {Q : VK} (hw : eOf C T W (fNew n F g ff) σ H Q) : tMakeG (T.ga g) (spD T n F) W (aOf C T W ff) σ H Q := by
  obtain ⟨Φ, μ, ρ, G, r, o⟩ := hw
  refine ⟨Φ, μ, ρ, G, r, o.bind fun vs H1 ⟨μ1, G1, ds, k1, g1, rx, o1⟩ x dx hx hdx hne => ?_⟩
  split at o1
  case isFalse => exact o1.elim
  rename_i hc
  have e1 : RG T NoC (Bad Φ μ1) [] (upd H1 dx (.own x)) [] := g1.enter.new hdx
  have hx2 : upd H1 dx (.own x) x = none := by rw [upd_ne hne.symm]; exact hx
  have mo : MoR T NoC (Bad Φ μ1) ([] ++ [x]) (upd (upd H1 dx (.own x)) x (.ins (T.ga g) dx [])) x (.ins g []) := ⟨dx, [], upd_same, rfl, .nil⟩
  obtain ⟨l2, g2⟩ := e1.push hx2 mo
  have l1 : Le [] H1 [] (upd H1 dx (.own x)) := le_new hdx
  have l3 : Le [] H1 [x] (upd (upd H1 dx (.own x)) x (.ins (T.ga g) dx [])) := l1.trans l2
  refine ⟨by rw [List.length_cons, ← rx.length]; exact hc.1, Bad Φ μ1, [x], [.ins g []], .ref 0 :: ds, g2, .cons (.ref rfl) ((rds_pure hc.2 rx).keep l3), ?_⟩
  cases eF : F (.ref 0 :: ds) [.ins g []] with
  | ok d G2 =>
    rw [eF] at o1
    intro μ' H' v kk g' rd
    cases d with
    | p z => cases z with
      | non =>
        cases rd with
        | p rd =>
          cases rd
          refine ⟨rfl, ?_⟩
          dsimp only at o1
          cases ef : freeze G2 (.ref 0) with
          | none => rw [ef] at o1; exact o1.elim
          | some y =>
            rw [ef] at o1
            exact o1 μ1 H' (.ref x) (l3.trans kk).leave (g1.leave (l3.trans kk) g') (.p (freeze_rd g1 (l3.trans kk) g' (.ref (kk.get rfl)) ef))
      | _ => exact o1.elim
    | _ => exact o1.elim
  | exc y G2 =>
    rw [eF] at o1
    intro μ' H' cls d0 kk g' ex
    exact o1 μ1 H' cls d0 (l3.trans kk).leave (g1.leave (l3.trans kk) g') (ex.less fun a z => bad_bad z)
  | stuck => rw [eF] at o1; exact o1.elim
theorem re_new (M : Mk X.K (T.ga g) a) (hF : FnG X.prog X.w X.K X.mg X.base k a (spD T n F)) (hr : Room (k + 1) X.A) (hgd : X.A.guards = some []) (tk : Takes X W) (hg : Gl X x) (hm : X.mg x = some (.ref (T.ga g))) (ha : PA X (e :: es) (aOf C T W ff)) (hdb : (x == ("__debug__" : Str)) = false)
    (he : starEach (e :: es) X.env = (false, eval e X.env) :: starEach es X.env) (hpl : (backTo pos (starEach es X.env)).any (·.1) = false) : PE X (.Call (.Name x p) (e :: es) [] pos) (eOf C T W (fNew n F g ff)) :=
  peImp (pe_makeG M hF hr hgd tk hg hm ha hdb he hpl) fun _ _ _ hw => new_to hw
end
end DL

set_option Elab.async false
set_option linter.all false
set_option maxRecDepth 100000
set_option maxHeartbeats 4000000
/-! DL 10: own errors are made and raised. -/
namespace DL
open PySem PySem.Spec PyProof.Rows L2

/-! ### o.m(..) where the text's lines are plain -/
theorem eval_mcall {o : Expr} {name : Str} {apos pos : Pos} {args : List Expr} {env : Env} (hb : attributeBase o name env (eval o env) = eval o env)
    (hf : methodCallForm (args.length + 0) (backTo pos (starEach args env)) (backToKw pos (keywordEach [] env)) = true) (hl : (apos.endLine == pos.line) = true) :
    eval (.Call (.Attribute o name apos) args [] pos) env = (do
      let ov ← eval o env
      standAt apos.atName
      let (f, first) ← holding [ov] (getMethod ov name (do return (← importBound o env).getD true))
      callWith pos f first (backTo pos (starEach args env)) (backToKw pos (keywordEach [] env))) := by
  have e : eval (.Call (.Attribute o name apos) args [] pos) env = (do
    let ov ← attributeBase o name env (eval o env)
    standAt apos.atName
    methodCall o name apos pos env ov (args.length + 0) (backTo pos (starEach args env)) (backToKw pos (keywordEach [] env))) := by
    first
    | rfl
    | (unfold eval; rfl)
  rw [e, hb]
  congr 1
  funext ov
  congr 1
  funext _
  unfold methodCall calleeOf methodCallPos
  rw [hf]
  simp only [if_true, Bool.not_true, Bool.false_or, hl, pure_bind]
theorem base_name {x name : Str} {p : Pos} {env : Env} {t : Sem Value} : attributeBase (.Name x p) name env t = t := rfl

/-- what the written part says of the base class F, whose __init__ is that of ValueError -/
structure BaseX (K : PySem.W.Frag) (F : Addr) : Prop where
  hg : PySem.W.specialIn K (.ref F) "__getattribute__" = some (some (.builtin "type.__getattribute__"))
  mc : ∃ mc, PySem.W.readsIn K F mc = true ∧ PySem.W.findCls K (.ref F) mc "__init__" = some (.val (.builtin "ValueError.__init__"))
section
variable {X : Cx} {x : Str} {F : Addr} {e : Expr} {es : List Expr} {ta : TA} {p1 p2 pos : Pos}
/-- F.__init__(self, ..) -/
theorem pe_finit {pl : Sem Bool} (hg : Gl X x) (hm : X.mg x = some (.ref F)) (B : BaseX X.K F) (hdb : (x == ("__debug__" : Str)) = false) (ha : PA X (e :: es) ta)
    (hc : eval (.Call (.Attribute (.Name x p1) "__init__" p2) (e :: es) [] pos) X.env = (do
      let ov ← eval (.Name x p1) X.env
      standAt p2.atName
      let (f, first) ← holding [ov] (getMethod ov "__init__" pl)
      callWith pos f first (backTo pos (starEach (e :: es) X.env)) (backToKw pos (keywordEach [] X.env))))
    (he : starEach (e :: es) X.env = (false, eval e X.env) :: starEach es X.env) (hpl : (backTo pos (starEach es X.env)).any (·.1) = false) :
    PE X (.Call (.Attribute (.Name x p1) "__init__" p2) (e :: es) [] pos) (tVeI X.K ta) := by
  refine ⟨fun pins s σ H Q I h => ?_⟩
  refine PySem.W.methodCall_KW (ld_glob I hg hm ?_ hdb) hc
  obtain ⟨mc, hr, hf⟩ := B.mc
  refine PySem.W.method_cls I.kIn B.hg (PySem.W.cls_value I.kIn hr hf (by decide +kernel) ?_)
  show wpAny _ _ (callWith pos (Value.builtin "ValueError.__init__") [] (backTo pos (starEach (e :: es) X.env)) []) _ _ _
  refine PyProof.Rows.callWith_method1 (thn (ha.run pos pins _ σ H _ (I.tok _) h) fun us s1 ⟨vs, H1, I1, r1, a, C, ws, ev, hl, T, ea, q⟩ => ?_) he hpl
  subst ev
  cases r1 with
  | @cons _ u0 _ ur ra rr =>
    obtain rfl : u0 = Value.ref a := ra
    exact oinit_ok T I1 ea (by rw [← Paired.length rr, sizeLine_eq]; omega) fun s' J => ⟨.non, H1, J, rfl, q⟩
end

/-! ### the body of __init__: self.f = p, .. -/
/-- self's fields, the slots of their values -/
abbrev FPs := List (Str × Nat)
def okFields (N : List Str) (sc : List (Str × NameKind)) : FPs → List Stmt → Bool
  | [], [] => true
  | (f, i) :: r, .Assign [.Attribute (.Name s _) f' _] (.Name x _) _ :: ss => decide (N[0]? = some s) && decide (sc.lookup s = some .local) && decide (f' = f) && decide (N[i]? = some x) && decide (sc.lookup x = some .local) && !(s == ("__debug__" : Str)) && !(s == ("__classdict__" : Str)) && !(x == ("__debug__" : Str)) && !(x == ("__classdict__" : Str)) && okFields N sc r ss
  | _, _ => false
/-- the values of slots -/
def atSlots (σ : Slots) : FPs → List V → Prop
  | [], [] => True
  | (_, i) :: r, y :: ys => σ[i]? = some (some y) ∧ atSlots σ r ys
  | _, _ => False
def fieldsOf (fps : FPs) (ys : List V) (acc : List (Str × V)) : List (Str × V) := ((fps.map Prod.fst).zip ys).reverse ++ acc
theorem fieldsOf_cons (f : Str) (i : Nat) (fps : FPs) (y : V) (ys : List V) (acc : List (Str × V)) : fieldsOf ((f, i) :: fps) (y :: ys) acc = fieldsOf fps ys ((f, y) :: acc) := by
  simp [fieldsOf]
theorem upd_upd {H : Hp} {a : Addr} {o u : HO} : upd (upd H a o) a u = upd H a u := by
  funext b
  by_cases h : b = a
  · rw [h, upd_same, upd_same]
  · rw [upd_ne h, upd_ne h, upd_ne h]
theorem upd_self {H : Hp} {a : Addr} {o : HO} (h : H a = some o) : upd H a o = H := by
  funext b
  by_cases e : b = a
  · rw [e, upd_same, h]
  · rw [upd_ne e]
section
variable {X : Cx}
theorem ost_more {fps : FPs} {body : List Stmt} (hok : okFields X.N X.env.scope.names fps body = true) : PSs X body (fun D σ H => ∃ (a C dx : Addr) (acc : List (Str × V)) (ys : List V), σ[0]? = some (some (.ref a)) ∧ OexC X.K C ∧ (∀ f ∈ fps.map Prod.fst, PySem.W.findIn X.K (.ref C) f = some none) ∧
    dx ≠ a ∧ H a = some (exo a C (some dx)) ∧ H dx = some (exd dx acc) ∧ acc.length + fps.length ≤ 900 ∧ atSlots σ fps ys ∧ D.nx σ (upd H dx (exd dx (fieldsOf fps ys acc)))) := by
  induction fps generalizing body with
  | nil =>
    cases body with
    | cons _ _ => simp [okFields] at hok
    | nil =>
      refine pssImp pss_nil fun D σ H ⟨a, C, dx, acc, ys, _, _, _, _, _, hd, _, hy, q⟩ => ?_
      cases ys with
      | cons _ _ => exact hy.elim
      | nil =>
        have e : upd H dx (exd dx (fieldsOf [] [] acc)) = H := upd_self hd
        rw [e] at q
        exact q
  | cons fi fps ih =>
    obtain ⟨f, i⟩ := fi
    unfold okFields at hok
    split at hok
    · rename_i h; cases h
    · rename_i f0 i0 r s _ f' _ x _ _ ss h
      cases h
      simp only [Bool.and_eq_true, decide_eq_true_eq, Bool.not_eq_true'] at hok
      obtain ⟨⟨⟨⟨⟨⟨⟨⟨⟨h1, h2⟩, h3⟩, h4⟩, h5⟩, h6⟩, h7⟩, h8⟩, h9⟩, h10⟩ := hok
      subst h3
      refine pssImp (pss_cons (ps_ost (pe_var (i := 0) h1 (.inl h2) h6 h7) (pe_var (i := i) h4 (.inl h5) h8 h9) rfl) (ih h10)) fun D σ H ⟨a, C, dx, acc, ys, hs, T, hno, hne, ha, hd, hl, hy, q⟩ => ?_
      cases ys with
      | nil => exact hy.elim
      | cons y ys =>
        refine ⟨y, hy.1, .ref a, hs, a, C, rfl, T, hno _ (by simp), .inr ⟨dx, acc, ha, hd, by simp at hl; omega, ?_⟩⟩
        refine ⟨a, C, dx, (f', y) :: acc, ys, hs, T, fun g hg => hno g (by simp at hg ⊢; exact .inr hg), hne, by rw [upd_ne hne.symm]; exact ha, upd_same, by simp at hl ⊢; omega, hy.2, ?_⟩
        rw [upd_upd, ← fieldsOf_cons f' i]
        exact q
    · cases hok
theorem ost_first {f : Str} {i : Nat} {fps : FPs} {body : List Stmt} (hok : okFields X.N X.env.scope.names ((f, i) :: fps) body = true) : PSs X body (fun D σ H => ∃ (a C : Addr) (ys : List V), σ[0]? = some (some (.ref a)) ∧ OexC X.K C ∧ (∀ g ∈ ((f, i) :: fps).map Prod.fst, PySem.W.findIn X.K (.ref C) g = some none) ∧
    H a = some (exo a C none) ∧ fps.length ≤ 800 ∧ atSlots σ ((f, i) :: fps) ys ∧ ∀ dx, H dx = none → dx ≠ a → D.nx σ (upd (upd H a (exo a C (some dx))) dx (exd dx (fieldsOf ((f, i) :: fps) ys [])))) := by
  unfold okFields at hok
  split at hok
  · rename_i h; cases h
  · rename_i f0 i0 r s _ f' _ x _ _ ss h
    cases h
    simp only [Bool.and_eq_true, decide_eq_true_eq, Bool.not_eq_true'] at hok
    obtain ⟨⟨⟨⟨⟨⟨⟨⟨⟨h1, h2⟩, h3⟩, h4⟩, h5⟩, h6⟩, h7⟩, h8⟩, h9⟩, h10⟩ := hok
    subst h3
    refine pssImp (pss_cons (ps_ost (pe_var (i := 0) h1 (.inl h2) h6 h7) (pe_var (i := i) h4 (.inl h5) h8 h9) rfl) (ost_more h10)) fun D σ H ⟨a, C, ys, hs, T, hno, ha, hl, hy, q⟩ => ?_
    cases ys with
    | nil => exact hy.elim
    | cons y ys =>
      refine ⟨y, hy.1, .ref a, hs, a, C, rfl, T, hno _ (by simp), .inl ⟨ha, fun dx hd hne => ?_⟩⟩
      refine ⟨a, C, dx, [(f', y)], ys, hs, T, fun g hg => hno g (by simp at hg ⊢; exact .inr hg), hne, upd_same, by rw [upd_ne hne]; exact upd_same, by simp; omega, hy.2, ?_⟩
      have q := q dx hd hne
      rw [fieldsOf_cons] at q
      have e : upd (upd (upd H dx (exd dx [(f', y)])) a (exo a C (some dx))) dx (exd dx (fieldsOf fps ys [(f', y)])) = upd (upd H a (exo a C (some dx))) dx (exd dx (fieldsOf fps ys [(f', y)])) := by
        funext b
        by_cases hb : b = dx
        · rw [hb, upd_same, upd_same]
        · by_cases hb2 : b = a
          · rw [hb2, upd_ne hne.symm, upd_ne hne.symm, upd_same, upd_same]
          · rw [upd_ne hb, upd_ne hb2, upd_ne hb, upd_ne hb, upd_ne hb2]
      rw [e]
      exact q
  · cases hok
end
/-- __init__ of an own error: the base's, then the fields -/
def okInit (N : List Str) (sc : List (Str × NameKind)) (fps : FPs) : List Stmt → Bool
  | .Expr (.Call (.Attribute (.Name x _) "__init__" ap) [.Name s _, .Constant (.str _) _ _] [] cp) _ :: ss => (ap.endLine == cp.line) && decide (sc.lookup x = some .globalImplicit) && !(x == ("__debug__" : Str)) && decide (N[0]? = some s) && decide (sc.lookup s = some .local) && !(s == ("__debug__" : Str)) && !(s == ("__classdict__" : Str)) && okFields N sc fps ss
  | _ => false
def initBase : List Stmt → Str
  | .Expr (.Call (.Attribute (.Name x _) "__init__" _) [.Name _ _, .Constant (.str _) _ _] [] _) _ :: _ => x
  | _ => ""
def spI (K : PySem.W.Frag) (fs : List Str) : Sp := fun vs H Q _ => vs.length = fs.length + 1 ∧ ∃ (a C : Addr) (ys : List V), vs = .ref a :: ys ∧ OexC K C ∧ (∀ g ∈ fs, PySem.W.findIn K (.ref C) g = some none) ∧ H a = some (exo a C none) ∧
  ∀ dx, H dx = none → dx ≠ a → Q .non (upd (upd H a (exo a C (some dx))) dx (exd dx ((fs.zip ys).reverse)))
theorem at_start {N : List Str} {vs : List V} {i : Nat} {v : V} (h : vs[i]? = some v) : (L2.start N vs)[i]? = some (some v) := by
  unfold L2.start
  have hl : i < vs.length := (List.getElem?_eq_some_iff.mp h).1
  rw [List.getElem?_append_left (by simpa using hl), List.getElem?_map, h]
  rfl
/-- the fields in their places: slot 1, 2, .. -/
def fpsOf (fs : List Str) (n : Nat) : FPs := match fs with
  | [] => []
  | f :: r => (f, n) :: fpsOf r (n + 1)
theorem fpsOf_fst : ∀ (fs : List Str) (n : Nat), (fpsOf fs n).map Prod.fst = fs
  | [], _ => rfl
  | f :: r, n => by
    show f :: (fpsOf r (n + 1)).map Prod.fst = _
    rw [fpsOf_fst r (n + 1)]
theorem fpsOf_len (fs : List Str) (n : Nat) : (fpsOf fs n).length = fs.length := by rw [← List.length_map (f := Prod.fst), fpsOf_fst]
theorem at_fps {N : List Str} {vs : List V} : ∀ (fs : List Str) (n : Nat) (ys : List V), fs.length = ys.length → (∀ (j : Nat) (y : V), ys[j]? = some y → vs[n + j]? = some y) → atSlots (L2.start N vs) (fpsOf fs n) ys
  | [], _, [], _, _ => trivial
  | f :: r, n, y :: ys, hl, h => ⟨at_start (by have := h 0 y rfl; simpa using this), at_fps r (n + 1) ys (by simpa using hl) fun j z hz => by
    have := h (j + 1) z (by simpa using hz)
    rwa [show n + (j + 1) = n + 1 + j by omega] at this⟩
  | [], _, _ :: _, hl, _ => by simp at hl
  | _ :: _, _, [], hl, _ => by simp at hl
theorem init_fn {P : Program} {w : World} {K : PySem.W.Frag} {mg : Str → Option Value} {base : Heap} {f F : Addr} {name qual : Str} {params : Arguments} {body : List Stmt} {scope : Scope} {dV kV doc pm cdv ct oc : Value} {an od : Option Addr}
    {osl : Array (Option Value)} {N ps fs : List Str} {g : Str} (lk : K.lookup f = some ⟨oc, od, .func (PySem.W.fnOf name qual params body scope dV kV doc pm an cdv ct), osl⟩) (hcd : PySem.W.codeIn K cdv qual = true) (S : FnScope N ps scope)
    (hps : ps.length = (g :: fs).length + 1) (hok : okInit N scope.names (fpsOf (g :: fs) 1) body = true) (hb : mg (initBase body) = some (.ref F)) (B : BaseX K F) (hfs : fs.length ≤ 800) :
    FnOk P w K mg base (L2.CX P w) 1 f (PySem.W.fnOf name qual params body scope dV kV doc pm an cdv ct) ps (spI K (g :: fs)) := by
  refine fn_of lk hcd S (fun vs H Q E h => by rw [h.1, hps]) fun A outer s H vs Q E hr hsp => ?_
  obtain ⟨hvl, a, C, ys, ev, T, hno, ha, q⟩ := hsp
  subst ev
  unfold okInit at hok
  split at hok
  · rename_i x p1 p2 sf p3 str j p4 pos pos2 ss
    simp only [Bool.and_eq_true, decide_eq_true_eq, Bool.not_eq_true'] at hok
    obtain ⟨⟨⟨⟨⟨⟨⟨h0, h1⟩, h2⟩, h3⟩, h4⟩, h5⟩, h6⟩, h7⟩ := hok
    have hm : mg x = some (.ref F) := hb
    have hyl : ys.length = (g :: fs).length := by simpa using hvl
    refine ⟨_, pss_cons (ps_expr (pe_finit h1 hm B h2 (pa_cons (pe_var (i := 0) h3 (.inl h4) h5 h6) (pa_cons pe_str pa_nil rfl) rfl) (eval_mcall base_name rfl h0) rfl rfl) rfl) (ost_first (X := cx P w K mg base N qual scope f cdv A outer s H E) (f := g) (i := 1) (fps := fpsOf fs 2) h7), ?_⟩
    have s0 : (L2.start N (.ref a :: ys))[0]? = some (some (.ref a)) := at_start rfl
    refine ⟨.ref a, s0, a, C, [.str str], rfl, by simp, T, ha, ?_⟩
    refine ⟨a, C, ys, s0, T, fun g' hg' => hno g' ?_, ha, by rw [fpsOf_len]; exact hfs, at_fps (g :: fs) 1 ys hyl.symm fun j y hy => by rw [Nat.add_comm]; simpa using hy, fun dx hd hne => ?_⟩
    · have e : ((g, 1) :: fpsOf fs 2).map Prod.fst = g :: fs := fpsOf_fst (g :: fs) 1
      rw [e] at hg'
      exact hg'
    · have e : fieldsOf ((g, 1) :: fpsOf fs 2) ys [] = ((g :: fs).zip ys).reverse := by
        unfold fieldsOf
        rw [List.append_nil]
        congr 2
        exact fpsOf_fst (g :: fs) 1
      rw [e]
      exact q dx hd hne
  · cases hok

/-! ### raise C(..) -/
/-- an own error class as a call makes it: its address, its __init__, its fields -/
structure ExcCls (P : Program) (w : World) (K : PySem.W.Frag) (mg : Str → Option Value) (base : Heap) (x : Str) (C : Addr) (fs : List Str) : Prop where
  oex : OexC K C
  hm : mg x = some (.ref C)
  hdb : (x == ("__debug__" : Str)) = false
  no : ∀ g ∈ fs, PySem.W.findIn K (.ref C) g = some none
  init : ∃ (fI : Addr) (fd : FuncData) (ps : List Str), PySem.W.findIn K (.ref C) "__init__" = some (some (.ref fI)) ∧ PySem.W.typeIn K (.ref fI) = some (.type "function") ∧ FnOk P w K mg base (L2.CX P w) 1 fI fd ps (spI K fs) ∧ Binds K fd ps []
def sRaise (g : Nat) (fs : List Str) (ff : AF) : SF := fun ρ G => (ff ρ G).st ρ fun ds G1 => match allP ds with
  | some xs => if xs.length = fs.length ∧ xs.length ≤ 1000 then .exc ⟨g, (fs.zip xs).reverse⟩ ρ G1 else .stuck
  | none => .stuck
section
variable {X : Cx} {C : CF} {T : Tb} {W : WX} {x : Str} {g : Nat} {fs : List Str} {e : Expr} {es : List Expr} {ff : AF} {p pos pos' : Pos}
theorem RPs.rev {K : PySem.W.Frag} {ga : Nat → Addr} {B : Addr → Prop} {H : Hp} {xs : List P} {vs : List V} (r : RPs K ga B H xs vs) : RPs K ga B H xs.reverse vs.reverse := r.reverse
theorem passes_none {X : Cx} : Passes (L2.CX X.prog X.w) X (fun _ _ _ => False) := fun _ _ _ _ _ _ _ ⟨_, _, _, _, _, _, _, _, _, _, _, _, z⟩ => z.elim
theorem rs_raise (hc : X.calm = true) (tk : Takes X W) (hr : Room 2 X.A) (E : ExcCls X.prog X.w X.K X.mg X.base x (T.ga g) fs) (hg : Gl X x) (ha : PA X (e :: es) (aOf C T W ff))
    (he : starEach (e :: es) X.env = (false, eval e X.env) :: starEach es X.env) (hpl : (backTo pos (starEach es X.env)).any (·.1) = false) :
    PS X (.Raise (some (.Call (.Name x p) (e :: es) [] pos)) none pos') (sOf C T W (sRaise g fs ff)) := by
  obtain ⟨fI, fd, ps, iC, tI, F1, hb⟩ := E.init
  refine psImp (ps_raise hc tk (pmk_oex E.oex iC tI F1 hr hb .nil passes_none hg E.hm ha E.hdb he hpl)) fun Dn σ H ⟨Φ, μ, ρ, G, r, o⟩ => ?_
  refine ⟨Φ, μ, ρ, G, r, SOut.expr r o fun vs H1 ⟨μ1, G1, ds, k1, r1, rx, o1⟩ => ?_⟩
  cases ed : allP ds with
  | none => rw [ed] at o1; exact o1.elim
  | some xs =>
    rw [ed] at o1
    dsimp only at o1
    split at o1
    case isFalse => exact o1.elim
    rename_i hl
    have hvl : vs.length = xs.length := by rw [← rx.length, allP_len ed]
    refine ⟨by omega, fun a ha => ⟨by simp [hvl, hl.1], a, T.ga g, vs, by simp, E.oex, E.no, upd_same, fun dx hd hne => ⟨rfl, dx, (fs.zip vs).reverse, ?_, upd_same, ?_, ?_⟩⟩⟩
    · rw [upd_ne hne.symm, upd_same]
    · rw [upd_ne hne] at hd; exact hd
    · have hd' : H1 dx = none := by rw [upd_ne hne] at hd; exact hd
      have eH : upd (del (upd (upd (upd H1 a (exo a (T.ga g) none)) a (exo a (T.ga g) (some dx))) dx (exd dx (fs.zip vs).reverse)) a) dx (.xd (fs.zip vs).reverse) = upd H1 dx (.xd (fs.zip vs).reverse) := by
        funext b
        by_cases hb : b = dx
        · rw [hb, upd_same, upd_same]
        · rw [upd_ne hb, upd_ne hb]
          by_cases hb2 : b = a
          · rw [hb2, del_same, ha]
          · rw [del_ne hb2, upd_ne hb, upd_ne hb2, upd_ne hb2]
      rw [eH]
      have rs := rx
      rw [allP_eq ed] at rs
      have rp := rs.toP
      refine o1 μ1 _ σ _ _ (le_new hd') (r1.later (le_new hd') (r1.g.new hd')) ⟨rfl, .inr ⟨dx, (fs.zip vs).reverse, rfl, upd_same, r1.g.bad hd', ?_, ?_⟩⟩
      · rw [List.map_reverse, List.map_reverse, List.map_fst_zip (by omega), List.map_fst_zip (by omega)]
      · rw [List.map_reverse, List.map_reverse, List.map_snd_zip (by omega), List.map_snd_zip (by omega)]
        exact (rp.keep (le_new (μ := μ1) hd').bad).reverse
end
end DL

set_option Elab.async false
set_option linter.all false
set_option maxRecDepth 100000
set_option maxHeartbeats 4000000
/-! DL 11: try with several 'except C as n'. -/
namespace DL
open PySem PySem.Spec PyProof.Rows L2

/-- the ends behind the suite: n's slot is empty -/
def goneEnds (i : Nat) (D : Ends) : Ends := { nx := fun σ' H' => D.nx (σ'.set i none) H', rt := D.rt, bk := fun σ' H' => D.bk (σ'.set i none) H', ct := fun σ' H' => D.ct (σ'.set i none) H' }
abbrev HSuite := Value × (Addr → Value → Option Addr → TS)
def wHds (K : PySem.W.Frag) (i : Nat) (Wout : WX) (D : Ends) : List HSuite → WX
  | [] => Wout
  | (c, ts) :: r => fun cls d σ H => ∃ b, PySem.W.exmOne K cls c = some b ∧ (b = true → ∀ a, H a = none → ts a cls d (goneEnds i D) (σ.set i (some (.ref a))) H) ∧ (b = false → wHds K i Wout D r cls d σ H)
inductive HdsN (X : Cx) (n : Str) : List ExceptHandler → List HSuite → Prop
  | nil : HdsN X n [] []
  | cons {x : Str} {c : Value} {ts : Addr → Value → Option Addr → TS} {b : Stmt} {bs : List Stmt} {np hp : Pos} {hds : List ExceptHandler} {l : List HSuite} (hc : Names X x c)
      (hsu : ∀ (a : Addr) (oe : Obj) (cls : Value) (d : Option Addr) (pn : List (Addr × Obj)), Zc cls d oe → (∃ vs, oe.data = .fields vs) → PSs (X.suite a ((a, oe) :: pn)) (b :: bs) (ts a cls d)) (r : HdsN X n hds l) :
      HdsN X n (.ExceptHandler (some (.Name x np)) (some n) (b :: bs) hp :: hds) ((c, ts) :: l)
section
variable {X : Cx} {n : Str} {i : Nat} {body : List Stmt} {hd : ExceptHandler} {hds : List ExceptHandler} {l : List HSuite} {pos : Pos} {tb : WX → TS} {Wout : WX}
/-- what a caught exception's state gives -/
theorem caught_apart {B : Heap} {a : Addr} {h : Heap} {o : Obj} {vs : Array Value} {env : Env} {outer : List Env} (hf : env.frame = some env.locals) (ff : h.FunFrames B (env :: outer)) (e : h.get? a = some o) (dd : o.data = .fields vs) : a ≠ env.locals ∧ a ∉ frs outer := by
  have no : a ∉ frs (env :: outer) := by
    intro hm
    obtain ⟨_, o', e', hnf⟩ := ff.mem hm
    rw [e] at e'
    cases e'
    exact hnf _ dd
  refine ⟨fun z => no (List.mem_filterMap.mpr ⟨env, List.mem_cons_self, by rw [hf, z]⟩), fun hm => ?_⟩
  obtain ⟨e2, he, q⟩ := List.mem_filterMap.mp hm
  exact no (List.mem_filterMap.mpr ⟨e2, List.mem_cons_of_mem _ he, q⟩)
theorem ps_try_hds (hs : X.stack = X.env :: X.outer) (hf : X.env.frame = some X.env.locals) (hN : X.N.Nodup) (hi : X.N[i]? = some n) (hln : X.env.kindOf n = some .local) (tk : Takes X Wout)
    (hb : ∀ (W : WX) (pn : List (Addr × Obj)) (xe : Value → Shared → Prop), Takes (X.tr pn xe) W → PassesOwn (model X.prog X.w) X.A X.env xe → PSs (X.tr pn xe) body (tb W)) (hh : HdsN X n (hd :: hds) l) :
    PS X (.Try body (hd :: hds) [] [] pos) (fun D σ H => tb (wHds X.K i Wout D l) D σ H) := by
  refine ⟨fun pins s σ H D I h => ?_⟩
  have ok := I.ok
  have frames : X.A.frames = some (X.env :: X.outer) := by rw [ok.frames, hs]
  refine wpAny_Try_except (wpAny_mono ((hb (wHds X.K i Wout D l) (X.pn ++ pins) (fun e t1 => wpAny (model X.prog X.w) X.A (noteFrame e X.env) (fun _ t2 => wpAny (model X.prog X.w) X.A (setFlight e none)
    (fun _ t3 => wpAny (model X.prog X.w) X.A (handleBy e X.env (hd :: hds)) (SP X pins D) X.xe t3) X.xe t2) X.xe t1) (fun u s' xx => ?_) PassesOwn.looking).run [] s σ H D (I.toTry _) h) (fun f s1 hsp => ?_) (fun e s1 he => he))
  · obtain ⟨a, B, sI, pins', σ', H', cls, d, rfl, J', nb, up, sky, na, os, ag, w⟩ := xx
    have J : Inv X pins σ' H' sI := J'.ofTry ok
    have skyE : Sky B (X.env :: X.outer) a (Zc cls d) X.env.locals s'.heap := by rw [← hs]; exact sky
    show wpAny (model X.prog X.w) X.A (noteFrame (.ref a) X.env) _ _ _
    refine Sky.land Zc.steady frames hf skyE fun g3 fly upg => ?_
    have J3 : Inv X pins σ' H' { s' with heap := g3 } := J.landed nb fly.1 (up.trans upg) os ag
    obtain ⟨ob3, w3, at3, z3, d3⟩ := fly.there
    obtain ⟨neL, neF⟩ := caught_apart hf fly.2.2.1 at3 d3
    have S3 := J3.suite at3 d3 na neL neF
    have goes : ∀ {hds' : List ExceptHandler} {l' : List HSuite}, HdsN X n hds' l' → wHds X.K i Wout D l' cls d σ' H' → wpAny (model X.prog X.w) X.A (handleBy (.ref a) X.env hds') (SP X pins D) X.xe { s' with heap := g3 } := by
      intro hds' l' hk
      induction hk with
      | nil =>
        intro w
        refine wpAny_handleBy_nil ?_
        obtain ⟨_, _, _, oe, vs, T, _, _, at4, _, d4, h1, _⟩ := id fly
        unfold PySem.passOn
        refine wpAny_bind (wpAny_field at4 d4 h1 ?_)
        rw [if_neg (show ¬ ((Value.ref T == Value.none) = true) from by simp)]
        have last : wpAny (model X.prog X.w) X.A (setFlight (.ref a) X.env.frame) (fun _ s4 => wpAny (model X.prog X.w) X.A (throw (.ref a) : Sem Flow) (SP X pins D) X.xe s4) X.xe { s' with heap := g3 } := by
          rw [hf]
          exact HandSPX.setFlight_upZ fly fun h4 hh4 up4 => wpAny_throw (tk _ _ ⟨a, B, sI, pins, σ', H', cls, d, rfl, J, nb, (up.trans upg).trans up4, .inr (.inr (by rw [hs]; exact hh4)), na, os, ag, w⟩)
        first
          | exact wpAny_bind (wpAny_pure (wpAny_bind last))
          | exact wpAny_bind last
      | @cons x c ts b bs np hp hds2 l2 hc hsu r ih =>
        intro w
        obtain ⟨yes, e1, hyes, hno⟩ := w
        refine wpAny_handleBy_cons (codeAny_handlers_test ?_) (by intro q; cases q)
        have kind : PySem.W.Looks (model X.prog X.w) g3 (typeOf (.ref a)) cls := fun A Q E s k q => wpAny_typeOf_ref (k _ _ at3) (by rw [z3.1]; exact q)
        have match_ := PySem.W.exm_one (M := model X.prog X.w) (J3.kIn) kind e1
        have named : ∀ {Q E : Value → Shared → Prop}, Q c { s' with heap := g3 } → wpAny (model X.prog X.w) (X.A.mark (some (.ref a))) (eval (.Name x np) X.env) Q E { s' with heap := g3 } := by
          intro Q E q
          obtain ⟨hg, hdbg, hm | ⟨hm, hv, hnn⟩⟩ := hc
          · exact ld_glob (X := X.suite a ((a, ob3) :: (X.pn ++ pins))) S3 hg hm q hdbg
          · exact ld_blt (X := X.suite a ((a, ob3) :: (X.pn ++ pins))) S3 hg hm hv q hnn hdbg
        refine named (match_.here ?_)
        cases yes with
        | true =>
          refine codeAny_handlers_suite_as (HandSPX.lands_againZ fly fun h4 fl4 up4 => ?_)
          have J4 : Inv X pins σ' H' { s' with heap := h4 } := J.landed nb fl4.1 ((up.trans upg).trans up4) os ag
          obtain ⟨ob4, w4, at4, z4, d4⟩ := fl4.there
          have S4 := J4.suite at4 d4 na neL neF
          refine store_ok (X := X.suite a ((a, ob4) :: (X.pn ++ pins))) (v := .ref a) S4 hN hi (.inl hln) rfl (fun s5 S5 => ?_) (.inr hln)
          refine wpAny_mono ((hsu a ob4 cls d (X.pn ++ pins) z4 ⟨_, d4⟩).run [] s5 _ H' _ S5 (hyes rfl a na)) (fun f s6 hsp => ?_) (fun _ _ z => False.elim z)
          have go2 : ∀ {σ6 : Slots} {H6 : Hp} {Q : Shared → Prop}, Inv (X.suite a ((a, ob4) :: (X.pn ++ pins))) [] σ6 H6 s6 → (∀ s7, Inv X pins (σ6.set i none) H6 s7 → Q s7) → wpAny (model X.prog X.w) X.A (do bindName X.env n .none; unbindBehindTheSuite X.env n hp) (fun _ s7 => Q s7) X.xe s6 :=
            fun {σ6 H6 Q} S6 hq => gone_ok (S6.unsuite ok) hN hi hln hq
          cases f with
          | ret u => obtain ⟨v6, σ6, H6, S6, r6, q6⟩ := hsp; exact go2 S6 fun s7 J7 => ⟨_, _, _, J7, r6, q6⟩
          | next => obtain ⟨σ6, H6, S6, q6⟩ := hsp; exact go2 S6 fun s7 J7 => ⟨_, _, J7, q6⟩
          | brk => obtain ⟨σ6, H6, S6, q6⟩ := hsp; exact go2 S6 fun s7 J7 => ⟨_, _, J7, q6⟩
          | cont => obtain ⟨σ6, H6, S6, q6⟩ := hsp; exact go2 S6 fun s7 J7 => ⟨_, _, J7, q6⟩
        | false =>
          show wpAny _ X.A (handleBy (.ref a) X.env hds2) _ _ _
          exact ih (hno rfl)
    exact goes hh w
  · cases f with
    | ret u => obtain ⟨v, σ', H', K', r, q⟩ := hsp; exact ⟨v, σ', H', K'.ofTry ok, r, q⟩
    | next => obtain ⟨σ', H', K', q⟩ := hsp; exact wpAny_execs_nil ⟨σ', H', K'.ofTry ok, q⟩
    | brk => obtain ⟨σ', H', K', q⟩ := hsp; exact ⟨σ', H', K'.ofTry ok, q⟩
    | cont => obtain ⟨σ', H', K', q⟩ := hsp; exact ⟨σ', H', K'.ofTry ok, q⟩
end
end DL

set_option Elab.async false
set_option linter.all false
set_option maxRecDepth 100000
set_option maxHeartbeats 4000000
/-! DL 12: lambdas without parameters. -/
namespace DL
open PySem PySem.Spec PyProof.Rows L2
open Classical in
/-- the heap without what stands in S; with that again -/
noncomputable def cutH (S : Addr → Prop) (H : Hp) : Hp := fun b => if S b then none else H b
open Classical in
noncomputable def joinH (S : Addr → Prop) (H0 H : Hp) : Hp := fun b => if S b then H0 b else H b
section
variable {S : Addr → Prop} {H H0 H' : Hp} {b : Addr}
theorem cut_in (h : S b) : cutH S H b = none := by unfold cutH; rw [if_pos h]
theorem cut_out (h : ¬ S b) : cutH S H b = H b := by unfold cutH; rw [if_neg h]
theorem cut_some {o : HO} (h : cutH S H b = some o) : ¬ S b ∧ H b = some o := by
  by_cases c : S b
  · rw [cut_in c] at h; cases h
  · rw [cut_out c] at h; exact ⟨c, h⟩
theorem cut_none (h : H b = none) : cutH S H b = none := by
  by_cases c : S b
  · exact cut_in c
  · rw [cut_out c]; exact h
theorem join_in (h : S b) : joinH S H0 H b = H0 b := by unfold joinH; rw [if_pos h]
theorem join_out (h : ¬ S b) : joinH S H0 H b = H b := by unfold joinH; rw [if_neg h]
end
/-- only things whose meaning is their own object are cut -/
def Ext (S : Addr → Prop) (H : Hp) : Prop := ∀ b, S b → ∃ φ, H b = some (.ext φ)
section
variable {P : Program} {w : World} {S : Addr → Prop} {H H0 H' : Hp} {h h' : Heap} {fs : List Addr}
theorem hok_cut (x : HOk P w H h) (e : Ext S H) : HOk P w (cutH S H) h := fun a o ha => by
  obtain ⟨hn, ha⟩ := cut_some ha
  refine (x a o ha).stay (fun b u _ q => q) (fun b hb => ?_) fun b xs hb => ?_
  · rw [cut_out fun z => ?_]; exact hb
    obtain ⟨φ, q⟩ := e b z
    rw [q] at hb; cases hb
  · rw [cut_out fun z => ?_]; exact hb
    obtain ⟨φ, q⟩ := e b z
    rw [q] at hb; cases hb
/-- behind a run over the rest: what was cut stands as it stood -/
theorem join_un (x : HOk P w H h) (e : Ext S H) (nfs : ∀ b, S b → b ∉ fs) (un : Un fs [] (cutH S H) H' h h') (y : HOk P w H' h') : Un fs [] H (joinH S H H') h h' ∧ HOk P w (joinH S H H') h' := by
  have gone : ∀ b, S b → H' b = none ∧ ∀ o, h.get? b = some o → h'.get? b = some o := fun b hb => by
    obtain ⟨φ, q⟩ := e b hb
    obtain ⟨_, ⟨o, ho⟩, _⟩ := (show ObjOk P w H h b (.ext φ) from x b _ q)
    exact ⟨un.free b o ho (cut_in hb) (by simp), fun o h => un.keep b o h (cut_in hb) (nfs b hb) (by simp)⟩
  have nS : ∀ {b : Addr} {o : HO}, H b = some o → (∀ φ, o ≠ .ext φ) → ¬ S b := fun {b o} hb hn z => by
    obtain ⟨φ, q⟩ := e b z
    rw [hb] at q
    exact hn φ (Option.some.inj q)
  have nS' : ∀ {b : Addr} {o : HO}, H' b = some o → ¬ S b := fun {b o} hb z => by rw [(gone b z).1] at hb; cases hb
  refine ⟨⟨fun b o q n => un.keep b o q (cut_none n), fun b o q n => un.slot b o q (cut_none n), fun b o q n hx => ?_, un.there, fun b xs hb => ?_, fun b o u hb => ?_, fun b ps hb => ?_⟩, fun b o hb => ?_⟩
  · by_cases c : S b
    · rw [join_in c]; exact n
    · rw [join_out c]; exact un.free b o q (cut_none n) hx
  · have c := nS hb fun φ z => by cases z
    rw [join_out c]; exact un.tups b xs (by rw [cut_out c]; exact hb)
  · have c := nS hb fun φ z => by cases z
    rw [join_out c]; exact un.frzs b o u (by rw [cut_out c]; exact hb)
  · have c := nS hb fun φ z => by cases z
    rw [join_out c]; exact un.tbls b ps (by rw [cut_out c]; exact hb)
  · by_cases c : S b
    · rw [join_in c] at hb
      obtain ⟨φ, q⟩ := e b c
      rw [q] at hb
      cases hb
      obtain ⟨h1, ⟨o, ho⟩, h3⟩ := (show ObjOk P w H h b (.ext φ) from x b _ q)
      exact ⟨h3 h h' h1 (gone b c).2, ⟨o, (gone b c).2 o ho⟩, h3⟩
    · rw [join_out c] at hb
      refine (y b o hb).stay (fun d u _ q => q) (fun d hd => ?_) fun d xs hd => ?_
      · rw [join_out (nS' hd)]; exact hd
      · rw [join_out (nS' hd)]; exact hd
end

section
variable {P : Program} {w : World} {S : Addr → Prop} {H H' : Hp} {h B h' : Heap} {fs : List Addr}
theorem join_ub (x : HOk P w H h) (e : Ext S H) (nfs : ∀ b, S b → b ∉ fs) (un : UB fs (cutH S H) H' h B h') (y : HOk P w H' B) : UB fs H (joinH S H H') h B h' ∧ HOk P w (joinH S H H') B ∧ ∀ a, B.get? a = none → H' a = none → joinH S H H' a = none := by
  have gone : ∀ b, S b → H' b = none ∧ ∀ o, h.get? b = some o → B.get? b = some o := fun b hb => by
    obtain ⟨φ, q⟩ := e b hb
    obtain ⟨_, ⟨o, ho⟩, _⟩ := (show ObjOk P w H h b (.ext φ) from x b _ q)
    exact ⟨un.free b o ho (cut_in hb), fun o h => un.keep b o h (cut_in hb) (nfs b hb)⟩
  have nS : ∀ {b : Addr} {o : HO}, H b = some o → (∀ φ, o ≠ .ext φ) → ¬ S b := fun {b o} hb hn z => by
    obtain ⟨φ, q⟩ := e b z
    rw [hb] at q
    exact hn φ (Option.some.inj q)
  have nS' : ∀ {b : Addr} {o : HO}, H' b = some o → ¬ S b := fun {b o} hb z => by rw [(gone b z).1] at hb; cases hb
  refine ⟨⟨fun b o q n => un.keep b o q (cut_none n), un.slot, fun b o q n => ?_, un.there, fun b xs hb => ?_, fun b o u hb => ?_, fun b ps hb => ?_⟩, fun b o hb => ?_, fun a ha hn => ?_⟩
  · by_cases c : S b
    · rw [join_in c]; exact n
    · rw [join_out c]; exact un.free b o q (cut_none n)
  · have c := nS hb fun φ z => by cases z
    rw [join_out c]; exact un.tups b xs (by rw [cut_out c]; exact hb)
  · have c := nS hb fun φ z => by cases z
    rw [join_out c]; exact un.frzs b o u (by rw [cut_out c]; exact hb)
  · have c := nS hb fun φ z => by cases z
    rw [join_out c]; exact un.tbls b ps (by rw [cut_out c]; exact hb)
  · by_cases c : S b
    · rw [join_in c] at hb
      obtain ⟨φ, q⟩ := e b c
      rw [q] at hb
      cases hb
      obtain ⟨h1, ⟨o, ho⟩, h3⟩ := (show ObjOk P w H h b (.ext φ) from x b _ q)
      exact ⟨h3 h B h1 (gone b c).2, ⟨o, (gone b c).2 o ho⟩, h3⟩
    · rw [join_out c] at hb
      refine (y b o hb).stay (fun d u _ q => q) (fun d hd => ?_) fun d xs hd => ?_
      · rw [join_out (nS' hd)]; exact hd
      · rw [join_out (nS' hd)]; exact hd
  · by_cases c : S a
    · obtain ⟨φ, q⟩ := e a c
      obtain ⟨_, ⟨o, ho⟩, _⟩ := (show ObjOk P w H h a (.ext φ) from x a _ q)
      have := (gone a c).2 o ho
      rw [ha] at this; cases this
    · rw [join_out c]; exact hn
end

/-! ### pure data, seen over fewer things -/
def PObj : HO → Prop
  | .lst _ => True
  | .tup _ => True
  | .dK _ => True
  | .ins _ _ _ => True
  | _ => False
def KeepP (B : Addr → Prop) (H : Hp) (B' : Addr → Prop) (H' : Hp) : Prop := ∀ a o, H a = some o → ¬ B a → PObj o → H' a = some o ∧ ¬ B' a
section
variable {K : PySem.W.Frag} {ga : Nat → Addr} {B B' : Addr → Prop} {H H' : Hp}
mutual
theorem RP.keepP (k : KeepP B H B' H') : ∀ {x : P} {v : V}, RP K ga B H x v → RP K ga B' H' x v
  | _, _, .non => .non
  | _, _, .bl b => .bl b
  | _, _, .int b => .int b
  | _, _, .str b => .str b
  | _, _, .tup h r => .tup (h.imp (fun h => k _ _ h.1 h.2 trivial) id) (RPs.keepP k r)
  | _, _, .lst h n r => .lst (k _ _ h n trivial).1 (k _ _ h n trivial).2 (RPs.keepP k r)
  | _, _, .dct h n e r => .dct (k _ _ h n trivial).1 (k _ _ h n trivial).2 e (RPs.keepP k r)
  | _, _, .obj h n e r => .obj (k _ _ h n trivial).1 (k _ _ h n trivial).2 e (RPs.keepP k r)
  | _, _, .ty n => .ty n
  | _, _, .glo n => .glo n
theorem RPs.keepP (k : KeepP B H B' H') : ∀ {x : List P} {v : List V}, RPs K ga B H x v → RPs K ga B' H' x v
  | _, _, .nil => .nil
  | _, _, .cons r t => .cons (RP.keepP k r) (RPs.keepP k t)
end
theorem po_ext {o : HO} (h : PObj o) (φ) : o ≠ .ext φ := fun z => by subst z; exact h
end

/-! ### a lambda's body -/
structure LamOk (L : LamD) : Prop where
  kind : L.scope.kind = .function
  co : L.scope.isCoroutine = false
  gen : L.scope.isGenerator = false
  own : ∀ y ∈ L.scope.names, y.2 ≠ .local ∧ y.2 ≠ .cell
  cap : ∀ y, L.scope.names.lookup y = some .free → y ∈ L.free
  fr : ∀ y ∈ L.free, L.scope.names.lookup y = some .free
  nd : L.free.Nodup
  uniq : ∀ y ∈ L.scope.names, L.scope.names.lookup y.1 = some y.2
  bind : ∀ (cl : List (Str × Addr)) (pm cv ctv : Value), bindArgs (PySem.W.kla_fn "<lambda>" L.qual L.params L.body L.scope cl pm cv ctv) ⟨[], []⟩ = pure []
abbrev lamE (L : LamD) (cl : List (Str × Addr)) (lc f c : Addr) : Env := PySem.W.envX L.qual L.scope lc f (.ref c) cl
def lamX (P : Program) (w : World) (K : PySem.W.Frag) (mg : Str → Option Value) (base : Heap) (L : LamD) (cl : List (Str × Addr)) (A : Around) (outer : List Env) (s : Shared) (H : Hp) (E : XK) (f c : Addr) : Cx where
  prog := P
  w := w
  K := K
  mg := mg
  base := base
  A := A.deeper (lamE L cl s.heap.objs.size f c)
  N := L.free
  s_0 := s
  H_0 := H
  env := lamE L cl s.heap.objs.size f c
  outer := outer
  stack := lamE L cl s.heap.objs.size f c :: outer
  ex := []
  fn := fun _ => false
  calm := true
  pn := []
  xe := fun e s' => wpAny (model P w) (A.deeper (lamE L cl s.heap.objs.size f c)) (leaving (lamE L cl s.heap.objs.size f c) e) (fun _ s'' => L2.CX P w outer H s E e s'') (fun e' s'' => L2.CX P w outer H s E e' s'') s'
/-- the cells of a closure -/
def inCl (cl : List (Str × Addr)) : Addr → Prop := fun b => ∃ y, cl.lookup y = some b
section
variable {P : Program} {w : World} {K : PySem.W.Frag} {mg : Str → Option Value} {base : Heap} {L : LamD} {cl : List (Str × Addr)} {A : Around} {outer : List Env} {s : Shared} {HZ : Hp} {E : XK} {f c : Addr} {ws : List V}
theorem lam_inv {h1 : Heap} {tk : Nat} (O : LamOk L) (e0 : Env0 P w K mg base A outer s HZ) (hd : A.handled = none) (hlen : L.free.length = ws.length) (hin : ∀ y b, cl.lookup y = some b → y ∈ L.free) (hinj : ∀ x y b, cl.lookup x = some b → cl.lookup y = some b → x = y)
    (hcell : ∀ (j : Nat) (y : Str) (v : V), L.free[j]? = some y → ws[j]? = some v → ∃ b, cl.lookup y = some b ∧ ∃ (o : Obj) (u : Value), HZ b = some (isO b o) ∧ o.data = .cell (some u) ∧ RelV v u)
    (hns : h1.Ns s.heap.objs.size fun y => ([] : List (Str × Value)).reverse.lookup y) (kp : ∀ b o, s.heap.get? b = some o → h1.get? b = some o) :
    Inv (lamX P w K mg base L cl A outer s (cutH (inCl cl) HZ) E f c) [] (ws.map some) (cutH (inCl cl) HZ) { s with heap := h1, toks := tk } := by
  have look : ∀ {y : Str}, y ∈ L.free → ∃ (j : Nat) (v : V) (b : Addr) (o : Obj) (u : Value), L.free[j]? = some y ∧ ws[j]? = some v ∧ cl.lookup y = some b ∧ HZ b = some (isO b o) ∧ o.data = .cell (some u) ∧ RelV v u ∧ s.heap.get? b = some o := by
    intro y hy
    obtain ⟨j, hj⟩ := List.getElem?_of_mem hy
    have hjl : j < ws.length := by rw [← hlen]; exact (List.getElem?_eq_some_iff.mp hj).1
    obtain ⟨b, h1, o, u, h2, h3, h4⟩ := hcell j y ws[j] hj (List.getElem?_eq_getElem hjl)
    have hok : ObjOk P w HZ s.heap b (isO b o) := e0.hok b _ h2
    exact ⟨j, ws[j], b, o, u, hj, List.getElem?_eq_getElem hjl, h1, h2, h3, h4, hok.1⟩
  have ext : Ext (inCl cl) HZ := fun b ⟨y, hy⟩ => by
    obtain ⟨_, _, b', o, _, _, _, e1, e2, _⟩ := look (hin y b hy)
    rw [hy] at e1
    cases e1
    exact ⟨_, e2⟩
  have noA : ∀ b : Addr, b ∉ (lamX P w K mg base L cl A outer s (cutH (inCl cl) HZ) E f c).ex := fun b z => absurd (show b ∈ ([] : List Addr) from z) (by simp)
  refine ⟨⟨e0.mod, O.kind, rfl, rfl, Nat.le_refl _, hinj, fun y hy => ?_, fun y b z _ => ?_, fun _ => hd, Around.frames_deeper e0.frames, .inr ⟨rfl, rfl⟩, fun b z => absurd z (noA b), fun b o q => ⟨(e0.bs b o q).1, cut_none (e0.bs b o q).2⟩, e0.bsz, fun b _ _ => noA b, fun b z => absurd z (noA b), e0.funs, fun b hb => cut_none (e0.frf b hb)⟩,
    rfl, e0.bare, Un.kept kp, ⟨_, hns, fun i y v q1 q2 q3 => ?_⟩, fun y b hb => ?_, cut_none (e0.hok.fresh (Nat.le_refl _)), fun y b hb => cut_in ⟨y, hb⟩, fun q hq => absurd (show q ∈ ([] : List (Addr × Obj)) ++ [] from hq) (by simp), (hok_cut e0.hok ext).kept kp, ?_⟩
  · have hy : L.scope.names.lookup y = some .cell ∨ L.scope.names.lookup y = some .free := hy
    rcases hy with hy | hy
    · exact absurd rfl (O.own _ (PySem.mem_of_lookup hy)).2
    · obtain ⟨_, _, b, _, _, _, _, e1, _⟩ := look (O.cap y hy)
      exact ⟨b, e1⟩
  · have z : false = true := z
    cases z
  · have q1 : L.free[i]? = some y := q1
    obtain ⟨j, v', b, o, u, e1, e2, e3, e4, e5, e6, e7⟩ := look (List.mem_of_getElem? q1)
    have hij : i = j := by
      obtain ⟨l1, p1⟩ := List.getElem?_eq_some_iff.mp q1
      obtain ⟨l2, p2⟩ := List.getElem?_eq_some_iff.mp e1
      rcases Nat.lt_trichotomy i j with c | c | c
      · exact absurd (by rw [p1, p2]) (List.pairwise_iff_getElem.mp O.nd i j l1 l2 c)
      · exact c
      · exact absurd (by rw [p1, p2]) (List.pairwise_iff_getElem.mp O.nd j i l2 l1 c)
    subst hij
    rw [List.getElem?_map, e2] at q2
    cases q2
    exact ⟨u, e6, .inr ⟨.inr (O.fr y (List.mem_of_getElem? q1)), b, e3, o, kp _ _ e7, e5⟩⟩
  · obtain ⟨_, _, b', o, u, _, _, e1, _, e3, _, e5⟩ := look (hin y b hb)
    have hb : cl.lookup y = some b := hb
    rw [hb] at e1
    cases e1
    exact ⟨_, o, kp _ _ e5, e3⟩
  · show (ws.map some).length = L.free.length
    rw [List.length_map, hlen]
/-- a lambda's promise -/
def LamG (P : Program) (w : World) (K : PySem.W.Frag) (mg : Str → Option Value) (base : Heap) (T : Tb) (k : Nat) (L : LamD) (fb : EF) : Prop :=
  LamOk L ∧ ∀ (cl : List (Str × Addr)) (A : Around) (outer : List Env) (s : Shared) (H : Hp) (E : XK) (f c : Addr), Room k (A.deeper (lamE L cl s.heap.objs.size f c)) → A.guards = some [] →
    PE (lamX P w K mg base L cl A outer s H E f c) L.body (eOf (CX1 (lamX P w K mg base L cl A outer s H E f c)) T (fun cls d _ H => E cls d H) fb)
def lamRun (fb : EF) (cs : List DL.P) : Res D := fb ⟨cs.map fun x => some (.p x), []⟩ []
/-- over the cells that a lambda has captured -/
theorem keepP_cut {B B' : Addr → Prop} {S : Addr → Prop} {H : Hp} (e : Ext S H) (hB : ∀ a, B' a → B a) : KeepP B H B' (cutH S H) := fun a o h n hp => by
  have c : ¬ S a := fun z => by obtain ⟨φ, q⟩ := e a z; rw [h] at q; exact po_ext hp φ (Option.some.inj q)
  exact ⟨by rw [cut_out c]; exact h, fun z => n (hB a z)⟩
theorem code_cell {h : Heap} {c : Addr} {o : Obj} {u : Option Value} {q : Str} {H : Hp} (x : HOk P w H h) (h1 : H c = some (isO c o)) (hd : o.data = .cell u) (h2 : H c = some (LamX.CodeO c q)) : False := by
  have g1 : ObjOk P w H h c (isO c o) := x c _ h1
  have g2 : ObjOk P w H h c (LamX.CodeO c q) := x c _ h2
  obtain ⟨oc, vs, t, e1, e2, _⟩ := g2.1
  have e3 : h.get? c = some o := g1.1
  rw [e1] at e3
  cases e3
  rw [hd] at e2
  cases e2
theorem tabs_cut {tabs : List (Addr × Str)} {S : Addr → Prop} {H : Hp} {h : Heap} (x : HOk P w H h) (t : LamX.Tabs tabs H) (e : ∀ b, S b → ∃ (o : Obj) (u : Option Value), H b = some (isO b o) ∧ o.data = .cell u) : LamX.Tabs tabs (cutH S H) := fun p hp => by
  obtain ⟨ps, e1, e2, e3⟩ := t p hp
  refine ⟨ps, ?_, e2, fun pos cv hc => ?_⟩
  · rw [cut_out fun z => ?_]; exact e1
    obtain ⟨o, u, q, _⟩ := e _ z
    rw [e1] at q; cases q
  · obtain ⟨c, e4, e5⟩ := e3 pos cv hc
    refine ⟨c, e4, ?_⟩
    rw [cut_out fun z => ?_]; exact e5
    obtain ⟨o, u, q, hd⟩ := e _ z
    exact code_cell x q hd e5
theorem tabs_join {tabs : List (Addr × Str)} {S : Addr → Prop} {H H' : Hp} (t : LamX.Tabs tabs H') (gone : ∀ b, S b → H' b = none) : LamX.Tabs tabs (joinH S H H') := t.ext fun b o h => by
  rw [join_out fun z => ?_]; exact h
  rw [gone b z] at h; cases h
end

/-! ### x(), x a lambda -/
abbrev LR := Nat → List P → Res D
def fAct (i : Nat) (lr : LR) : EF := fun ρ G => if ρ.z.isEmpty then (match ρ.v[i]? with
  | some (some (.lam l cs)) => match lr l cs with
    | .ok d G2 => match freeze G2 d with
      | some x => .ok (.p x) G
      | none => .stuck
    | .exc x _ => .exc x G
    | .stuck => .stuck
  | _ => .stuck) else .stuck
section
variable {T : Tb} {Φ : Addr → Prop} {μ' : List Addr} {B : Addr → Prop} {H H' : Hp}
/-- a function's own things, as what stays: they are none of B -/
theorem freeze_rd2 {d : D} {v : V} {x : P} {G0 G' : Sto} (g0 : RG T NoC B [] H G0) (k : Le [] H μ' H') (g : RG T NoC B μ' H' G') (r : RD T NoC B μ' H' d v) (e : freeze G' d = some x) (hB : ∀ a, B a → H a ≠ none) : RP T.K T.ga B H' x v := by
  have less : ∀ a, B a → Bad B μ' a := fun a z => .inl z
  have fresh : ∀ {n : Nat} {a : Addr}, μ'[n]? = some a → ¬ B a := fun {n a} h z => by
    rcases k.out a (List.mem_of_getElem? h) with y | y
    · cases y
    · exact hB a z y
  cases r with
  | p r => cases e; exact r.less less
  | @ref n a hn =>
    simp only [freeze] at e
    split at e
    · rename_i xs hx
      obtain ⟨ys, e1, e2⟩ := Option.map_eq_some_iff.mp e
      subst e2
      obtain ⟨vs, h1, h2⟩ := g.look hn hx
      rw [allP_eq e1] at h2
      exact .lst h1 (fresh hn) (h2.toP.less less)
    · rename_i kvs hx
      obtain ⟨ys, e1, e2⟩ := Option.map_eq_some_iff.mp e
      subst e2
      obtain ⟨vs, h1, h2, h3⟩ := g.look hn hx
      have hl : ys.length = kvs.length := by rw [allP_len e1, List.length_map]
      rw [allP_eq e1] at h3
      exact .dct h1 (fresh hn) (by rw [h2, zip_fst hl]) (by rw [zip_snd hl]; exact h3.toP.less less)
    · rename_i gg fs hx
      obtain ⟨ys, e1, e2⟩ := Option.map_eq_some_iff.mp e
      subst e2
      obtain ⟨dx, vs, h1, h2, h3⟩ := g.look hn hx
      have hl : ys.length = fs.length := by rw [allP_len e1, List.length_map]
      rw [allP_eq e1] at h3
      exact .obj h1 (fresh hn) (by rw [h2, zip_fst hl]) (by rw [zip_snd hl]; exact h3.toP.less less)
    · cases e
  | _ => cases e
end
section
variable {X : Cx} {C : CF} {T : Tb} {W : WX} {k i : Nat} {a : Str} {lr : LR} {p1 p2 : Pos}
theorem join_keep {S : Addr → Prop} {H H' : Hp} {μ' : List Addr} (e : ∀ b, S b → H b ≠ none) (k : Le [] (cutH S H) μ' H') {μ : List Addr} : Le μ H μ (joinH S H H') :=
  ⟨fun b o h _ t => by
    by_cases c : S b
    · rw [join_in c]; exact h
    · rw [join_out c]; exact k.keep b o (by rw [cut_out c]; exact h) (by simp) t, ⟨[], by simp⟩, fun _ h => .inl h, fun b h => by
    by_cases c : S b
    · rw [join_in c]; exact h
    · rw [join_out c]; exact k.there b (by rw [cut_out c]; exact h)⟩
theorem re_act (hZ : C.Nil) (hL : ∀ l L, T.lam l = some L → ∃ fb, lr l = lamRun fb ∧ LamG X.prog X.w X.K X.mg X.base T k L fb) (hr : Room (k + 1) X.A) (hgd : X.A.guards = some []) (tk : Takes X W) (hN : X.N[i]? = some a) (hv : Vis X.env.scope a)
    (hd : (a == ("__debug__" : Str)) = false) (hcd : (a == ("__classdict__" : Str)) = false) : PE X (.Call (.Name a p1) [] [] p2) (eOf C T W (fAct i lr)) := by
  refine ⟨fun pins s σ H Q I ⟨Φ, μ, ρ, G, r, o⟩ => ?_⟩
  unfold fAct at o
  split at o
  case isFalse => exact o.elim
  rename_i hz
  have eC := hZ ρ σ (List.isEmpty_iff.mp hz)
  split at o
  case h_2 => exact o.elim
  rename_i l cs hi
  obtain ⟨v, hs, rd⟩ := r.e.val i _ hi
  rw [eC] at rd
  have g := r.g
  rw [eC] at g
  cases rd with
  | lam rd =>
    obtain ⟨L, f, c, cl, ws, rfl, hl, hf, nf, hcode, nc, rps, hin, hinj, hlen, hcap⟩ := rd
    obtain ⟨fb, elr, O, body⟩ := hL l L hl
    rw [elr] at o
    refine wpAny_Call_Name_kw (thn ((pe_var (pos := p1) (i := i) hN hv hd hcd).run pins s σ H (fun v H1 => v = .ref f ∧ H1 = H) I ⟨.ref f, hs, rfl, rfl⟩) fun u s1 ⟨v, H1, I1, r1, ev, eH⟩ => ?_)
    subst ev
    rw [eH] at I1
    obtain rfl : u = Value.ref f := r1
    have hof : ObjOk X.prog X.w H s1.heap f (lamO f L cl c) := I1.hok f _ hf
    obtain ⟨pm, ctv, at_f⟩ := hof.1
    refine PySem.W.callWith_F0 ⟨_, _, _, _, at_f⟩ (wpAny_call (codeAny_mono (R := CR (L2.CX X.prog X.w) X.stack X.prog X.w H s1 Q (WE W σ)) ?_ fun r s' hq => ?_))
    case refine_2 =>
      cases r with
      | error e => exact passAt tk σ pins H s1 e s' I1 hq
      | ok fl => cases fl with
        | ret u => exact I1.after hq
        | _ => exact hq.elim
    have hoc : ObjOk X.prog X.w H s1.heap c (LamX.CodeO c L.qual) := I1.hok c _ hcode
    obtain ⟨oc, vs, t, hoc1, hoc2, hoc3⟩ := hoc.1
    have cells : ∀ (j : Nat) (y : Str) (v : V), L.free[j]? = some y → ws[j]? = some v → ∃ b, cl.lookup y = some b ∧ ¬ Bad Φ μ b ∧ ∃ (o : Obj) (u : Value), H b = some (isO b o) ∧ o.data = .cell (some u) ∧ RelV v u := fun j y v h1 h2 => by
      obtain ⟨b, e1, e2⟩ := hcap j y v h1 h2
      rcases e2 with ⟨o, u, q1, q2, q3, q4⟩ | q
      · exact ⟨b, e1, q2, o, u, q1, q3, q4⟩
      · exact q.elim
    have cellS : ∀ b, inCl cl b → ¬ Bad Φ μ b ∧ ∃ (o : Obj) (u : Option Value), H b = some (isO b o) ∧ o.data = .cell u := fun b ⟨y, hy⟩ => by
      obtain ⟨j, hj⟩ := List.getElem?_of_mem (hin y b hy)
      have hjl : j < ws.length := by rw [← hlen]; exact (List.getElem?_eq_some_iff.mp hj).1
      obtain ⟨b', e1, q2, o, u, q1, q3, _⟩ := cells j y _ hj (List.getElem?_eq_getElem hjl)
      rw [hy] at e1
      cases e1
      exact ⟨q2, o, _, q1, q3⟩
    have ext : Ext (inCl cl) H := fun b hb => let ⟨_, o, _, q, _⟩ := cellS b hb; ⟨_, q⟩
    have nofs : ∀ b, inCl cl b → b ∉ frs X.stack := fun b hb z => by
      have := I1.stkFree b z
      obtain ⟨_, o, _, q, _⟩ := cellS b hb
      rw [q] at this; cases this
    have there : ∀ b, inCl cl b → H b ≠ none := fun b hb z => by
      obtain ⟨_, o, _, q, _⟩ := cellS b hb
      rw [q] at z; cases z
    refine PySem.W.kla_callFunE hr.depth at_f rfl O.co O.gen rfl ⟨c, oc, vs, t, rfl, hoc1, hoc2, hoc3⟩ ?_
    show wpAny _ _ (bindArgs (PySem.W.kla_fn "<lambda>" L.qual L.params L.body L.scope cl pm (.ref c) ctv) ⟨[], []⟩) _ _ _
    rw [O.bind]
    refine wpAny_pure (wpAny_newFunctionEnv (fun y hy => (O.own y hy).2) (fun y hy => absurd hy (by simp)) (fun h₁ hns hsb => ⟨I1.nolimit.fresh _ hsb, ?_⟩) O.kind)
    show codeAny _ _ (.expr L.body (lamE L cl s1.heap.objs.size f c)) _ _
    have kp : ∀ b o, s1.heap.get? b = some o → h₁.get? b = some o := fun b o e => hsb.extBut b o (Nat.ne_of_lt (Heap.lt_size e)) (Heap.get?_push_of_some _ e)
    have gc : RG T NoC (Bad Φ μ) [] (cutH (inCl cl) H) [] :=
      ⟨rfl, List.nodup_nil, fun a z => absurd z (by simp), fun a z => by
        rw [cut_out fun y => (cellS a y).1 z]
        exact g.muB z, fun n a mo h => by simp at h, tabs_cut I1.hok g.tabs fun b hb => (cellS b hb).2, fun q hq => (g.con q hq).keepP (keepP_cut ext fun a z => bad_nil z)⟩
    -- what the body has made, ahead of the join
    obtain ⟨EX, hEX⟩ : ∃ EX : XK, EX = fun cls dx H' => ∃ μ' G2 x, lamRun fb cs = .exc x G2 ∧ Le [] (cutH (inCl cl) H) μ' H' ∧ RG T NoC (Bad Φ μ) μ' H' G2 ∧ ExR T (Bad Φ μ) μ' H' x cls dx := ⟨_, rfl⟩
    obtain ⟨QN, hQN⟩ : ∃ QN : VK, QN = fun v H' => ∃ μ' G2 d, lamRun fb cs = .ok d G2 ∧ Le [] (cutH (inCl cl) H) μ' H' ∧ RG T NoC (Bad Φ μ) μ' H' G2 ∧ RD T NoC (Bad Φ μ) μ' H' d v := ⟨_, rfl⟩
    have J : Inv (lamX X.prog X.w X.K X.mg X.base L cl X.A X.stack s1 (cutH (inCl cl) H) EX f c) [] (ws.map some) (cutH (inCl cl) H) { s1 with heap := h₁, toks := s1.toks + ([] : List (Str × Value)).length } :=
      lam_inv O I1.env0 hr.hd hlen hin hinj (fun j y v h1 h2 => let ⟨b, e1, _, o, u, q1, q2, q3⟩ := cells j y v h1 h2; ⟨b, e1, o, u, q1, q2, q3⟩) hns kp
    have pe := body cl X.A X.stack s1 (cutH (inCl cl) H) EX f c (hr.deeper _) hgd
    have eN : (CX1 (lamX X.prog X.w X.K X.mg X.base L cl X.A X.stack s1 (cutH (inCl cl) H) EX f c)).c ⟨cs.map fun x => some (.p x), []⟩ (ws.map some) = NoC := clX_nil rfl
    have rps2 : RPs T.K T.ga (Bad (Bad Φ μ) []) (cutH (inCl cl) H) cs ws := rps.keepP (keepP_cut ext fun a z => bad_nil z)
    have want : eOf (CX1 (lamX X.prog X.w X.K X.mg X.base L cl X.A X.stack s1 (cutH (inCl cl) H) EX f c)) T (fun cls d _ H => EX cls d H) fb (ws.map some) (cutH (inCl cl) H) QN := by
      refine ⟨Bad Φ μ, [], ⟨cs.map fun x => some (.p x), []⟩, [], ⟨by rw [eN]; exact gc, ⟨by simp [rps2.length], fun j d hj => ?_⟩, trivial⟩, ?_⟩
      · rw [eN]
        rw [List.getElem?_map] at hj
        cases e : cs[j]? with
        | none => rw [e] at hj; cases hj
        | some x =>
          rw [e] at hj
          cases hj
          obtain ⟨v, q1, q2⟩ := rps2.get e
          exact ⟨v, by rw [List.getElem?_map, q1]; rfl, .p q2⟩
      · unfold Out
        rw [eN]
        have el : fb ⟨cs.map fun x => some (.p x), []⟩ [] = lamRun fb cs := rfl
        rw [el]
        cases er : lamRun fb cs with
        | ok d G2 => intro μ' H' b k1 g1 r1; rw [hQN]; exact ⟨μ', G2, d, er, k1, g1, r1⟩
        | exc x G2 => intro μ' H' cls dx k1 g1 r1; rw [hEX]; exact ⟨μ', G2, x, er, k1, g1, r1⟩
        | stuck => rw [er] at o; exact o.elim
    have keepJ : ∀ {μ' : List Addr} {H' : Hp}, Le [] (cutH (inCl cl) H) μ' H' → Le μ H μ (joinH (inCl cl) H H') := fun k => join_keep there k
    have rgJ : ∀ {μ' : List Addr} {H' : Hp} {G2 : Sto}, Le [] (cutH (inCl cl) H) μ' H' → RG T NoC (Bad Φ μ) μ' H' G2 → (∀ b, inCl cl b → H' b = none) → RG T NoC Φ μ (joinH (inCl cl) H H') G := fun {μ' H' G2} k g2 gone => by
      refine ⟨g.len, g.nd, g.dis, fun a z => let ⟨o, e, m⟩ := g.phi a z; ⟨o, (keepJ k).keep a o e (fun y => g.dis a y z) m.1, m⟩, fun n a mo h1 h2 => (g.obj n a mo h1 h2).keep (keepJ k) ?_, tabs_join g2.tabs gone, fun q hq => (g.con q hq).keep (keepJ k).bad⟩
      have m := g.obj n a mo h1 h2
      have nS : ¬ inCl cl a := fun z => (cellS a z).1 (.inr (List.mem_of_getElem? h1))
      rw [join_out nS]
      cases hh : H a with
      | none => exact absurd hh m.there
      | some ob => exact k.keep a ob (by rw [cut_out nS]; exact hh) (by simp) fun ps z => m.notTbl (ps := ps) (by rw [hh, z])
    have poJ : ∀ {B B' : Addr → Prop} {H' : Hp}, (∀ b, inCl cl b → H' b = none) → (∀ a, B' a → B a) → KeepP B H' B' (joinH (inCl cl) H H') := fun gone hB a ob h n _ =>
      ⟨(join_out fun z => by rw [gone a z] at h; cases h).trans h, fun z => n (hB a z)⟩
    have nogo : ∀ {H' : Hp} {h' : Heap}, Un (frs X.stack) [] (cutH (inCl cl) H) H' s1.heap h' → ∀ b, inCl cl b → H' b = none := fun {H' h'} un b hb => by
      obtain ⟨_, ob, _, q, _⟩ := cellS b hb
      have z : ObjOk X.prog X.w H s1.heap b (isO b ob) := I1.hok b _ q
      exact un.free b ob z.1 (cut_in hb) (by simp)
    refine PySem.W.kla_codeExpr (wpAny_mono (pe.run [] _ _ _ QN J want) (fun u s' hq => ?_) fun e s' hq => ?_)
    · obtain ⟨v, H', J', rv, q⟩ := hq
      rw [hQN] at q
      obtain ⟨μ', G2, d, er, k1, g1, rd1⟩ := q
      rw [er] at o
      dsimp only at o
      cases ef : freeze G2 d with
      | none => rw [ef] at o; exact o.elim
      | some x =>
        rw [ef] at o
        have un : Un (frs X.stack) [] (cutH (inCl cl) H) H' s1.heap s'.heap := J'.base
        have gone := nogo un
        obtain ⟨un2, hok2⟩ := join_un I1.hok ext nofs un J'.hok
        refine ⟨v, joinH (inCl cl) H H', J'.os, J'.bare, un2, hok2, rv, ?_⟩
        refine o μ _ v (keepJ k1) (by rw [eC]; exact rgJ k1 g1 gone) (.p ?_)
        exact (freeze_rd2 gc k1 g1 rd1 ef fun a h => by
          rw [cut_out fun z => (cellS a z).1 h]
          exact h.elim g.phi0 g.mem).keepP (poJ gone fun a z => z)
    · refine wpAny_mono hq (fun _ s2 hx => ?_) fun _ s2 hx => ?_
      all_goals
        obtain ⟨a, Bh, H', cls, dx, rfl, fl, hok, ub, na, os, ag, hE⟩ := hx
        rw [hEX] at hE
        obtain ⟨μ', G2, x, er, k1, g1, ex⟩ := hE
        rw [er] at o
        have gone : ∀ b, inCl cl b → H' b = none := fun b hb => by
          obtain ⟨_, ob, _, q, _⟩ := cellS b hb
          have z : ObjOk X.prog X.w H s1.heap b (isO b ob) := I1.hok b _ q
          exact ub.free b ob z.1 (cut_in hb)
        obtain ⟨ub2, hok2, na2⟩ := join_ub I1.hok ext nofs ub hok
        refine ⟨a, Bh, joinH (inCl cl) H H', cls, dx, rfl, fl, hok2, ub2, na2 a fl.2.1 na, os, ag, ?_⟩
        refine o μ _ cls dx (keepJ k1) (by rw [eC]; exact rgJ k1 g1 gone) ⟨ex.1, ex.2.imp id fun ⟨d, vs, h1, h2, h3, h4, h5⟩ => ⟨d, vs, h1, ?_, fun z => h3 (bad_bad z), h4, h5.keepP (poJ gone fun a z => bad_bad z)⟩⟩
        rw [join_out fun z => ?_]; exact h2
        rw [gone d z] at h2; cases h2
end
end DL

set_option Elab.async false
set_option linter.all false
set_option maxRecDepth 100000
set_option maxHeartbeats 4000000
/-! DL 13: lambdas are made; handed to a function. -/
namespace DL
open PySem PySem.Spec PyProof.Rows L2

/-! ### made -/
/-- the slots of is are captured from now on -/
def sFrz (is : List Nat) (f : SF) : SF := fun ρ G => f ⟨ρ.v, ρ.z ++ is⟩ G
def capD (ρ : Ro) : List Nat → Option (List P)
  | [] => some []
  | i :: r => match ρ.v[i]? with
    | some (some (.p x)) => if i ∈ ρ.z then (capD ρ r).map (x :: ·) else none
    | _ => none
def fLam (l : Nat) (caps : List Nat) : EF := fun ρ G => match capD ρ caps with
  | some cs => .ok (.lam l cs) G
  | none => .stuck
/-- what must be seen of the text: where the captured names stand -/
def okCaps (N : List Str) (sc : List (Str × NameKind)) : List Nat → List Str → Bool
  | [], [] => true
  | i :: r, y :: ys => decide (N[i]? = some y) && (decide (sc.lookup y = some .cell) || decide (sc.lookup y = some .free)) && okCaps N sc r ys
  | _, _ => false
section
variable {X : Cx} {T : Tb} {W : WX}
theorem clX_more {ρ : Ro} {σ : Slots} {is : List Nat} {c : Addr} {w : V} (h : ClX X ρ σ c w) : ClX X ⟨ρ.v, ρ.z ++ is⟩ σ c w := by
  obtain ⟨i, x, h1, h2⟩ := h
  exact ⟨i, x, List.mem_append_left _ h1, h2⟩
theorem rs_frz {is : List Nat} {st : Stmt} {f : SF} (h : PS X st (sOf (CX1 X) T W f)) : PS X st (sOf (CX1 X) T W (sFrz is f)) :=
  psImp h fun D σ H ⟨Φ, μ, ρ, G, r, o⟩ => ⟨Φ, μ, ⟨ρ.v, ρ.z ++ is⟩, G, ⟨r.g.cells fun _ _ => clX_more, ⟨r.e.len, fun i d hd => let ⟨v, h1, h2⟩ := r.e.val i d hd; ⟨v, h1, h2.cells fun _ _ => clX_more⟩⟩, trivial⟩, o⟩
theorem cap_rd {Φ : Addr → Prop} {μ : List Addr} {H : Hp} {ρ : Ro} {σ : Slots} (r : RE T (ClX X ρ σ) Φ μ H ρ σ) : ∀ {caps : List Nat} {free : List Str} {cs : List P}, capD ρ caps = some cs → okCaps X.N X.env.scope.names caps free = true →
    ∃ ws : List V, RPs T.K T.ga (Bad Φ μ) H cs ws ∧ free.length = ws.length ∧ ∀ (j : Nat) (y : Str) (w : V), free[j]? = some y → ws[j]? = some w → ∃ i, i ∈ ρ.z ∧ X.N[i]? = some y ∧ (X.env.kindOf y = some .cell ∨ X.env.kindOf y = some .free) ∧ σ[i]? = some (some w)
  | [], [], cs, h, _ => by
    unfold capD at h
    cases h
    exact ⟨[], .nil, rfl, fun j y w h => by simp at h⟩
  | [], _ :: _, _, _, k => by simp [okCaps] at k
  | _ :: _, [], _, _, k => by simp [okCaps] at k
  | i :: caps, y :: free, cs, h, k => by
    unfold okCaps at k
    rw [Bool.and_eq_true, Bool.and_eq_true, Bool.or_eq_true] at k
    obtain ⟨⟨k1, k2⟩, k3⟩ := k
    unfold capD at h
    split at h
    · rename_i x hx
      split at h
      · rename_i hz
        obtain ⟨cs', h1, h2⟩ := Option.map_eq_some_iff.mp h
        subst h2
        obtain ⟨ws, r1, r2, r3⟩ := cap_rd r h1 k3
        obtain ⟨v, e1, e2⟩ := r.val i _ hx
        cases e2 with
        | p e2 =>
          refine ⟨v :: ws, .cons e2 r1, by simp [r2], fun j z w q1 q2 => ?_⟩
          cases j with
          | zero =>
            simp at q1 q2
            subst q1; subst q2
            exact ⟨i, hz, of_decide_eq_true k1, k2.imp of_decide_eq_true of_decide_eq_true, e1⟩
          | succ j => exact r3 j z w (by simpa using q1) (by simpa using q2)
      · cases h
    · cases h
theorem lamO_nt {f c : Addr} {L : LamD} {cl : List (Str × Addr)} : NT (lamO f L cl c) := nt_ext
theorem code_ext {c : Addr} {q : Str} : ∃ φ, LamX.CodeO c q = .ext φ := ⟨_, rfl⟩
theorem mo_notExt {Cl : Addr → V → Prop} {Φ : Addr → Prop} {μ : List Addr} {H : Hp} {a : Addr} {mo : MO} (h : MoR T Cl Φ μ H a mo) : H a ≠ none := h.there
/-- from one heap to a later one in which nothing but tables has changed -/
theorem RG.grow {Cl : Addr → V → Prop} {Φ : Addr → Prop} {μ : List Addr} {H H' : Hp} {G : Sto} (g : RG T Cl Φ μ H G) (k : ∀ a o, H a = some o → NT o → H' a = some o) (th : ∀ a, H a ≠ none → H' a ≠ none) (t : LamX.Tabs T.tabs H') : Le μ H μ H' ∧ RG T Cl Φ μ H' G := by
  have le : Le μ H μ H' := ⟨fun a o h _ n => k a o h n, ⟨[], by simp⟩, fun _ h => .inl h, th⟩
  refine ⟨le, g.len, g.nd, g.dis, fun a h => let ⟨o, e, m⟩ := g.phi a h; ⟨o, k a o e m.1, m⟩, fun n a mo h1 h2 => (g.obj n a mo h1 h2).keep le ?_, t, fun q hq => (g.con q hq).keep le.bad⟩
  have m := g.obj n a mo h1 h2
  cases hh : H a with
  | none => exact absurd hh m.there
  | some o => exact k a o hh fun ps z => m.notTbl (ps := ps) (by rw [hh, z])
/-- what the text's lambda is: l's -/
structure LamAt (X : Cx) (T : Tb) (l : Nat) (L : LamD) (params : Arguments) (body : Expr) (scope : Scope) : Prop where
  at_ : T.lam l = some L
  qual : L.qual = X.env.qual ++ "<lambda>"
  par : L.params = params
  body : L.body = body
  scope : L.scope = scope
  ok : LamOk L
  code : ∃ c Pt, X.env.code = .ref c ∧ LamX.TabB X.base X.mg c Pt ∧ (Pt, X.env.qual ++ "<lambda>") ∈ T.tabs ∧ ∀ p ∈ T.tabs, p.1 = Pt → p.2 = X.env.qual ++ "<lambda>"
theorem re_lam {l : Nat} {L : LamD} {caps : List Nat} {params : Arguments} {body : Expr} {scope : Scope} {pos : Pos} (A : LamAt X T l L params body scope) (hdef : defaultsOf params X.env = ([], [])) (hc : okCaps X.N X.env.scope.names caps L.free = true) :
    PE X (.Lambda params body scope pos) (eOf (CX1 X) T W (fLam l caps)) := by
  refine ⟨fun pins s σ H Q I ⟨Φ, μ, ρ, G, r, o⟩ => ?_⟩
  unfold fLam at o
  cases ec : capD ρ caps with
  | none => rw [ec] at o; exact o.elim
  | some cs =>
    rw [ec] at o
    dsimp only at o
    obtain ⟨ws, rps, hlen, hcap⟩ := cap_rd r.e ec hc
    obtain ⟨c, Pt, hcode, TB, hm, hu⟩ := A.code
    obtain ⟨ps, hP, ht, ha⟩ := r.g.tabs _ hm
    obtain ⟨rfl, rfl, rfl⟩ := (⟨A.par, A.body, A.scope⟩ : L.params = params ∧ L.body = body ∧ L.scope = scope)
    have hcells : ∀ y ∈ L.free, ∃ c', X.env.cells.lookup y = some c' := fun y hy => by
      obtain ⟨j, hj⟩ := List.getElem?_of_mem hy
      have hjl : j < ws.length := by rw [← hlen]; exact (List.getElem?_eq_some_iff.mp hj).1
      obtain ⟨i, _, _, k, _⟩ := hcap j y _ hj (List.getElem?_eq_getElem hjl)
      exact I.ok.has y k
    have hfree : ∀ y ∈ L.scope.names, y.2 = .free → ∃ c, X.env.cells.lookup y.1 = some c := fun y hy e => hcells y.1 (A.ok.cap y.1 (by rw [A.ok.uniq y hy, e]))
    -- the closure's cells
    have clo : ∀ {y : Str} {b : Addr}, (cloFrom X.env.cells L.scope.names []).lookup y = some b → y ∈ L.free ∧ X.env.cells.lookup y = some b := fun {y b} h => by
      rcases cloFrom_mem (PySem.mem_of_lookup h) with z | ⟨h1, h2⟩
      · cases z
      · have hl := A.ok.uniq _ h1
        have hf := A.ok.cap y hl
        obtain ⟨c', hc'⟩ := hcells y hf
        exact ⟨hf, hc'.trans (by rw [h2, hc']; rfl)⟩
    have cloH : ∀ y ∈ L.free, ∃ b, (cloFrom X.env.cells L.scope.names []).lookup y = some b := fun y hy => mem_lookup (cloFrom_has (cells := X.env.cells) (acc := []) (PySem.mem_of_lookup (A.ok.fr y hy)))
    -- the end: the function object stands at f over a heap that has grown
    have fin : ∀ (c' : Addr) (ctv pm : Value) (h' : Heap) (tk : Nat) (H1 : Hp), Inv X pins σ H1 { s with heap := h', toks := tk } → (∀ a o, H a = some o → NT o → H1 a = some o) → (∀ a, H a ≠ none → H1 a ≠ none) → LamX.Tabs T.tabs H1 → H1 c' = some (LamX.CodeO c' L.qual) → (H c' = none ∨ ¬ Bad Φ μ c') →
        EP X pins σ Q (.ref h'.objs.size) { s with heap := h'.push (PySem.W.kla_obj "<lambda>" L.qual L.params L.body L.scope (cloFrom X.env.cells L.scope.names []) pm c' ctv), toks := tk } := by
      intro c' ctv pm h' tk H1 I1 k1 th1 t1 hc1 nc
      have hn : H1 h'.objs.size = none := I1.hok.fresh (Nat.le_refl _)
      have atf : (h'.push (PySem.W.kla_obj "<lambda>" L.qual L.params L.body L.scope (cloFrom X.env.cells L.scope.names []) pm c' ctv)).get? h'.objs.size = some (PySem.W.kla_obj "<lambda>" L.qual L.params L.body L.scope (cloFrom X.env.cells L.scope.names []) pm c' ctv) := Heap.get?_push_size _ rfl
      have I2 : Inv X pins σ (upd H1 h'.objs.size (lamO h'.objs.size L (cloFrom X.env.cells L.scope.names []) c')) { s with heap := h'.push (PySem.W.kla_obj "<lambda>" L.qual L.params L.body L.scope (cloFrom X.env.cells L.scope.names []) pm c' ctv), toks := tk } :=
        I1.laid (t' := tk) (fun b o e => Heap.get?_push_of_some _ e) (Nat.le_refl _) ⟨⟨pm, ctv, atf⟩, ⟨_, atf⟩, fun h1 h2 ⟨pm, ctv, q⟩ st => ⟨pm, ctv, st _ q⟩⟩
      obtain ⟨le, g2⟩ := r.g.grow (H' := upd H1 h'.objs.size (lamO h'.objs.size L (cloFrom X.env.cells L.scope.names []) c')) (fun a ob h n => by
        have h1 := k1 a ob h n
        rw [upd_ne (ne_of_none h1 hn)]; exact h1) (fun a h => by
        by_cases e : a = h'.objs.size
        · rw [e, upd_same]; simp
        · rw [upd_ne e]; exact th1 a h) (t1.ext fun b u e => by rw [upd_ne (ne_of_none e hn)]; exact e)
      have nbf : ¬ Bad Φ μ h'.objs.size := fun z => by
        have : H h'.objs.size ≠ none := z.elim r.g.phi0 r.g.mem
        exact th1 _ this hn
      have nbc : ¬ Bad Φ μ c' := nc.elim (fun z => r.g.bad z) id
      refine ⟨.ref h'.objs.size, _, I2, rfl, o μ _ _ le g2 (.lam ⟨L, _, c', _, ws, rfl, A.at_, upd_same, nbf, by rw [upd_ne (ne_of_none hc1 hn)]; exact hc1, nbc, rps.keep le.bad, fun y b h => (clo h).1, fun x y b h1 h2 => I.ok.inj x y b (clo h1).2 (clo h2).2, hlen, fun j y w h1 h2 => ?_⟩)⟩
      obtain ⟨b, hb⟩ := cloH y (List.mem_of_getElem? h1)
      obtain ⟨i, q1, q2, q3, q4⟩ := hcap j y w h1 h2
      exact ⟨b, hb, .inr ⟨i, y, q1, q2, q3, (clo hb).2, q4⟩⟩
    refine PySem.W.kla_eval hdef ?_
    have bP : s.heap.BuiltinsAt X.mg Pt := TB.bm.keeps I.bk
    have hP' : s.heap.get? Pt = some { cls := .none, data := .fields ps } := I.hok Pt _ hP
    rw [← A.qual] at hm hu ha ⊢
    cases hcm : codeAmong pos ps.toList with
    | some cv =>
      obtain ⟨c', e, hco⟩ := ha pos cv hcm
      subst e
      refine PySem.W.kla_makeFunctionHit (mg := X.mg) (c := c) (P := Pt) (ps := ps) (closure_ok hfree) I.ok.glob (I.mod.glob.keeps I.bk) hcode (TB.code.keeps I.bk) hP' ht hcm bP fun ctv h' tk hx hsz => ?_
      refine fin c' ctv _ h' tk H (I.kept hx) (fun _ _ h _ => h) (fun _ h => h) r.g.tabs hco (.inr fun z => ?_)
      obtain ⟨o, e, m⟩ := r.g.muB z
      rw [hco] at e
      cases e
      exact m.2 _ _ rfl
    | none =>
      refine PySem.W.kla_makeFunction (mg := X.mg) (c := c) (P := Pt) (ps := ps) (closure_ok hfree) I.ok.glob (I.mod.glob.keeps I.bk) hcode (TB.code.keeps I.bk) hP' ht hcm TB.gP bP fun c' ctv h' tk hx hge hlt hrec htb => ?_
      obtain ⟨c2, oc, vs, t, e2, hoc, hd, hv⟩ := hrec
      cases e2
      have nC : H c' = none := I.hok.fresh hge
      have I1 := LamX.inv_table (t' := tk) (more := #[rawInt pos.line, rawInt pos.col, .ref c']) (h' := h') I hP hx htb hge ⟨oc, vs, t, hoc, hd, hv⟩
      have kk : ∀ a o, H a = some o → NT o → upd (upd H Pt (.tbl (ps ++ #[rawInt pos.line, rawInt pos.col, .ref c']))) c' (LamX.CodeO c' L.qual) a = some o := fun b ob e n => by
        rw [upd_ne (ne_of_none e nC), upd_ne (fun z => n ps (Option.some.inj (e.symm.trans (by rw [z]; exact hP))))]
        exact e
      have eL : (ps ++ #[rawInt pos.line, rawInt pos.col, .ref c']).toList = ps.toList ++ [rawInt pos.line, rawInt pos.col, .ref c'] := by simp
      refine fin c' ctv _ h' tk _ I1 kk (fun a h => ?_) (fun p hp => ?_) upd_same (.inl nC)
      · by_cases e1 : a = c'
        · rw [e1, upd_same]; simp
        · rw [upd_ne e1]
          by_cases e2 : a = Pt
          · rw [e2, upd_same]; simp
          · rw [upd_ne e2]; exact h
      · by_cases hb : p.1 = Pt
        · rw [hu p hp hb, hb]
          refine ⟨_, by rw [upd_ne (ne_of_none hP nC), upd_same], by rw [eL]; exact PySem.TriplesOk_snoc _ _ _ _ ht, fun p' cv hcv => ?_⟩
          rw [eL] at hcv
          rcases LamX.among_app _ ht hcv with z | z
          · obtain ⟨c0, e1, e2⟩ := ha p' cv z
            exact ⟨c0, e1, kk _ _ e2 nt_ext⟩
          · exact ⟨c', z, upd_same⟩
        · obtain ⟨ps', a1, a2, a3⟩ := r.g.tabs p hp
          refine ⟨ps', by rw [upd_ne (ne_of_none a1 nC), upd_ne hb]; exact a1, a2, fun p' cv hcv => ?_⟩
          obtain ⟨c0, e1, e2⟩ := a3 p' cv hcv
          exact ⟨c0, e1, kk _ _ e2 nt_ext⟩
end

/-! ### handed to a function that tells true or false -/
mutual
def noRef : D → Bool
  | .p _ => true
  | .ref _ => false
  | .tup xs => noRefs xs
  | .lst xs => noRefs xs
  | .lam _ _ => true
  | .scr _ => true
def noRefs : List D → Bool
  | [] => true
  | x :: xs => noRef x && noRefs xs
end
def resA (G : Sto) (d : D) : Option D := if noRef d = true then some d else (match d with
  | .ref n => match G[n]? with
    | some (.lst xs) => if noRefs xs = true then some (.lst xs) else none
    | _ => none
  | _ => none)
def resAs (G : Sto) : List D → Option (List D)
  | [] => some []
  | d :: ds => match resA G d, resAs G ds with
    | some x, some xs => some (x :: xs)
    | _, _ => none
def fLend (n : Nat) (F : FS) (ff : AF) : EF := fun ρ G => (ff ρ G).bind fun ds G1 => match resAs G1 ds with
  | some xs => if xs.length = n then (match F xs [] with
    | .ok (.p (.bl b)) _ => .ok (.p (.bl b)) G1
    | _ => .stuck) else .stuck
  | none => .stuck
open Classical in
/-- with the cells of S as they stand in h -/
noncomputable def lendH (S : Addr → Prop) (h : Heap) (H : Hp) : Hp := fun b => if S b then (h.get? b).map (isO b) else H b
section
variable {S : Addr → Prop} {h : Heap} {H : Hp} {b : Addr}
theorem lend_in {o : Obj} (hs : S b) (e : h.get? b = some o) : lendH S h H b = some (isO b o) := by unfold lendH; rw [if_pos hs, e]; rfl
theorem lend_out (hs : ¬ S b) : lendH S h H b = H b := by unfold lendH; rw [if_neg hs]
theorem Bad0 {a : Addr} : ¬ Bad (fun _ => False) [] a := fun z => z.elim id fun z => by cases z
variable {T : Tb} {Cl : Addr → V → Prop} {Φ : Addr → Prop} {μ : List Addr}
mutual
theorem RD.lend {HL : Hp} (k : ∀ a o, H a = some o → HL a = some o) (hc : ∀ c w, Cl c w → CellR NoC (Bad (fun _ => False) []) HL c w) : ∀ {x : D} {v : V}, noRef x = true → RD T Cl Φ μ H x v → RD T NoC (fun _ => False) [] HL x v
  | _, _, _, .p h => .p (h.keepP fun a o e _ _ => ⟨k a o e, Bad0⟩)
  | _, _, e, .ref _ => by simp [noRef] at e
  | _, _, e, .tup h r => .tup (h.imp (fun h => ⟨k _ _ h.1, Bad0⟩) id) (RDs.lend k hc (by simpa [noRef] using e) r)
  | _, _, e, .lst h n r => .lst (k _ _ h) Bad0 (RDs.lend k hc (by simpa [noRef] using e) r)
  | _, _, _, .scr h => .scr (by
      rcases h with ⟨h, _⟩ | h
      · exact .inl ⟨h.imp (k _ _) fun ⟨o, h⟩ => ⟨o, k _ _ h⟩, Bad0⟩
      · exact .inr h)
  | _, _, _, .lam h => .lam (by
      obtain ⟨L, f, c, cl, ws, e, hl, hf, nf, hcd, nc, r, hin, hinj, hlen, hcap⟩ := h
      refine ⟨L, f, c, cl, ws, e, hl, k _ _ hf, Bad0, k _ _ hcd, Bad0, r.keepP fun a o e _ _ => ⟨k a o e, Bad0⟩, hin, hinj, hlen, fun j y w h1 h2 => ?_⟩
      obtain ⟨c', e1, e2⟩ := hcap j y w h1 h2
      refine ⟨c', e1, ?_⟩
      rcases e2 with ⟨o, u, q1, q2, q3, q4⟩ | q
      · exact .inl ⟨o, u, k _ _ q1, Bad0, q3, q4⟩
      · exact hc _ _ q)
theorem RDs.lend {HL : Hp} (k : ∀ a o, H a = some o → HL a = some o) (hc : ∀ c w, Cl c w → CellR NoC (Bad (fun _ => False) []) HL c w) : ∀ {x : List D} {v : List V}, noRefs x = true → RDs T Cl Φ μ H x v → RDs T NoC (fun _ => False) [] HL x v
  | _, _, _, .nil => .nil
  | _, _, e, .cons r t => by
    simp only [noRefs, Bool.and_eq_true] at e
    exact .cons (RD.lend k hc e.1 r) (RDs.lend k hc e.2 t)
end
theorem resAs_rd {G : Sto} {HL : Hp} (g : RG T Cl Φ μ H G) (k : ∀ a o, H a = some o → HL a = some o) (hc : ∀ c w, Cl c w → CellR NoC (Bad (fun _ => False) []) HL c w) : ∀ {ds xs : List D} {vs : List V}, RDs T Cl Φ μ H ds vs → resAs G ds = some xs → RDs T NoC (fun _ => False) [] HL xs vs
  | _, _, _, .nil, e => by unfold resAs at e; cases e; exact .nil
  | _, _, _, .cons r t, e => by
    unfold resAs at e
    split at e
    · rename_i y ys h1 h2
      cases e
      refine .cons ?_ (resAs_rd g k hc t h2)
      unfold resA at h1
      split at h1
      · rename_i hn
        cases h1
        exact r.lend k hc hn
      · split at h1
        · split at h1
          · rename_i zs hk
            split at h1
            · rename_i hn
              cases h1
              cases r with
              | ref hn2 =>
                obtain ⟨ws, q1, q2⟩ := g.look hn2 hk
                exact .lst (k _ _ q1) Bad0 (q2.lend k hc hn)
            · cases h1
          · cases h1
        · cases h1
    · cases e
end
section
variable {X : Cx} {T : Tb} {W : WX} {k : Nat} {f : Addr} {x : Str} {p pos : Pos} {e : Expr} {es : List Expr} {ff : AF} {n : Nat} {F : FS}
/-- the captured cells of the frame at hand -/
def Lent (X : Cx) (ρ : Ro) (σ : Slots) : Addr → Prop := fun c => ∃ w, ClX X ρ σ c w
theorem re_lend (hfn : ∀ y, X.fn y = true) (hF : FnG X.prog X.w X.K X.mg X.base k f (spD T n F)) (hr : Room k X.A) (hgd : X.A.guards = some []) (hg : Gl X x) (hm : X.mg x = some (.ref f)) (hk : PySem.W.keepIn X.K (.ref f) = true) (ha : PA X (e :: es) (aOf (CX1 X) T W ff)) (hdb : (x == ("__debug__" : Str)) = false)
    (he : starEach (e :: es) X.env = (false, eval e X.env) :: starEach es X.env) (hpl : (backTo pos (starEach es X.env)).any (·.1) = false) : PE X (.Call (.Name x p) (e :: es) [] pos) (eOf (CX1 X) T W (fLend n F ff)) := by
  refine ⟨fun pins s σ H Q I ⟨Φ, μ, ρ, G, r, o⟩ => ?_⟩
  have hargs : aOf (CX1 X) T W ff σ H (fun vs H1 => ∃ μ1 G1 ds xs b, Le μ H μ1 H1 ∧ RG T (ClX X ρ σ) Φ μ1 H1 G1 ∧ RE T (ClX X ρ σ) Φ μ1 H1 ρ σ ∧ RDs T (ClX X ρ σ) Φ μ1 H1 ds vs ∧ resAs G1 ds = some xs ∧ xs.length = n ∧ (∃ G2, F xs [] = .ok (.p (.bl b)) G2) ∧ Out (CX1 X) T W Φ ρ σ (RD T ((CX1 X).c ρ σ) Φ) μ1 H1 (.ok (.p (.bl b)) G1) Q) := by
    refine ⟨Φ, μ, ρ, G, r, o.bind fun vs H1 ⟨μ1, G1, ds, k1, g1, rx, o1⟩ => ?_⟩
    cases ed : resAs G1 ds with
    | none => rw [ed] at o1; exact o1.elim
    | some xs =>
      rw [ed] at o1
      dsimp only at o1
      split at o1
      case isFalse => exact o1.elim
      rename_i hl
      split at o1
      · rename_i b G2 hF
        exact ⟨μ1, G1, ds, xs, b, k1, g1, r.e.keep k1, rx, ed, hl, ⟨G2, hF⟩, o1⟩
      · exact o1.elim
  refine wpAny_Call_Name_kw (ld_glob I hg hm (PySem.W.callWith_K (h₀ := X.base) I.ok.mod.kin hk (thn (ha.run pos pins s σ H _ I hargs) fun us s1 ⟨vs, H1, I1, rv, μ1, G1, ds, xs, b, k1, g1, re1, rds, er, hl, ⟨G2, hFr⟩, o1⟩ => ⟨I1.kIn, ?_⟩) he hpl) hdb)
  -- the lent cells
  have cellS : ∀ c, Lent X ρ σ c → H1 c = none ∧ X.base.get? c = none ∧ c ∉ frs X.stack ∧ ∃ o, s1.heap.get? c = some o ∧ ∃ u, o.data = .cell u := fun c ⟨w, i, y, h1, h2, h3, h4, h5⟩ => by
    have ge := I1.ok.cab y c (hfn y) h4
    have nfs : c ∉ X.fs := fun z => by
      obtain ⟨_, o, ho, _⟩ := I1.ok.funs.mem z
      exact Nat.lt_irrefl _ (Nat.lt_of_lt_of_le (Heap.lt_size ho) ge)
    refine ⟨I1.freeC y c h4, ?_, fun z => ?_, ?_⟩
    · cases hb : X.base.get? c with
      | none => rfl
      | some o => exact absurd (Nat.lt_of_lt_of_le (Heap.lt_size hb) (Nat.le_trans I1.ok.bsz ge)) (Nat.lt_irrefl _)
    · rcases List.mem_cons.mp (I1.stkSub c z) with q | q
      · exact I1.cne y c h4 q
      · exact nfs q
    · obtain ⟨u, o, ho, hd⟩ := I1.cell y c h4
      exact ⟨o, ho, u, hd⟩
  have keepL : ∀ a o, H1 a = some o → lendH (Lent X ρ σ) s1.heap H1 a = some o := fun a o h => by
    rw [lend_out fun z => ?_]; exact h
    rw [(cellS a z).1] at h; cases h
  have cellL : ∀ c w, ClX X ρ σ c w → CellR NoC (Bad (fun _ => False) []) (lendH (Lent X ρ σ) s1.heap H1) c w := fun c w hcw => by
    obtain ⟨i, y, h1, h2, h3, h4, h5⟩ := id hcw
    obtain ⟨m, hn, hlk⟩ := I1.loc
    obtain ⟨u, ru, q⟩ := hlk i y w h2 h5 (h3.elim (fun z => .inr (.inl z)) fun z => .inr (.inr z))
    rcases q with ⟨q, _⟩ | ⟨_, c', e1, o, ho, hd⟩
    · rcases h3 with h3 | h3 <;> rw [h3] at q <;> cases q
    · rw [h4] at e1
      cases e1
      exact .inl ⟨o, u, lend_in ⟨w, hcw⟩ ho, Bad0, hd, ru⟩
  have lent : ∀ a o, lendH (Lent X ρ σ) s1.heap H1 a = some o → (¬ Lent X ρ σ a ∧ H1 a = some o) ∨ (Lent X ρ σ a ∧ ∃ ob, s1.heap.get? a = some ob ∧ o = isO a ob) := fun a o h => by
    by_cases c : Lent X ρ σ a
    · obtain ⟨_, _, _, ob, hob, _⟩ := cellS a c
      rw [lend_in c hob] at h
      cases h
      exact .inr ⟨c, ob, hob, rfl⟩
    · rw [lend_out c] at h
      exact .inl ⟨c, h⟩
  have hokL : HOk X.prog X.w (lendH (Lent X ρ σ) s1.heap H1) s1.heap := fun a o h => by
    rcases lent a o h with ⟨_, h⟩ | ⟨_, ob, hob, rfl⟩
    · exact (I1.hok a o h).stay (fun b u _ q => q) (fun b q => keepL b _ q) fun b xs q => keepL b _ q
    · exact ⟨hob, ⟨ob, hob⟩, fun h1 h2 z st => st _ z⟩
  have e0 := I1.env0
  have e0L : Env0 X.prog X.w X.K X.mg X.base X.A X.stack s1 (lendH (Lent X ρ σ) s1.heap H1) :=
    ⟨e0.frames, e0.mod, fun b o q => ⟨(e0.bs b o q).1, by rw [lend_out fun z => ?_]; exact (e0.bs b o q).2; rw [(cellS b z).2.1] at q; cases q⟩, e0.bsz, e0.funs, fun b hb => by rw [lend_out fun z => (cellS b z).2.2.1 hb]; exact e0.frf b hb, hokL, e0.bare⟩
  have gL : RG T NoC (fun _ => False) [] (lendH (Lent X ρ σ) s1.heap H1) [] :=
    ⟨rfl, List.nodup_nil, fun a z => absurd z (by simp), fun a z => z.elim, fun n a mo h => by simp at h, g1.tabs.ext keepL, fun q hq => (g1.con q hq).keepP fun a o h _ _ => ⟨keepL a o h, Bad0⟩⟩
  have sp : spD T n F vs (lendH (Lent X ρ σ) s1.heap H1) (fun v H' => v = .bl b ∧ ∃ μ' G2, Le [] (lendH (Lent X ρ σ) s1.heap H1) μ' H' ∧ RG T NoC (fun _ => False) μ' H' G2) (fun _ _ _ => False) := by
    have rL := resAs_rd g1 keepL cellL rds er
    refine ⟨by rw [← rL.length]; exact hl, fun _ => False, [], [], xs, gL, rL, ?_⟩
    rw [hFr]
    intro μ' H' v k2 g2 r2
    exact ⟨rd_bl r2, μ', G2, k2, g2⟩
  refine wpAny_call (codeAny_mono (hF X.A X.stack s1 _ us vs _ (fun _ _ _ => False) hr hgd e0L rv sp) fun r s' hq => ?_)
  cases r with
  | error e =>
    obtain ⟨_, _, _, _, _, _, _, _, _, _, _, _, z⟩ := (show L2.CX X.prog X.w X.stack (lendH (Lent X ρ σ) s1.heap H1) s1 (fun _ _ _ => False) e s' from hq)
    exact z.elim
  | ok fl => cases fl with
    | ret u =>
      obtain ⟨v, H2, os, bare, un, hok2, rv2, ev, μ', G3, k2, g2⟩ := hq
      subst ev
      have stayL : ∀ a o, lendH (Lent X ρ σ) s1.heap H1 a = some o → NT o → H2 a = some o := fun a o h t => k2.keep a o h (by simp) t
      have ext2 : ∀ c, Lent X ρ σ c → ∃ ob u, H2 c = some (isO c ob) ∧ s1.heap.get? c = some ob ∧ ob.data = .cell u := fun c hc => by
        obtain ⟨_, _, _, ob, hob, u, hd⟩ := cellS c hc
        exact ⟨ob, u, stayL c _ (lend_in hc hob) nt_ext, hob, hd⟩
      have hok3 : HOk X.prog X.w (cutH (Lent X ρ σ) H2) s'.heap := hok_cut hok2 fun c hc => let ⟨_, _, q, _⟩ := ext2 c hc; ⟨_, q⟩
      have un3 : Un (frs X.stack) [] H1 (cutH (Lent X ρ σ) H2) s1.heap s'.heap := by
        have out : ∀ {b : Addr}, ¬ Lent X ρ σ b → H1 b = none → lendH (Lent X ρ σ) s1.heap H1 b = none := fun c n => by rw [lend_out c]; exact n
        have nl : ∀ {b : Addr} {o : HO}, H1 b = some o → ¬ Lent X ρ σ b := fun h z => by rw [(cellS _ z).1] at h; cases h
        refine ⟨fun b ob q nn hf hx => ?_, fun b ob q nn hf hx => ?_, fun b ob q nn hx => ?_, un.there, fun b ys q => ?_, fun b ob u q => ?_, fun b ps q => ?_⟩
        · by_cases c : Lent X ρ σ b
          · obtain ⟨ob2, u, q1, q2, _⟩ := ext2 b c
            rw [q] at q2
            cases q2
            exact (show ObjOk X.prog X.w H2 s'.heap b (isO b ob) from hok2 b _ q1).1
          · exact un.keep b ob q (out c nn) hf hx
        · exact un.slot b ob q (out (fun c => (cellS b c).2.2.1 hf) nn) hf hx
        · by_cases c : Lent X ρ σ b
          · exact cut_in c
          · rw [cut_out c]; exact un.free b ob q (out c nn) hx
        · rw [cut_out (nl q)]; exact un.tups b ys (keepL b _ q)
        · rw [cut_out (nl q)]; exact un.frzs b ob u (keepL b _ q)
        · rw [cut_out (nl q)]; exact un.tbls b ps (keepL b _ q)
      refine I1.after ⟨.bl b, cutH (Lent X ρ σ) H2, os, bare, un3, hok3, rv2, ?_⟩
      have tabs3 : LamX.Tabs T.tabs (cutH (Lent X ρ σ) H2) := tabs_cut hok2 g2.tabs fun c hc => let ⟨ob, u, q, _, hd⟩ := ext2 c hc; ⟨ob, u, q, hd⟩
      have grow : ∀ a ob, H1 a = some ob → NT ob → cutH (Lent X ρ σ) H2 a = some ob := fun a ob h t => by
        rw [cut_out fun z => ?_]; exact stayL a ob (keepL a ob h) t
        rw [(cellS a z).1] at h; cases h
      obtain ⟨le3, g3⟩ := g1.grow grow (fun a h => by
        have nl : ¬ Lent X ρ σ a := fun z => h (cellS a z).1
        rw [cut_out nl]
        exact k2.there a (by rw [lend_out nl]; exact h)) tabs3
      exact o1 μ1 _ _ le3 g3 (.p (.bl b))
    | _ => exact hq.elim
end
end DL

set_option Elab.async false
set_option linter.all false
set_option maxRecDepth 100000
set_option maxHeartbeats 4000000
/-! DL 14: try: x() / return None / except C as e: return (tag, e.f, ..). -/
namespace DL
open PySem PySem.Spec PyProof.Rows L2

abbrev Exm := Nat → Nat → Option Bool
/-- a clause: its class, the tag, the fields -/
abbrev Cls1 := Nat × Str × List Str
def lookP (f : Str) : List (Str × P) → Option P
  | [] => none
  | (g, x) :: r => if g = f then some x else lookP f r
def fieldsP (x : Exn) : List Str → Option (List P)
  | [] => some []
  | f :: r => match lookP f x.fs, fieldsP x r with
    | some y, some ys => some (y :: ys)
    | _, _ => none
def pickC (exm : Exm) (x : Exn) : List Cls1 → Option P
  | [] => none
  | (g, tag, fs) :: r => match exm x.g g with
    | some true => if x.g = g then (fieldsP x fs).map fun ys => .tup (.str tag :: ys) else none
    | some false => pickC exm x r
    | none => none
def sFault (ia ie : Nat) (lr : LR) (exm : Exm) (cls : List Cls1) : SF := fun ρ G => match fAct ia lr ρ G with
  | .ok _ G1 => .rt (.p .non) ρ G1
  | .exc x G1 => if ie < ρ.v.length then (match pickC exm x cls with
    | some y => .rt (.p y) ρ G1
    | none => .stuck) else .stuck
  | .stuck => .stuck
structure ExmOk (T : Tb) (exm : Exm) : Prop where
  ok : ∀ g c b, exm g c = some b → PySem.W.exmOne T.K (.ref (T.ga g)) (.ref (T.ga c)) = some b
/-- e.f, .. in a suite -/
def okAttrs (e : Str) : List Str → List Expr → Bool
  | [], [] => true
  | f :: r, .Attribute (.Name e' _) f' _ :: es => decide (e' = e) && decide (f' = f) && okAttrs e r es
  | _, _ => false
/-- the clauses of the text -/
def okHds (e : Str) (nm : Nat → Str) : List Cls1 → List ExceptHandler → Bool
  | [], [] => true
  | (g, tag, fs) :: r, .ExceptHandler (some (.Name x _)) (some e') [.Return (some (.Tuple (.Constant (.str t) _ _ :: es) _ _)) _] _ :: hs => decide (x = nm g) && decide (e' = e) && decide (t = tag) && okAttrs e fs es && decide (fs.length ≤ 100) && okHds e nm r hs
  | _, _ => false
section
variable {X : Cx} {T : Tb} {W : WX} {a : Addr} {oe : Obj} {cls : Value} {d : Option Addr} {pn : List (Addr × Obj)} {ie : Nat} {en : Str}
theorem lookP_rd {K : PySem.W.Frag} {ga : Nat → Addr} {B : Addr → Prop} {H : Hp} {f : Str} {y : P} : ∀ {fs : List (Str × P)} {vs : List (Str × V)}, vs.map Prod.fst = fs.map Prod.fst → RPs K ga B H (fs.map Prod.snd) (vs.map Prod.snd) → lookP f fs = some y → ∃ v, vs.lookup f = some v ∧ RP K ga B H y v
  | [], _, _, _, e => by cases e
  | (g, x) :: fs, [], h, _, _ => by simp at h
  | (g, x) :: fs, (g', v) :: vs, h, r, e => by
    simp only [List.map_cons, List.cons.injEq] at h
    obtain ⟨h1, h2⟩ := h
    subst h1
    rw [List.map_cons, List.map_cons] at r
    cases r with
    | cons r1 rr =>
      unfold lookP at e
      split at e
      · rename_i hg
        cases e
        exact ⟨v, by simp [List.lookup, hg], r1⟩
      · rename_i hg
        obtain ⟨w, q1, q2⟩ := lookP_rd h2 rr e
        refine ⟨w, ?_, q2⟩
        have : (f == g') = false := by simpa using fun z => hg z.symm
        simp only [List.lookup, this]
        exact q1
/-- the fields' values, one by one -/
def tFs (cls : Value) (d : Option Addr) (a C : Addr) (ie : Nat) : List Str → TA
  | [] => tNil
  | f :: r => tCons (tXf a cls d C f (tVar ie)) (tFs cls d a C ie r)
theorem pa_attrs {C : Addr} (Tx : XfC X.K C) (hz : Zc cls d oe) (hf : ∃ vs, oe.data = .fields vs) (hN : X.N[ie]? = some en) (hv : Vis X.env.scope en) (h1 : (en == ("__debug__" : Str)) = false) (h2 : (en == ("__classdict__" : Str)) = false) : ∀ {fs : List Str} {es : List Expr}, (∀ f ∈ fs, PySem.W.findIn X.K (.ref C) f = some none) → okAttrs en fs es = true →
    PA (X.suite a ((a, oe) :: pn)) es (tFs cls d a C ie fs)
  | [], [], _, _ => pa_nil
  | [], _ :: _, _, k => by simp [okAttrs] at k
  | f :: fs, es, hno, k => by
    unfold okAttrs at k
    split at k
    · rename_i h; cases h
    · rename_i f0 r e' _ f' _ es' h
      cases h
      rw [Bool.and_eq_true, Bool.and_eq_true] at k
      obtain ⟨⟨k1, k2⟩, k3⟩ := k
      rw [of_decide_eq_true k1, of_decide_eq_true k2]
      exact pa_cons (pe_xf Tx (hno _ (by simp)) hz hf (pe_var (X := X.suite a ((a, oe) :: pn)) hN hv h1 h2) rfl) (pa_attrs Tx hz hf hN hv h1 h2 (fun g hg => hno g (by simp [hg])) k3) rfl
    · cases k
theorem tFs_run {Φ : Addr → Prop} {μ : List Addr} {σ : Slots} {H : Hp} {x : Exn} {vs : List (Str × V)} {dd : Addr} {C : Addr} (hd : H dd = some (.xd vs)) (hn : vs.map Prod.fst = x.fs.map Prod.fst) (hr : RPs T.K T.ga (Bad Φ μ) H (x.fs.map Prod.snd) (vs.map Prod.snd)) (hs : σ[ie]? = some (some (.ref a))) (hc : cls = .ref C) :
    ∀ {fs : List Str} {ys : List P} {Q : List V → Hp → Prop}, fieldsP x fs = some ys → (∀ ws, RPs T.K T.ga (Bad Φ μ) H ys ws → Q ws H) → tFs cls (some dd) a C ie fs σ H Q
  | [], _, Q, e, q => by
    unfold fieldsP at e
    cases e
    exact q [] .nil
  | f :: fs, ys, Q, e, q => by
    unfold fieldsP at e
    split at e
    · rename_i y ys' h1 h2
      cases e
      obtain ⟨v, e1, e2⟩ := lookP_rd hn hr h1
      exact ⟨.ref a, hs, rfl, hc, dd, vs, v, rfl, hd, e1, tFs_run hd hn hr hs hc h2 fun ws rs => q (v :: ws) (.cons e2 rs)⟩
    · cases e
/-- what is asked of the classes of the clauses -/
structure HdC (X : Cx) (T : Tb) (nm : Nat → Str) (c : Cls1) : Prop where
  nmd : Names X (nm c.1) (.ref (T.ga c.1))
  xf : XfC X.K (T.ga c.1)
  no : ∀ f ∈ c.2.2, PySem.W.findIn X.K (.ref (T.ga c.1)) f = some none
def hsuite (T : Tb) (ie : Nat) (c : Cls1) : HSuite := (.ref (T.ga c.1), fun a cls d => fun D σ H => tTup (tCons (tC (.str c.2.1)) (tFs cls d a (T.ga c.1) ie c.2.2)) σ H fun v H' => D.rt v H')
theorem hds_ok {nm : Nat → Str} (hN : X.N[ie]? = some en) (hv : Vis X.env.scope en) (h1 : (en == ("__debug__" : Str)) = false) (h2 : (en == ("__classdict__" : Str)) = false) : ∀ {cs : List Cls1} {hds : List ExceptHandler}, (∀ c ∈ cs, HdC X T nm c) → okHds en nm cs hds = true → HdsN X en hds (cs.map (hsuite T ie))
  | [], [], _, _ => .nil
  | [], _ :: _, _, k => by simp [okHds] at k
  | (g, tag, fs) :: cs, hds, hc, k => by
    unfold okHds at k
    split at k
    · rename_i h; cases h
    · rename_i g0 t0 f0 r x _ e' t _ _ es _ _ _ _ hs h
      cases h
      simp only [Bool.and_eq_true, decide_eq_true_eq] at k
      obtain ⟨⟨⟨⟨⟨k1, k2⟩, k3⟩, k4⟩, k5⟩, k6⟩ := k
      rw [k1, k2, k3]
      have c := hc (g, tag, fs) (by simp)
      refine .cons c.nmd (fun a oe cls d pn hz hf => ?_) (hds_ok hN hv h1 h2 (fun c h => hc c (by simp [h])) k6)
      exact pss_one (ps_ret (pe_tup (pa_cons pe_str (pa_attrs c.xf hz hf hN hv h1 h2 c.no k4) rfl)))
    · cases k
theorem fault_hds {exm : Exm} (hX : ExmOk T exm) (hK : T.K = X.K) {Φ : Addr → Prop} {μ : List Addr} {H : Hp} {σ : Slots} {ρ : Ro} {G : Sto} {x : Exn} {cls : Value} {dx : Option Addr} {D : Ends} {y : P} (hie : ie < σ.length) (r : Rel (CX1 X) T Φ μ H σ ρ G) (ex : ExR T Φ μ H x cls dx) :
    ∀ {cs : List Cls1}, pickC exm x cs = some y → (∀ c ∈ cs, c.2.2.length ≤ 100) → (∀ v H', Le μ H μ H' → RG T (ClX X ρ σ) Φ μ H' G → RD T (ClX X ρ σ) Φ μ H' (.p y) v → D.rt v H') → wHds X.K ie W D (cs.map (hsuite T ie)) cls dx σ H
  | [], e, _, _ => by cases e
  | (g, tag, fs) :: cs, e, hl, q => by
    unfold pickC at e
    split at e
    · rename_i hm
      split at e
      · rename_i hg
        obtain ⟨ys, e1, e2⟩ := Option.map_eq_some_iff.mp e
        subst e2
        refine ⟨true, by rw [← hK, ex.1]; exact hX.ok _ _ _ hm, fun _ a ha => ?_, fun z => by cases z⟩
        show tTup (tCons (tC (.str tag)) (tFs cls dx a (T.ga g) ie fs)) (σ.set ie (some (.ref a))) H _
        have hs : (σ.set ie (some (V.ref a)))[ie]? = some (some (.ref a)) := List.getElem?_set_self hie
        have fin : ∀ ws, RPs T.K T.ga (Bad Φ μ) H ys ws → ws.length ≤ 100 → (V.str tag :: ws).length ≤ sizeLine ∧ ∀ p, H p = none → D.rt (.ref p) (upd H p (.tup (.str tag :: ws))) := fun ws rs hw => by
          refine ⟨by rw [sizeLine_eq]; simp; omega, fun p hp => q _ _ (le_new hp) (r.g.new hp) (.p (.tup (.inl ⟨upd_same, r.g.bad hp⟩) ((RPs.cons (.str tag) rs).keep (le_new (μ := μ) hp).bad)))⟩
        have hlen : ys.length = fs.length := by
          have go : ∀ {fs : List Str} {ys : List P}, fieldsP x fs = some ys → ys.length = fs.length := by
            intro fs
            induction fs with
            | nil => intro ys h; unfold fieldsP at h; cases h; rfl
            | cons f fs ih =>
              intro ys h
              unfold fieldsP at h
              split at h
              · rename_i h1 h2; cases h; rw [List.length_cons, List.length_cons, ih h2]
              · cases h
          exact go e1
        have hl1 : fs.length ≤ 100 := hl (g, tag, fs) (by simp)
        rcases ex.2 with ⟨e3, e4⟩ | ⟨dd, vs, e3, e4, e5, e6, e7⟩
        · cases fs with
          | nil =>
            unfold fieldsP at e1
            cases e1
            exact fin [] .nil (by simp)
          | cons f fs =>
            unfold fieldsP at e1
            rw [e3] at e1
            cases e1
        · subst e3
          refine tFs_run (cls := cls) e4 e6 e7 hs (by rw [ex.1, hg]) e1 fun ws rs => fin ws rs ?_
          rw [← rs.length, hlen]; exact hl1
      · cases e
    · rename_i hm
      exact ⟨false, by rw [← hK, ex.1]; exact hX.ok _ _ _ hm, fun z => (by cases z), fun _ => fault_hds hX hK hie r ex e (fun c h => hl c (by simp [h])) q⟩
    · cases e
theorem okHds_len {nm : Nat → Str} : ∀ {cs : List Cls1} {hds : List ExceptHandler}, okHds en nm cs hds = true → ∀ c ∈ cs, c.2.2.length ≤ 100
  | [], _, _ => fun c h => by cases h
  | (g, tag, fs) :: cs, hds, k => by
    unfold okHds at k
    split at k
    · rename_i h; cases h
    · rename_i h
      cases h
      simp only [Bool.and_eq_true, decide_eq_true_eq] at k
      intro c hc
      rcases List.mem_cons.mp hc with rfl | hc
      · exact k.1.2
      · exact okHds_len k.2 c hc
    · cases k
theorem rs_fault {k ia : Nat} {an : Str} {lr : LR} {exm : Exm} {nm : Nat → Str} {cs : List Cls1} {hd : ExceptHandler} {hds : List ExceptHandler} {p1 p2 p3 p4 p5 pos : Pos} {j : Nat} (hst : X.stack = X.env :: X.outer) (hfr : X.env.frame = some X.env.locals) (hN : X.N.Nodup) (tk : Takes X W) (hK : T.K = X.K) (hX : ExmOk T exm)
    (hL : ∀ l L, T.lam l = some L → ∃ fb, lr l = lamRun fb ∧ LamG X.prog X.w X.K X.mg X.base T k L fb) (hr : Room (k + 1) X.A) (hgd : X.A.guards = some [])
    (ha : X.N[ia]? = some an) (hva : Vis X.env.scope an) (ha1 : (an == ("__debug__" : Str)) = false) (ha2 : (an == ("__classdict__" : Str)) = false)
    (hi : X.N[ie]? = some en) (hln : X.env.scope.names.lookup en = some .local) (h1 : (en == ("__debug__" : Str)) = false) (h2 : (en == ("__classdict__" : Str)) = false) (hc : ∀ c ∈ cs, HdC X T nm c) (hok : okHds en nm cs (hd :: hds) = true) :
    PS X (.Try [.Expr (.Call (.Name an p1) [] [] p2) p3, .Return (some (.Constant .none j p4)) p5] (hd :: hds) [] [] pos) (sOf (CX1 X) T W (sFault ia ie lr exm cs)) := by
  refine psImp (ps_try_hds (tb := fun W' => sOf (CX1 X) T W' (sSeq (sExp (fAct ia lr)) (sRet (fP .non)))) hst hfr hN hi hln tk (fun W' pn xe tk' _ => ?_) (hds_ok (T := T) hi (.inl hln) h1 h2 hc hok)) fun D σ H ⟨Φ, μ, ρ, G, r, o⟩ => ?_
  · exact rss_cons (X := X.tr pn xe) (C := CX1 (X.tr pn xe)) (rs_exp (re_act (X := X.tr pn xe) (C := CX1 (X.tr pn xe)) nil_X hL hr hgd tk' ha hva ha1 ha2) rfl) (rss_one (rs_ret re_non))
  · refine ⟨Φ, μ, ρ, G, r, ?_⟩
    unfold sFault at o
    unfold sSeq sExp
    cases ef : fAct ia lr ρ G with
    | stuck => rw [ef] at o; exact o.elim
    | ok v G1 => rw [ef] at o; exact o
    | exc x G1 =>
      rw [ef] at o
      dsimp only at o
      split at o
      case isFalse => exact o.elim
      rename_i hie
      cases ep : pickC exm x cs with
      | none => rw [ep] at o; exact o.elim
      | some y =>
        rw [ep] at o
        intro μ' H' σ' cls dx k' r' ex
        refine fault_hds hX hK (by rw [← r'.e.len]; exact hie) r' ex ep (okHds_len hok) fun v H2 k2 g2 rd => ?_
        exact o μ' H2 σ' v (k'.trans k2) ⟨g2, r'.e.keep k2, trivial⟩ rd
end
end DL

set_option Elab.async false
set_option linter.all false
set_option maxRecDepth 100000
set_option maxHeartbeats 4000000
/-! DL 15: a small text of its own; what it means; when it stands for a text of the language. -/
namespace DL
open PySem PySem.Spec PyProof.Rows L2

inductive BI where
  | len | abs | int | list | tuple | str | isi | all | any | sum | max | min | repr | gcd
deriving DecidableEq
def BI.name : BI → Str
  | .len => "len" | .abs => "abs" | .int => "int" | .list => "list" | .tuple => "tuple" | .str => "str" | .isi => "isinstance" | .all => "all" | .any => "any" | .sum => "sum" | .max => "max" | .min => "min" | .repr => "repr" | .gcd => "gcd"
mutual
inductive mE where
  | var (i : Nat)
  | lit (x : P)
  | typ (n : String)
  | cls (g : Nat)
  | con (s : Str) (x : P)
  | bin (op : Operator) (a b : mE)
  | neg (a : mE)
  | cmp (op : CmpOp) (a b : mE)
  | notV (a : mE)
  | andV (xs : mEs)
  | orV (xs : mEs)
  | ife (c : mT) (a b : mE)
  | tup (xs : mEs)
  | lst (m : Bool) (xs : mEs)
  | ix (a b : mE)
  | cut (a : mE) (lo hi : mO)
  | rev (a : mE)
  | call (f : Nat) (md : Nat) (xs : mEs)
  | bi (f : BI) (xs : mEs)
  | comp (p : Pt) (own : List (Str × Nat)) (it : mI) (c : mT) (e : mE)
  | app (o e : mE)
  | bits (e : mE)
  | dict (ks : mK)
  | dict0 (m : Nat)
  | lam (l : Nat) (caps : List Nat)
  | fld (e : mE) (f : Str)
  | new (g fI : Nat) (xs : mEs)
  | comp2 (p : Pt) (own : List (Str × Nat)) (it : mI) (c : mT) (p1 : Pt) (vs1 : List Nat) (it1 : mI) (c1 : mT) (e : mE)
inductive mT where
  | yes
  | cmp (op : CmpOp) (a b : mE)
  | tru (e : mE)
  | not (t : mT)
  | and (ts : mTs)
  | or (ts : mTs)
inductive mEs where
  | nil
  | cons (e : mE) (r : mEs)
inductive mTs where
  | nil
  | cons (t : mT) (r : mTs)
inductive mO where
  | none
  | some (e : mE)
inductive mK where
  | nil
  | cons (k : Str) (e : mE) (r : mK)
inductive mI where
  | gen (e : mE)
  | range1 (e : mE)
  | range2 (a b : mE)
  | enum (e : mE)
  | zip (a b : mE)
  | down (a b c : mE)
end
mutual
inductive mS where
  | pass
  | doc
  | ret (e : mE)
  | retN
  | exp (e : mE)
  | asg (p : Pt) (e : mE)
  | par (i j : Nat) (a b : mE)
  | put (d k v : mE)
  | ife (c : mT) (a b : mSs)
  | for_ (p : Pt) (it : mI) (b : mSs)
  | while_ (n : Nat) (c : mT) (b : mSs)
  | brk
  | cnt
  | raise (g : Nat) (xs : mEs)
  | fault (ia ie : Nat) (cs : List Cls1)
  | frz (is : List Nat) (s : mS)
  | setf (x : mE) (f : Str) (v : mE)
inductive mSs where
  | nil
  | cons (s : mS) (r : mSs)
end

/-! ### what it means -/
/-- what is known of the program: its functions and their parameters, its lambdas, its classes -/
structure Orc where
  fn : Nat → FS
  ar : Nat → Nat
  lr : LR
  ask : Ask
  exm : Exm
  xf : Nat → List Str
  ob : Ob
def biF (ask : Ask) : BI → FN
  | .len => lenD | .abs => absD | .int => intD | .list => listD | .tuple => tupleD | .str => strD | .isi => isiA ask | .all => allD | .any => anyD | .sum => sumD | .max => maxD | .min => minD | .repr => reprD | .gcd => gcdD
def notD (_ : Sto) : D → Option D
  | .p (.bl b) => some (.p (.bl (!b)))
  | _ => none
mutual
def ev (o : Orc) : mE → EF
  | .var i => fVar i
  | .lit x => fP x
  | .typ n => fP (.ty n)
  | .cls g => fP (.glo g)
  | .con _ x => fP x
  | .bin op a b => f2 (binD op) (ev o a) (ev o b)
  | .neg a => f1 (unD .USub) (ev o a)
  | .cmp op a b => f2 (cmpA op) (ev o a) (ev o b)
  | .notV a => f1 notD (ev o a)
  | .andV xs => evAnd o xs
  | .orV xs => evOr o xs
  | .ife c a b => fIf (evT o c) (ev o a) (ev o b)
  | .tup xs => fTup (evs o xs)
  | .lst m xs => if m then fLstM (evs o xs) else fLst (evs o xs)
  | .ix a b => f2 ixD (ev o a) (ev o b)
  | .cut a lo hi => fCut (ev o a) (evO o lo) (evO o hi)
  | .rev a => fRev (ev o a)
  | .call f md xs => match md with
    | 0 => fPure (o.ar f) (o.fn f) (evs o xs)
    | 1 => fEff (o.ar f) (o.fn f) (evs o xs)
    | _ => fLend (o.ar f) (o.fn f) (evs o xs)
  | .bi f xs => fCall (biF o.ask f) (evs o xs)
  | .comp p own it c e => fComp p (own.map (·.2)) (evI o it) (evT o c) (ev o e)
  | .app x e => fApp (ev o x) (ev o e)
  | .bits e => fBits (ev o e)
  | .dict ks => fDict (evK o ks)
  | .dict0 m => fDict0 m
  | .lam l caps => fLam l caps
  | .fld e f => f1 (fldD o.ob f) (ev o e)
  | .new g fI xs => fNew (o.ar fI) (o.fn fI) g (evs o xs)
  | .comp2 p own it c p1 vs1 it1 c1 e => fComp2 p (own.map (·.2)) (evI o it) (evT o c) p1 vs1 (evI o it1) (evT o c1) (ev o e)
def evT (o : Orc) : mT → TF
  | .yes => fun _ G => .ok true G
  | .cmp op a b => fTest (f2 (cmpA op) (ev o a) (ev o b))
  | .tru e => fTru (ev o e)
  | .not t => fNot (evT o t)
  | .and ts => evTA o ts
  | .or ts => evTO o ts
def evs (o : Orc) : mEs → AF
  | .nil => fNil
  | .cons e r => fCons (ev o e) (evs o r)
def evAnd (o : Orc) : mEs → EF
  | .nil => fun _ _ => .stuck
  | .cons e r => match r with
    | .nil => ev o e
    | .cons _ _ => fAndV (ev o e) (evAnd o r)
def evOr (o : Orc) : mEs → EF
  | .nil => fun _ _ => .stuck
  | .cons e r => match r with
    | .nil => ev o e
    | .cons _ _ => fOrV (ev o e) (evOr o r)
def evTA (o : Orc) : mTs → TF
  | .nil => fun _ _ => .stuck
  | .cons e r => match r with
    | .nil => evT o e
    | .cons _ _ => fAnd (evT o e) (evTA o r)
def evTO (o : Orc) : mTs → TF
  | .nil => fun _ _ => .stuck
  | .cons e r => match r with
    | .nil => evT o e
    | .cons _ _ => fOr (evT o e) (evTO o r)
def evO (o : Orc) : mO → OF
  | .none => oNone
  | .some e => oSome (ev o e)
def evK (o : Orc) : mK → List (Str × EF)
  | .nil => []
  | .cons k e r => (k, ev o e) :: evK o r
def evI (o : Orc) : mI → IF
  | .gen e => iGen (ev o e)
  | .range1 e => iRange1 (ev o e)
  | .range2 a b => iRange2 (ev o a) (ev o b)
  | .enum e => iEnum (ev o e)
  | .zip a b => iZip (ev o a) (ev o b)
  | .down a b c => iDown (ev o a) (ev o b) (ev o c)
end
mutual
def evS (o : Orc) : mS → SF
  | .pass => sNext
  | .doc => sNext
  | .ret e => sRet (ev o e)
  | .retN => sRet (fP .non)
  | .exp e => sExp (ev o e)
  | .asg p e => sAsg p (ev o e)
  | .par i j a b => sPar i j (ev o a) (ev o b)
  | .put d k v => sPut (ev o d) (ev o k) (ev o v)
  | .ife c a b => sIf (evT o c) (evSs o a) (evSs o b)
  | .for_ p it b => sFor p (evI o it) (evSs o b)
  | .while_ n c b => whileL (evT o c) (evSs o b) n
  | .brk => sBrk
  | .cnt => sCnt
  | .raise g xs => sRaise g (o.xf g) (evs o xs)
  | .fault ia ie cs => sFault ia ie o.lr o.exm cs
  | .frz is s => sFrz is (evS o s)
  | .setf x f v => sSetf o.ob f (ev o x) (ev o v)
def evSs (o : Orc) : mSs → SF
  | .nil => sNext
  | .cons s r => sSeq (evS o s) (evSs o r)
end

/-! ### when it stands for a text -/
/-- a lambda of the text -/
structure LamQ where
  l : Nat
  params : Arguments
  body : Expr
  scope : Scope
  caps : List Nat
abbrev Ck := Option (List LamQ)
def ck (b : Bool) : Ck := if b then some [] else none
def Ck.and (a b : Ck) : Ck := match a, b with
  | some x, some y => some (x ++ y)
  | _, _ => none
def Ck.bare (a : Ck) : Ck := match a with
  | some [] => some []
  | _ => none
structure Cv where
  N : List Str
  sc : List (Str × NameKind)
  fn : Str → Bool
  fr : Bool
  fnn : Nat → Str
  cln : Nat → Str
  con : Str → P → Bool
  bn : Str → Bool
  fin : Nat → Bool
  cin : Nat → Bool
  xin : Nat → Bool
  fld : Nat → Str → Bool
  gcd : Bool
  nin : Nat → Nat → Bool
def visB (sc : List (Str × NameKind)) (x : Str) : Bool := decide (sc.lookup x = some .local) || decide (sc.lookup x = some .cell) || decide (sc.lookup x = some .free)
def locB (sc : List (Str × NameKind)) (x : Str) : Bool := decide (sc.lookup x = some .local) || decide (sc.lookup x = some .cell)
def glB (sc : List (Str × NameKind)) (x : Str) : Bool := decide (sc.lookup x = some .globalImplicit) && !(x == ("__debug__" : Str)) && decide (x ≠ "__name__")
def plainN (x : Str) : Bool := !(x == ("__debug__" : Str)) && !(x == ("__classdict__" : Str))
def litB : P → Const → Bool
  | .int i, .int j => decide (i = j)
  | .bl i, .bool j => decide (i = j)
  | .non, .none => true
  | .str i, .str j => decide (i = j)
  | _, _ => false
def notStar : Expr → Bool
  | .Starred _ _ => false
  | _ => true
def notSlice : Expr → Bool
  | .Slice _ _ _ _ => false
  | _ => true
def notSet : Expr → Bool
  | .Set _ _ _ => false
  | _ => true
def plainT : Expr → Bool
  | .UnaryOp .Not _ _ => false
  | .BoolOp _ _ _ => false
  | .IfExp _ _ _ _ => false
  | .Compare _ _ _ _ => false
  | _ => true
/-- no call without arguments: super() would be one -/
def baseB : Expr → Bool
  | .Call (.Name _ _) [] [] _ => false
  | _ => true
def notComp : Expr → Bool
  | .ListComp _ _ _ _ => false
  | .SetComp _ _ _ _ => false
  | .DictComp _ _ _ _ _ => false
  | _ => true
/-- the names of a block of its own -/
def relN (outer : List (Str × NameKind)) (names : List (Str × NameKind)) : List (Str × NameKind) := names.map fun (n, k) => if (k == NameKind.free && outer.lookup n == some .cell) then (n, NameKind.cell) else (n, k)
def Cv.blk (c : Cv) (scope : Scope) : Cv := { c with sc := relN c.sc scope.names, fn := fun x => scope.names.lookup x == some .cell, fr := false }
mutual
def okPt (c : Cv) : Pt → Expr → Bool
  | .v i, e => match e with
    | .Name x _ => decide (c.N[i]? = some x) && locB c.sc x && (c.fn x || decide (c.sc.lookup x = some .local))
    | _ => false
  | .t ps, e => match e with
    | .Tuple es _ _ => okPts c ps es
    | _ => false
def okPts (c : Cv) : List Pt → List Expr → Bool
  | [], es => match es with
    | [] => true
    | _ => false
  | p :: ps, es => match es with
    | e :: es => okPt c p e && okPts c ps es
    | [] => false
end
/-- pairs are walked into a written tuple -/
def shp : mI → Pt → Bool
  | .enum _, .t _ => true
  | .zip _ _, .t _ => true
  | .enum _, .v _ => false
  | .zip _ _, .v _ => false
  | _, _ => true
def tyNames : List String := ["int", "bool", "tuple", "list", "str", "dict"]
mutual
def okE (c : Cv) : mE → Expr → Ck
  | .var i, e => match e with
    | .Name x _ => ck (decide (c.N[i]? = some x) && visB c.sc x && plainN x)
    | _ => none
  | .lit x, e => match e with
    | .Constant k _ _ => ck (litB x k)
    | _ => none
  | .typ n, e => match e with
    | .Name x _ => ck (glB c.sc x && decide (x = Str.ofString n) && tyNames.contains n && c.bn x)
    | _ => none
  | .cls g, e => match e with
    | .Name x _ => ck (glB c.sc x && decide (x = c.cln g) && c.cin g)
    | _ => none
  | .con s x, e => match e with
    | .Name y _ => ck (glB c.sc y && decide (y = s) && c.con s x)
    | _ => none
  | .bin op a b, e => match e with
    | .BinOp l op' r _ => (ck (decide (op' = op))).and ((okE c a l).and (okE c b r))
    | _ => none
  | .neg a, e => match e with
    | .UnaryOp .USub l _ => okE c a l
    | _ => none
  | .cmp op a b, e => match e with
    | .Compare l [op'] [r] _ => (ck (decide (op' = op) && notSet r)).and ((okE c a l).and (okE c b r))
    | _ => none
  | .notV a, e => match e with
    | .UnaryOp .Not l _ => okE c a l
    | _ => none
  | .andV xs, e => match e with
    | .BoolOp .And es _ => okEs c xs es
    | _ => none
  | .orV xs, e => match e with
    | .BoolOp .Or es _ => okEs c xs es
    | _ => none
  | .ife t a b, e => match e with
    | .IfExp g l r _ => (okT c t g).and ((okE c a l).and (okE c b r))
    | _ => none
  | .tup xs, e => match e with
    | .Tuple es _ _ => okEs c xs es
    | _ => none
  | .lst _ xs, e => match e with
    | .List es _ => okEs c xs es
    | _ => none
  | .ix a b, e => match e with
    | .Subscript l r _ => (ck (notSlice r)).and ((okE c a l).and (okE c b r))
    | _ => none
  | .cut a lo hi, e => match e with
    | .Subscript l (.Slice s t none _) _ => (okE c a l).and ((okO c lo s).and (okO c hi t))
    | _ => none
  | .rev a, e => match e with
    | .Subscript l (.Slice none none (some (.UnaryOp .USub (.Constant (.int 1) _ _) _)) _) _ => okE c a l
    | _ => none
  | .call f md xs, e => match e with
    | .Call (.Name x _) (a :: as) [] _ => (ck (glB c.sc x && decide (x = c.fnn f) && c.fin f && (decide (md < 2) || c.fr))).and (okEs c xs (a :: as))
    | _ => none
  | .bi f xs, e => match e with
    | .Call (.Name x _) (a :: as) [] _ => (ck (glB c.sc x && decide (x = f.name) && (if f = .gcd then c.gcd else c.bn x))).and (okEs c xs (a :: as))
    | _ => none
  | .comp p own it t x, e => match e with
    | .ListComp elt [⟨tg, i, ifs, 0⟩] scope _ => (ck (blkC c.N ⟨.function, c.sc, false, false, []⟩ scope own && (slotsP p).all (fun j => (own.map (·.2)).contains j) && okPt (c.blk scope) p tg && notSet i && shp it p)).and ((okI c it i).and (((okIf (c.blk scope) t ifs).and (okE (c.blk scope) x elt)).bare))
    | _ => none
  | .app o x, e => match e with
    | .Call (.Attribute l "append" ap) [r] [] cp => (ck ((ap.endLine == cp.line) && baseB l && notStar r)).and ((okE c o l).and (okE c x r))
    | _ => none
  | .bits x, e => match e with
    | .Call (.Attribute l "bit_length" ap) [] [] cp => (ck ((ap.endLine == cp.line) && baseB l)).and (okE c x l)
    | _ => none
  | .dict ks, e => match e with
    | .Dict keys values _ => (ck (decide (keys.length ≤ 15) && decide (keys ≠ []) && ndup (keysK ks))).and (okK c ks keys values)
    | _ => none
  | .dict0 _, e => match e with
    | .Dict [] [] _ => some []
    | _ => none
  | .lam l caps, e => match e with
    | .Lambda params body scope _ => (ck (c.fr && okCaps c.N c.sc caps (caps.map fun i => c.N.getD i ""))).and (some [⟨l, params, body, scope, caps⟩])
    | _ => none
  | .fld x f, e => match e with
    | .Attribute l f' _ => (ck (decide (f' = f) && baseB l)).and (okE c x l)
    | _ => none
  | .new g fI xs, e => match e with
    | .Call (.Name x _) (a :: as) [] _ => (ck (glB c.sc x && decide (x = c.cln g) && c.nin g fI)).and (okEs c xs (a :: as))
    | _ => none
  | .comp2 p own it t p1 vs1 it1 t1 x, e => match e with
    | .ListComp elt [⟨tg, i, ifs, 0⟩, ⟨tg1, i1, ifs1, 0⟩] scope _ => (ck (blkC c.N ⟨.function, c.sc, false, false, []⟩ scope own && (slotsP p).all (fun j => (own.map (·.2)).contains j) && vs1.all (fun j => (own.map (·.2)).contains j) && (slotsP p1).all (fun j => vs1.contains j) && okPt (c.blk scope) p tg && okPt (c.blk scope) p1 tg1 && notSet i && notSet i1 && shp it p && shp it1 p1)).and ((okI c it i).and (((okIf (c.blk scope) t ifs).and ((okI (c.blk scope) it1 i1).and ((okIf (c.blk scope) t1 ifs1).and (okE (c.blk scope) x elt)))).bare))
    | _ => none
def okT (c : Cv) : mT → Expr → Ck
  | .yes, _ => none
  | .cmp op a b, e => match e with
    | .Compare l [op'] [r] _ => (ck (decide (op' = op) && notSet r)).and ((okE c a l).and (okE c b r))
    | _ => none
  | .tru x, e => (ck (plainT e)).and (okE c x e)
  | .not t, e => match e with
    | .UnaryOp .Not l _ => okT c t l
    | _ => none
  | .and ts, e => match e with
    | .BoolOp .And es _ => okTs c ts es
    | _ => none
  | .or ts, e => match e with
    | .BoolOp .Or es _ => okTs c ts es
    | _ => none
/-- the tests of a comprehension -/
def okIf (c : Cv) : mT → List Expr → Ck
  | .yes, es => match es with
    | [] => some []
    | _ => none
  | .cmp op a b, es => match es with
    | [.Compare l [op'] [r] _] => (ck (decide (op' = op) && notSet r)).and ((okE c a l).and (okE c b r))
    | _ => none
  | .tru x, es => match es with
    | [e] => (ck (plainT e)).and (okE c x e)
    | _ => none
  | .not t, es => match es with
    | [.UnaryOp .Not l _] => okT c t l
    | _ => none
  | .and ts, es => match es with
    | [.BoolOp .And es _] => okTs c ts es
    | _ => none
  | .or ts, es => match es with
    | [.BoolOp .Or es _] => okTs c ts es
    | _ => none
def okEs (c : Cv) : mEs → List Expr → Ck
  | .nil, es => match es with
    | [] => some []
    | _ => none
  | .cons x r, es => match es with
    | e :: es => (ck (notStar e)).and ((okE c x e).and (okEs c r es))
    | _ => none
def okTs (c : Cv) : mTs → List Expr → Ck
  | .nil, es => match es with
    | [] => some []
    | _ => none
  | .cons x r, es => match es with
    | e :: es => (okT c x e).and (okTs c r es)
    | _ => none
def okO (c : Cv) : mO → Option Expr → Ck
  | .none, e => match e with
    | none => some []
    | _ => none
  | .some x, e => match e with
    | some e => okE c x e
    | _ => none
def okK (c : Cv) : mK → List (Option Expr) → List Expr → Ck
  | .nil, ks, vs => match ks, vs with
    | [], [] => some []
    | _, _ => none
  | .cons k x r, ks, vs => match ks, vs with
    | some (.Constant (.str s) _ _) :: ks, v :: vs => (ck (decide (s = k))).and ((okE c x v).and (okK c r ks vs))
    | _, _ => none
def keysK : mK → List Str
  | .nil => []
  | .cons k _ r => k :: keysK r
def okI (c : Cv) : mI → Expr → Ck
  | .gen x, e => okE c x e
  | .range1 x, e => match e with
    | .Call (.Name y _) [a] [] _ => (ck (glB c.sc y && decide (y = "range") && c.bn y && notStar a)).and (okE c x a)
    | _ => none
  | .range2 x z, e => match e with
    | .Call (.Name y _) [a, b] [] _ => (ck (glB c.sc y && decide (y = "range") && c.bn y && notStar a && notStar b)).and ((okE c x a).and (okE c z b))
    | _ => none
  | .enum x, e => match e with
    | .Call (.Name y _) [a] [] _ => (ck (glB c.sc y && decide (y = "enumerate") && c.bn y && notStar a)).and (okE c x a)
    | _ => none
  | .zip x z, e => match e with
    | .Call (.Name y _) [a, b] [] _ => (ck (glB c.sc y && decide (y = "zip") && c.bn y && notStar a && notStar b)).and ((okE c x a).and (okE c z b))
    | _ => none
  | .down x z u, e => match e with
    | .Call (.Name y _) [a, b, d] [] _ => (ck (glB c.sc y && decide (y = "range") && c.bn y && notStar a && notStar b && notStar d)).and ((okE c x a).and ((okE c z b).and (okE c u d)))
    | _ => none
end
end DL

set_option Elab.async false
set_option linter.all false
set_option maxRecDepth 100000
set_option maxHeartbeats 4000000
/-! DL 16: the small text's expressions stand for the language's. -/
namespace DL
open PySem PySem.Spec PyProof.Rows L2

structure PrOk (Pg : Program) (w : World) (K : PySem.W.Frag) (mg : Str → Option Value) (base : Heap) (T : Tb) (o : Orc) (k : Nat) (c : Cv) : Prop where
  fnG : ∀ f, c.fin f = true → ∃ a, mg (c.fnn f) = some (.ref a) ∧ PySem.W.keepIn K (.ref a) = true ∧ FnG Pg w K mg base k a (spD T (o.ar f) (o.fn f))
  cls : ∀ g, c.cin g = true → mg (c.cln g) = some (.ref (T.ga g))
  con : ∀ s x, c.con s x = true → ∃ u v, mg s = some u ∧ RelV v u ∧ ∀ (Cl : Addr → V → Prop) (Φ : Addr → Prop) (μ : List Addr) (H : Hp) (G : Sto), RG T Cl Φ μ H G → RP T.K T.ga (Bad Φ μ) H x v
  bn : ∀ x, c.bn x = true → mg x = none
  gcd : c.gcd = true → mg "gcd" = some (.builtin "math.gcd")
  ask : AskOk T o.ask
  exm : ExmOk T o.exm
  exc : ∀ g, c.xin g = true → ExcCls Pg w K mg base (c.cln g) (T.ga g) (o.xf g) ∧ o.xf g ≠ [] ∧ XfC K (T.ga g)
  fld : ∀ g f, c.fld g f = true → PySem.W.findIn K (.ref (T.ga g)) f = some none
  lam : ∀ l L, T.lam l = some L → ∃ fb, o.lr l = lamRun fb ∧ LamG Pg w K mg base T k L fb
  ob : ObOk T o.ob
  new : ∀ g f, c.nin g f = true → ∃ a, mg (c.cln g) = some (.ref (T.ga g)) ∧ Mk K (T.ga g) a ∧ FnG Pg w K mg base k a (spD T (o.ar f) (o.fn f))
structure XOk (X : Cx) (T : Tb) (W : WX) (o : Orc) (k : Nat) (c : Cv) : Prop where
  pr : PrOk X.prog X.w X.K X.mg X.base T o k c
  hK : T.K = X.K
  hN : X.N = c.N
  nd : X.N.Nodup
  sc : X.env.scope.names = c.sc
  kind : X.env.scope.kind = .function
  calm : X.calm = true
  room : Room (k + 2) X.A
  gd : X.A.guards = some []
  tk : Takes X W
  po : PassesOwn (model X.prog X.w) X.A X.env X.xe
  fn : ∀ x, c.fn x = true → X.fn x = true
  fr : c.fr = true → (∀ y, X.fn y = true) ∧ X.stack = X.env :: X.outer ∧ X.env.frame = some X.env.locals
def LQ (X : Cx) (T : Tb) (q : List LamQ) : Prop := ∀ l ∈ q, ∃ L, LamAt X T l.l L l.params l.body l.scope ∧ defaultsOf l.params X.env = ([], []) ∧ L.free = l.caps.map fun i => X.N.getD i ""
section
variable {X : Cx} {T : Tb} {W : WX} {o : Orc} {k : Nat} {c : Cv} {q : List LamQ}
theorem ck_some {b : Bool} (h : ck b = some q) : b = true ∧ q = [] := by
  unfold ck at h
  split at h
  · rename_i hb; cases h; exact ⟨hb, rfl⟩
  · cases h
theorem and_some {a b : Ck} (h : a.and b = some q) : ∃ x y, a = some x ∧ b = some y ∧ q = x ++ y := by
  unfold Ck.and at h
  split at h
  · cases h; exact ⟨_, _, rfl, rfl, rfl⟩
  · cases h
theorem bare_some {a : Ck} (h : a.bare = some q) : a = some [] ∧ q = [] := by
  unfold Ck.bare at h
  split at h
  · cases h; exact ⟨rfl, rfl⟩
  · cases h
theorem LQ.left {x y : List LamQ} (h : LQ X T (x ++ y)) : LQ X T x := fun l hl => h l (List.mem_append_left _ hl)
theorem LQ.right {x y : List LamQ} (h : LQ X T (x ++ y)) : LQ X T y := fun l hl => h l (List.mem_append_right _ hl)
theorem LQ.nil : LQ X T [] := fun l hl => by cases hl
/-- a check ahead of the rest -/
theorem ck_and {b : Bool} {a : Ck} (h : (ck b).and a = some q) : b = true ∧ a = some q := by
  obtain ⟨x, y, h1, h2, h3⟩ := and_some h
  obtain ⟨h4, rfl⟩ := ck_some h1
  exact ⟨h4, by rw [h3]; exact h2⟩
theorem vis_of {x : Str} (K : XOk X T W o k c) (h : visB c.sc x = true) : Vis X.env.scope x := by
  unfold visB at h
  rw [Bool.or_eq_true, Bool.or_eq_true, ← K.sc] at h
  rcases h with (h | h) | h
  · exact .inl (of_decide_eq_true h)
  · exact .inr (.inl (of_decide_eq_true h))
  · exact .inr (.inr (of_decide_eq_true h))
theorem loc_of {x : Str} (K : XOk X T W o k c) (h : locB c.sc x = true) : Loc X.env.scope x := by
  unfold locB at h
  rw [Bool.or_eq_true, ← K.sc] at h
  exact h.imp of_decide_eq_true of_decide_eq_true
theorem gl_of {x : Str} (K : XOk X T W o k c) (h : glB c.sc x = true) : Gl X x ∧ (x == ("__debug__" : Str)) = false ∧ x ≠ "__name__" := by
  unfold glB at h
  rw [Bool.and_eq_true, Bool.and_eq_true, ← K.sc] at h
  exact ⟨(of_decide_eq_true h.1.1 : X.env.scope.names.lookup x = some .globalImplicit), by simpa using h.1.2, of_decide_eq_true h.2⟩
theorem plainN_of {x : Str} (h : plainN x = true) : (x == ("__debug__" : Str)) = false ∧ (x == ("__classdict__" : Str)) = false := by
  unfold plainN at h
  rw [Bool.and_eq_true] at h
  exact ⟨by simpa using h.1, by simpa using h.2⟩
theorem star_of {e : Expr} (h : notStar e = true) (es : List Expr) (env : Env) : starEach (e :: es) env = (false, eval e env) :: starEach es env := by
  cases e <;> first | rfl | (simp [notStar] at h)
theorem noStar_any : ∀ {es : List Expr}, (∀ e ∈ es, notStar e = true) → ∀ (pos : Pos) (env : Env), (backTo pos (starEach es env)).any (·.1) = false
  | [], _, _, _ => rfl
  | e :: es, h, pos, env => by
    rw [star_of (h e (by simp)) es env]
    show (false || (backTo pos (starEach es env)).any (·.1)) = false
    rw [noStar_any (fun x hx => h x (by simp [hx])) pos env]; rfl
theorem slice_of {e : Expr} (h : notSlice e = true) : PlainIx e := by
  intro a b
  cases e <;> first | rfl | (simp [notSlice] at h)
theorem set_of {e : Expr} (h : notSet e = true) (op : CmpOp) : behindInMarks op e = false := by
  cases e <;> first | rfl | (simp [notSet] at h)
theorem fold_of {e : Expr} (h : notSet e = true) (env : Env) (x : Value) : foldedSetIterable e env x = pure x := by
  cases e <;> first | rfl | (simp [notSet] at h)
theorem plainT_of {e : Expr} (h : plainT e = true) (env : Env) (whole : Sem Value) : isTrue e env whole = (do let v ← whole; standAt e.pos; holding [v] (truthy v)) := by
  cases e with
  | UnaryOp op a p => cases op <;> first | rfl | (simp [plainT] at h)
  | BoolOp _ _ _ => simp [plainT] at h
  | IfExp _ _ _ _ => simp [plainT] at h
  | Compare _ _ _ _ => simp [plainT] at h
  | _ => rfl
theorem base_of {e : Expr} (h : baseB e = true) (name : Str) (env : Env) (t : Sem Value) : attributeBase e name env t = t := by
  unfold attributeBase
  split
  · rename_i id p1 p2
    simp [baseB] at h
  · rfl
theorem comp_of {e : Expr} (h : notComp e = true) (tg : Option Expr) (n : Nat) (env : Env) : swapsWith e tg n env = pure false := by
  cases e <;> first | rfl | (simp [notComp] at h)
/-- constants -/
theorem lit_pe {C : CF} {x : P} {v : Const} {j : Nat} {pos : Pos} (h : litB x v = true) : PE X (.Constant v j pos) (eOf C T W (fP x)) := by
  unfold litB at h
  split at h
  · obtain rfl := of_decide_eq_true h; exact re_int
  · obtain rfl := of_decide_eq_true h; exact re_bl
  · exact re_non
  · obtain rfl := of_decide_eq_true h; exact re_str
  · cases h
theorem ty_boot : ∀ n ∈ tyNames, bootBuiltins (Str.ofString n) = some (.type n) := by decide +kernel
theorem bi_boot (b : BI) (h : b ≠ .gcd) : (∃ id, bootBuiltins b.name = some (.builtin id) ∧ (b = .len ∧ id = "len" ∨ b = .abs ∧ id = "abs" ∨ b = .isi ∧ id = "isinstance" ∨ b = .all ∧ id = "all" ∨ b = .any ∧ id = "any" ∨ b = .sum ∧ id = "sum" ∨ b = .max ∧ id = "max" ∨ b = .min ∧ id = "min" ∨ b = .repr ∧ id = "repr")) ∨
    ∃ ty, bootBuiltins b.name = some (.type ty) ∧ (b = .int ∧ ty = "int" ∨ b = .list ∧ ty = "list" ∨ b = .tuple ∧ ty = "tuple" ∨ b = .str ∧ ty = "str") := by
  cases b with
  | gcd => exact absurd rfl h
  | len => exact .inl ⟨"len", by decide +kernel, by simp⟩
  | abs => exact .inl ⟨"abs", by decide +kernel, by simp⟩
  | isi => exact .inl ⟨"isinstance", by decide +kernel, by simp⟩
  | all => exact .inl ⟨"all", by decide +kernel, by simp⟩
  | any => exact .inl ⟨"any", by decide +kernel, by simp⟩
  | sum => exact .inl ⟨"sum", by decide +kernel, by simp⟩
  | max => exact .inl ⟨"max", by decide +kernel, by simp⟩
  | min => exact .inl ⟨"min", by decide +kernel, by simp⟩
  | repr => exact .inl ⟨"repr", by decide +kernel, by simp⟩
  | int => exact .inr ⟨"int", by decide +kernel, by simp⟩
  | list => exact .inr ⟨"list", by decide +kernel, by simp⟩
  | tuple => exact .inr ⟨"tuple", by decide +kernel, by simp⟩
  | str => exact .inr ⟨"str", by decide +kernel, by simp⟩
theorem units_of (K : XOk X T W o k c) : X.A.units + 66 < cLine := by have := K.room.un; omega
theorem bi_pe (K : XOk X T W o k c) {b : BI} {x : Str} {e : Expr} {es : List Expr} {ff : AF} {p pos : Pos} (hx : x = b.name) (hb : (if b = .gcd then c.gcd else c.bn x) = true) (hg : Gl X x) (hdb : (x == ("__debug__" : Str)) = false) (hn : x ≠ "__name__") (ha : PA X (e :: es) (aOf (CX1 X) T W ff))
    (he : starEach (e :: es) X.env = (false, eval e X.env) :: starEach es X.env) (hpl : (backTo pos (starEach es X.env)).any (·.1) = false) : PE X (.Call (.Name x p) (e :: es) [] pos) (eOf (CX1 X) T W (fCall (biF o.ask b) ff)) := by
  by_cases c0 : b = .gcd
  · subst c0
    rw [if_pos rfl] at hb
    subst hx
    exact re_callG gcd_ok hg (K.pr.gcd hb) ha hdb he hpl
  · rw [if_neg c0] at hb
    have hm := K.pr.bn x hb
    subst hx
    rcases bi_boot b c0 with ⟨id, h1, h2⟩ | ⟨ty, h1, h2⟩
    · rcases h2 with ⟨rfl, rfl⟩ | ⟨rfl, rfl⟩ | ⟨rfl, rfl⟩ | ⟨rfl, rfl⟩ | ⟨rfl, rfl⟩ | ⟨rfl, rfl⟩ | ⟨rfl, rfl⟩ | ⟨rfl, rfl⟩ | ⟨rfl, rfl⟩
      · exact re_callB (len_ok K.hK) hg hm h1 ha hn hdb he hpl
      · exact re_callB abs_ok hg hm h1 ha hn hdb he hpl
      · exact re_callB (isi_ok K.hK K.pr.ask) hg hm h1 ha hn hdb he hpl
      · exact re_callB (all_ok K.calm) hg hm h1 ha hn hdb he hpl
      · exact re_callB (any_ok K.calm) hg hm h1 ha hn hdb he hpl
      · exact re_callB (sum_ok K.calm) hg hm h1 ha hn hdb he hpl
      · exact re_callB (max_ok K.calm) hg hm h1 ha hn hdb he hpl
      · exact re_callB (min_ok K.calm) hg hm h1 ha hn hdb he hpl
      · exact re_callB (repr_ok K.hK K.gd (units_of K)) hg hm h1 ha hn hdb he hpl
    · rcases h2 with ⟨rfl, rfl⟩ | ⟨rfl, rfl⟩ | ⟨rfl, rfl⟩ | ⟨rfl, rfl⟩
      · exact re_callT int_ok hg hm h1 ha hn hdb he hpl
      · exact re_callT (list_ok K.hK) hg hm h1 ha hn hdb he hpl
      · exact re_callT (tuple_ok K.hK) hg hm h1 ha hn hdb he hpl
      · exact re_callT str_ok hg hm h1 ha hn hdb he hpl
theorem not_ok {a : Expr} {fa : EF} {pos : Pos} {C : CF} (ha : PE X a (eOf C T W fa)) : PE X (.UnaryOp .Not a pos) (eOf C T W (f1 notD fa)) :=
  peImp (pe_not ha) fun σ H Q ⟨Φ, μ, ρ, G, r, o⟩ => ⟨Φ, μ, ρ, G, r, o.bind fun v H1 ⟨μ1, G1, x, k1, g1, rx, o1⟩ => by
    unfold notD at o1
    split at o1
    · exact ⟨_, rd_bl rx, o1 μ1 H1 _ .refl g1 (.p (.bl _))⟩
    · exact o1.elim⟩
theorem con_pe {C : CF} (K : XOk X T W o k c) {s : Str} {x : P} {pos : Pos} (h : c.con s x = true) (hg : Gl X s) (hd : (s == ("__debug__" : Str)) = false) : PE X (.Name s pos) (eOf C T W (fP x)) := by
  obtain ⟨u, v, h1, h2, h3⟩ := K.pr.con s x h
  exact peImp (pe_glob hg h1 h2 hd) fun σ H Q ⟨Φ, μ, ρ, G, r, o⟩ => o μ H v .refl r.g (.p (h3 _ _ _ _ _ r.g))
/-- the block of a comprehension -/
theorem blk_ok (K : XOk X T W o k c) {scope : Scope} {own : List (Str × Nat)} (ok : BlkOk X.N X.env.scope scope own) (s : Shared) (H : Hp) (a : Addr) (cl : List (Str × Addr)) (fp : List Addr) : XOk (X.blk s H scope (compEnvC scope cl a X.env) fp) T W0 o k (c.blk scope) :=
  { pr := ⟨K.pr.fnG, K.pr.cls, K.pr.con, K.pr.bn, K.pr.gcd, K.pr.ask, K.pr.exm, K.pr.exc, K.pr.fld, K.pr.lam, K.pr.ob, K.pr.new⟩
    hK := K.hK
    hN := K.hN
    nd := K.nd
    sc := by
      show (relS scope X.env.scope).names = relN c.sc scope.names
      unfold relS relN
      rw [← K.sc]
      refine List.map_congr_left fun y _ => ?_
      obtain ⟨n, kk⟩ := y
      show (if _ then _ else _) = (if _ then _ else _)
      rw [K.kind]
      simp
    kind := ok.kind
    calm := K.calm
    room := K.room
    gd := K.gd
    tk := LamX.takes0
    po := PassesOwn.never
    fn := fun x h => h
    fr := fun h => by cases h }
theorem blk_of (K : XOk X T W o k c) {scope : Scope} {own : List (Str × Nat)} (h : blkC c.N ⟨.function, c.sc, false, false, []⟩ scope own = true) : BlkOk X.N X.env.scope scope own := by
  have b := blkOk_by h
  rw [← K.hN] at b
  exact ⟨b.kind, b.uniq, b.ix, fun y hy e => by rw [K.sc]; exact b.free y hy e, b.own⟩
end
end DL

set_option Elab.async false
set_option linter.all false
set_option maxRecDepth 100000
set_option maxHeartbeats 4000000
/-! DL 17: soundness for expressions. -/
namespace DL
open PySem PySem.Spec PyProof.Rows L2

section
variable {T : Tb} {o : Orc} {k : Nat}
/-! ### targets -/
mutual
theorem sPt : ∀ (p : Pt) {X : Cx} {W : WX} {c : Cv} {C : CF} {e : Expr}, XOk X T W o k c → C.Good → C.Same → okPt c p e = true → PG X e (gOf C T (slotsP p) (fun d ρ => bindP p d ρ))
  | .v i, X, W, c, C, e, K, hC, hS, h => by
    unfold okPt at h
    split at h
    · rename_i x pos
      rw [Bool.and_eq_true, Bool.and_eq_true, Bool.or_eq_true] at h
      exact rg_name hC K.nd (K.hN ▸ of_decide_eq_true h.1.1) (loc_of K h.1.2) (h.2.imp (K.fn x) fun z => by rw [K.sc]; exact of_decide_eq_true z)
    · cases h
  | .t ps, X, W, c, C, e, K, hC, hS, h => by
    unfold okPt at h
    split at h
    · rename_i es kk pos
      obtain ⟨h1, h2, h3, h4⟩ := sPts ps K hC hS h
      exact rg_tup K.hK K.calm h1 h2 h4 h3
    · cases h
theorem sPts : ∀ (ps : List Pt) {X : Cx} {W : WX} {c : Cv} {C : CF} {es : List Expr}, XOk X T W o k c → C.Good → C.Same → okPts c ps es = true →
    PGs X es (gsOf C T (slotsPs ps) (fun ds ρ => bindPs ps ds ρ)) ∧ (assignEach es X.env).length = es.length ∧ (assignEach es X.env).findIdx? (·.1) = none ∧ ps.length = es.length
  | [], X, W, c, C, es, K, hC, hS, h => by
    unfold okPts at h
    split at h
    · exact ⟨rgs_nil, rfl, rfl, rfl⟩
    · cases h
  | p :: ps, X, W, c, C, es, K, hC, hS, h => by
    unfold okPts at h
    split at h
    · rename_i e es
      rw [Bool.and_eq_true] at h
      have h1 := sPt p K hC hS h.1
      obtain ⟨h2, h3, h4, h5⟩ := sPts ps K hC hS h.2
      have ns : assignEach (e :: es) X.env = (false, assign e X.env) :: assignEach es X.env := by
        cases p with
        | v i =>
          have h := h.1
          unfold okPt at h
          split at h
          · rfl
          · cases h
        | t ps =>
          have h := h.1
          unfold okPt at h
          split at h
          · rfl
          · cases h
      refine ⟨rgs_cons hS h1 h2 (by rw [ns]; rfl), by rw [ns, List.length_cons, List.length_cons, h3], ?_, by rw [List.length_cons, List.length_cons, h5]⟩
      rw [ns, List.findIdx?_cons]
      rw [if_neg (by simp), h4]
      rfl
    · cases h
end
theorem okEs_star : ∀ {xs : mEs} {c : Cv} {es : List Expr} {q : List LamQ}, okEs c xs es = some q → ∀ e ∈ es, notStar e = true
  | .nil, c, es, q, h => by
    unfold okEs at h
    split at h
    · intro e he; cases he
    · cases h
  | .cons x r, c, es, q, h => by
    unfold okEs at h
    split at h
    · rename_i e es
      obtain ⟨h1, h2⟩ := ck_and h
      obtain ⟨a, b, h3, h4, _⟩ := and_some h2
      intro e' he
      rcases List.mem_cons.mp he with rfl | he
      · exact h1
      · exact okEs_star h4 e' he
    · cases h
theorem okEs_one {x : mE} {xs : mEs} {c : Cv} {es : List Expr} {q : List LamQ} (h : okEs c (.cons x xs) es = some q) : ∃ e es' q1 q2, es = e :: es' ∧ okE c x e = some q1 ∧ okEs c xs es' = some q2 ∧ q = q1 ++ q2 := by
  unfold okEs at h
  split at h
  · rename_i e es
    obtain ⟨_, h2⟩ := ck_and h
    obtain ⟨a, b, h3, h4, h5⟩ := and_some h2
    exact ⟨e, es, a, b, rfl, h3, h4, h5⟩
  · cases h
theorem okTs_one {x : mT} {xs : mTs} {c : Cv} {es : List Expr} {q : List LamQ} (h : okTs c (.cons x xs) es = some q) : ∃ e es' q1 q2, es = e :: es' ∧ okT c x e = some q1 ∧ okTs c xs es' = some q2 ∧ q = q1 ++ q2 := by
  unfold okTs at h
  split at h
  · rename_i e es
    obtain ⟨a, b, h3, h4, h5⟩ := and_some h
    exact ⟨e, es, a, b, rfl, h3, h4, h5⟩
  · cases h
theorem okEs_nil {c : Cv} {es : List Expr} {q : List LamQ} (h : okEs c .nil es = some q) : es = [] := by
  unfold okEs at h
  split at h
  · rfl
  · cases h
theorem okTs_nil {c : Cv} {es : List Expr} {q : List LamQ} (h : okTs c .nil es = some q) : es = [] := by
  unfold okTs at h
  split at h
  · rfl
  · cases h
theorem okK_len : ∀ {ks : mK} {c : Cv} {keys : List (Option Expr)} {values : List Expr} {q : List LamQ}, okK c ks keys values = some q → keys.all (·.isSome) = true ∧ keys.length = values.length ∧ (evK o ks).length = keys.length ∧ (evK o ks).map Prod.fst = keysK ks
  | .nil, c, keys, values, q, h => by
    unfold okK at h
    split at h
    · exact ⟨rfl, rfl, rfl, rfl⟩
    · cases h
  | .cons kk x r, c, keys, values, q, h => by
    unfold okK at h
    split at h
    · obtain ⟨_, h2⟩ := ck_and h
      obtain ⟨a, b, h3, h4, _⟩ := and_some h2
      obtain ⟨e1, e2, e3, e4⟩ := okK_len h4
      refine ⟨by simpa using e1, by simp [e2], ?_, ?_⟩
      · unfold evK; simp [e3]
      · unfold evK keysK; simp [e4]
    · cases h
def pairs : mI → Bool
  | .enum _ => true
  | .zip _ _ => true
  | _ => false
def ShpOk (m : mI) (tg : Expr) : Prop := pairs m = true → ∃ es kk pos, tg = .Tuple es kk pos
theorem shp_ok {m : mI} {p : Pt} {c : Cv} {tg : Expr} (h : shp m p = true) (hp : okPt c p tg = true) : ShpOk m tg := by
  intro hm
  cases p with
  | v i => cases m <;> first | (cases hm; done) | (cases h; done)
  | t ps =>
    unfold okPt at hp
    split at hp
    · exact ⟨_, _, _, rfl⟩
    · cases hp
mutual
theorem sE : ∀ (m : mE) {X : Cx} {W : WX} {c : Cv} {e : Expr} {q : List LamQ}, XOk X T W o k c → okE c m e = some q → LQ X T q → PE X e (eOf (CX1 X) T W (ev o m))
  | .var i, X, W, c, e, q, K, h, hq => by
    simp only [okE] at h
    split at h
    · obtain ⟨h, _⟩ := ck_some h
      rw [Bool.and_eq_true, Bool.and_eq_true] at h
      have p := plainN_of h.2
      exact re_var (K.hN ▸ of_decide_eq_true h.1.1) (vis_of K h.1.2) p.1 p.2
    · cases h
  | .lit x, X, W, c, e, q, K, h, hq => by
    simp only [okE] at h
    split at h
    · exact lit_pe (ck_some h).1
    · cases h
  | .typ n, X, W, c, e, q, K, h, hq => by
    simp only [okE] at h
    split at h
    · obtain ⟨h, _⟩ := ck_some h
      rw [Bool.and_eq_true, Bool.and_eq_true, Bool.and_eq_true] at h
      obtain ⟨g1, g2, g3⟩ := gl_of K h.1.1.1
      obtain rfl := of_decide_eq_true h.1.1.2
      exact re_const (pe_bltn g1 (K.pr.bn _ h.2) (ty_boot n (List.contains_iff_mem.mp h.1.2)) (v := .ty n) rfl g3 g2) fun B H => .ty n
    · cases h
  | .cls g, X, W, c, e, q, K, h, hq => by
    simp only [okE] at h
    split at h
    · obtain ⟨h, _⟩ := ck_some h
      rw [Bool.and_eq_true, Bool.and_eq_true] at h
      obtain ⟨g1, g2, g3⟩ := gl_of K h.1.1
      obtain rfl := of_decide_eq_true h.1.2
      exact re_const (pe_glob g1 (K.pr.cls g h.2) (v := .ref (T.ga g)) rfl g2) fun B H => .glo g
    · cases h
  | .con s x, X, W, c, e, q, K, h, hq => by
    simp only [okE] at h
    split at h
    · obtain ⟨h, _⟩ := ck_some h
      rw [Bool.and_eq_true, Bool.and_eq_true] at h
      obtain ⟨g1, g2, g3⟩ := gl_of K h.1.1
      obtain rfl := of_decide_eq_true h.1.2
      exact con_pe K h.2 g1 g2
    · cases h
  | .bin op a b, X, W, c, e, q, K, h, hq => by
    simp only [okE] at h
    split at h
    · obtain ⟨h1, h2⟩ := ck_and h
      obtain ⟨x, y, h3, h4, rfl⟩ := and_some h2
      obtain rfl := of_decide_eq_true h1
      exact re_bin (bin_ok K.hK _) (sE a K h3 hq.left) (sE b K h4 hq.right)
    · cases h
  | .neg a, X, W, c, e, q, K, h, hq => by
    simp only [okE] at h
    split at h
    · exact re_un (un_ok _) (sE a K h hq)
    · cases h
  | .cmp op a b, X, W, c, e, q, K, h, hq => by
    simp only [okE] at h
    split at h
    · obtain ⟨h1, h2⟩ := ck_and h
      obtain ⟨x, y, h3, h4, rfl⟩ := and_some h2
      rw [Bool.and_eq_true] at h1
      obtain rfl := of_decide_eq_true h1.1
      exact re_cmp (cmpA_ok K.hK (by have := units_of K; omega) _) (set_of h1.2 _) (sE a K h3 hq.left) (sE b K h4 hq.right)
    · cases h
  | .notV a, X, W, c, e, q, K, h, hq => by
    simp only [okE] at h
    split at h
    · exact not_ok (sE a K h hq)
    · cases h
  | .andV xs, X, W, c, e, q, K, h, hq => by
    simp only [okE] at h
    split at h
    · exact sAnd xs K h hq
    · cases h
  | .orV xs, X, W, c, e, q, K, h, hq => by
    simp only [okE] at h
    split at h
    · exact sOr xs K h hq
    · cases h
  | .ife t a b, X, W, c, e, q, K, h, hq => by
    simp only [okE] at h
    split at h
    · obtain ⟨x, y, h1, h2, rfl⟩ := and_some h
      obtain ⟨y, z, h3, h4, rfl⟩ := and_some h2
      exact re_ife (sT t K h1 hq.left) (sE a K h3 hq.right.left) (sE b K h4 hq.right.right)
    · cases h
  | .tup xs, X, W, c, e, q, K, h, hq => by
    simp only [okE] at h
    split at h
    · exact re_tup (sEs xs K h hq)
    · cases h
  | .lst m xs, X, W, c, e, q, K, h, hq => by
    simp only [okE] at h
    split at h
    · cases m with
      | true => exact re_lstM (sEs xs K h hq)
      | false => exact re_lst (sEs xs K h hq)
    · cases h
  | .ix a b, X, W, c, e, q, K, h, hq => by
    simp only [okE] at h
    split at h
    · obtain ⟨h1, h2⟩ := ck_and h
      obtain ⟨x, y, h3, h4, rfl⟩ := and_some h2
      exact re_ix (ix_ok K.hK (by have := units_of K; omega)) (slice_of h1) (sE a K h3 hq.left) (sE b K h4 hq.right)
    · cases h
  | .cut a lo hi, X, W, c, e, q, K, h, hq => by
    simp only [okE] at h
    split at h
    · obtain ⟨x, y, h3, h4, rfl⟩ := and_some h
      obtain ⟨y, z, h5, h6, rfl⟩ := and_some h4
      exact re_cut K.hK (sE a K h3 hq.left) (sO lo K h5 hq.right.left) (sO hi K h6 hq.right.right)
    · cases h
  | .rev a, X, W, c, e, q, K, h, hq => by
    simp only [okE] at h
    split at h
    · exact re_rev K.hK (sE a K h hq)
    · cases h
  | .call f md xs, X, W, c, e, q, K, h, hq => by
    simp only [okE] at h
    split at h
    · rename_i x p a as pos
      obtain ⟨h1, h2⟩ := ck_and h
      rw [Bool.and_eq_true, Bool.and_eq_true, Bool.and_eq_true, Bool.or_eq_true] at h1
      obtain ⟨⟨⟨h1, h3⟩, h4⟩, h5⟩ := h1
      obtain ⟨g1, g2, g3⟩ := gl_of K h1
      obtain rfl := of_decide_eq_true h3
      obtain ⟨fa, m1, m2, m3⟩ := K.pr.fnG f h4
      have st := okEs_star h2
      have hs := star_of (st a (by simp)) as X.env
      have hp := noStar_any (fun e he => st e (by simp [he])) pos X.env (es := as)
      have args := sEs xs K h2 hq
      have rm := K.room.mono (Nat.le_add_right k 2)
      match md with
      | 0 => exact re_pure m3 rm K.gd K.tk g1 m1 m2 args g2 hs hp
      | 1 => exact re_eff nil_X m3 rm K.gd K.tk g1 m1 m2 args g2 hs hp
      | n + 2 =>
        have hfr : c.fr = true := h5.resolve_left (by simp)
        exact re_lend (K.fr hfr).1 m3 rm K.gd g1 m1 m2 args g2 hs hp
    · cases h
  | .bi f xs, X, W, c, e, q, K, h, hq => by
    simp only [okE] at h
    split at h
    · rename_i x p a as pos
      obtain ⟨h1, h2⟩ := ck_and h
      rw [Bool.and_eq_true, Bool.and_eq_true] at h1
      obtain ⟨⟨h1, h3⟩, h4⟩ := h1
      obtain ⟨g1, g2, g3⟩ := gl_of K h1
      have st := okEs_star h2
      exact bi_pe K (of_decide_eq_true h3) h4 g1 g2 g3 (sEs xs K h2 hq) (star_of (st a (by simp)) as X.env) (noStar_any (fun e he => st e (by simp [he])) pos X.env)
    · cases h
  | .comp p own it t x, X, W, c, e, q, K, h, hq => by
    simp only [okE] at h
    split at h
    · rename_i elt tg i ifs scope pos
      obtain ⟨h1, h2⟩ := ck_and h
      obtain ⟨qi, qb, h3, h4, rfl⟩ := and_some h2
      obtain ⟨h5, rfl⟩ := bare_some h4
      obtain ⟨qt, qe, h6, h7, h8⟩ := and_some h5
      have e1 : qt = [] := (List.append_eq_nil_iff.mp h8.symm).1
      have e2 : qe = [] := (List.append_eq_nil_iff.mp h8.symm).2
      subst e1; subst e2
      rw [Bool.and_eq_true, Bool.and_eq_true, Bool.and_eq_true, Bool.and_eq_true] at h1
      obtain ⟨⟨⟨⟨b1, b2⟩, b3⟩, b4⟩, b5⟩ := h1
      have ok := blk_of K b1
      refine re_lc nil_X K.calm K.nd ok (fun j hj => ?_) (sI it K h3 hq.left (shp_ok b5 b3)) (fun s H a cl fp => sPt p (blk_ok K ok s H a cl fp) good_B same_B b3) (fun s H a cl fp => sIf_ t (blk_ok K ok s H a cl fp) h6 LQ.nil) (fun s H a cl fp => pe_B (sE x (blk_ok K ok s H a cl fp) h7 LQ.nil)) (fold_of b4 X.env)
      have := List.all_eq_true.mp b2 j hj
      exact List.contains_iff_mem.mp this
    · cases h
  | .app a x, X, W, c, e, q, K, h, hq => by
    simp only [okE] at h
    split at h
    · rename_i l ap r cp
      obtain ⟨h1, h2⟩ := ck_and h
      obtain ⟨x', y, h3, h4, rfl⟩ := and_some h2
      rw [Bool.and_eq_true, Bool.and_eq_true] at h1
      have hs := star_of h1.2 [] X.env
      exact re_app (sE a K h3 hq.left) (sE x K h4 hq.right) (base_of h1.1.2 _ _ _) (by rw [hs]; rfl) h1.1.1 hs rfl
    · cases h
  | .bits x, X, W, c, e, q, K, h, hq => by
    simp only [okE] at h
    split at h
    · obtain ⟨h1, h2⟩ := ck_and h
      rw [Bool.and_eq_true] at h1
      exact re_bits (sE x K h2 hq) (base_of h1.2 _ _ _) h1.1
    · cases h
  | .dict ks, X, W, c, e, q, K, h, hq => by
    simp only [okE] at h
    split at h
    · rename_i keys values pos
      obtain ⟨h1, h2⟩ := ck_and h
      rw [Bool.and_eq_true, Bool.and_eq_true] at h1
      obtain ⟨e1, e2, e3, e4⟩ := okK_len (o := o) h2
      have l15 : keys.length ≤ 15 := of_decide_eq_true h1.1.1
      exact re_dict (sK ks K h2 hq pos) e1 e2 (of_decide_eq_true h1.1.2) l15 (by rw [e3]; exact l15) (by rw [e4]; exact h1.2)
    · cases h
  | .dict0 m, X, W, c, e, q, K, h, hq => by
    simp only [okE] at h
    split at h
    · exact re_dict0
    · cases h
  | .lam l caps, X, W, c, e, q, K, h, hq => by
    simp only [okE] at h
    split at h
    · rename_i params body scope pos
      obtain ⟨h1, h2⟩ := ck_and h
      cases h2
      rw [Bool.and_eq_true] at h1
      obtain ⟨L, A, hd, hf⟩ := hq ⟨l, params, body, scope, caps⟩ (by simp)
      refine re_lam A hd ?_
      rw [hf, K.hN, K.sc]
      exact h1.2
    · cases h
  | .fld x f, X, W, c, e, q, K, h, hq => by
    simp only [okE] at h
    split at h
    · obtain ⟨h1, h2⟩ := ck_and h
      rw [Bool.and_eq_true] at h1
      obtain rfl := of_decide_eq_true h1.1
      exact re_fld K.hK K.pr.ob (sE x K h2 hq) (base_of h1.2 _ _ _)
    · cases h
  | .new g fI xs, X, W, c, e, q, K, h, hq => by
    simp only [okE] at h
    split at h
    · rename_i x p a as pos
      obtain ⟨h1, h2⟩ := ck_and h
      rw [Bool.and_eq_true, Bool.and_eq_true] at h1
      obtain ⟨g1, g2, g3⟩ := gl_of K h1.1.1
      obtain rfl := of_decide_eq_true h1.1.2
      obtain ⟨fa, m1, m2, m3⟩ := K.pr.new g fI h1.2
      have st := okEs_star h2
      exact re_new m2 m3 (K.room.mono (by omega)) K.gd K.tk g1 m1 (sEs xs K h2 hq) g2 (star_of (st a (by simp)) as X.env) (noStar_any (fun e he => st e (by simp [he])) pos X.env)
    · cases h
  | .comp2 p own it t p1 vs1 it1 t1 x, X, W, c, e, q, K, h, hq => by
    simp only [okE] at h
    split at h
    · rename_i elt tg i ifs tg1 i1 ifs1 scope pos
      obtain ⟨h1, h2⟩ := ck_and h
      obtain ⟨qi, qb, h3, h4, rfl⟩ := and_some h2
      obtain ⟨h5, rfl⟩ := bare_some h4
      obtain ⟨qt, qe, h6, h7, h8⟩ := and_some h5
      obtain ⟨qi1, qe1, h9, h10, h11⟩ := and_some h7
      obtain ⟨qt1, qe2, h12, h13, h14⟩ := and_some h10
      have e1 := List.append_eq_nil_iff.mp h8.symm
      obtain ⟨e1, e2⟩ := e1
      subst e1; subst e2
      have e3 := List.append_eq_nil_iff.mp h11.symm
      obtain ⟨e3, e4⟩ := e3
      subst e3; subst e4
      have e5 := List.append_eq_nil_iff.mp h14.symm
      obtain ⟨e5, e6⟩ := e5
      subst e5; subst e6
      simp only [Bool.and_eq_true] at h1
      obtain ⟨⟨⟨⟨⟨⟨⟨⟨⟨b1, b2⟩, b3⟩, b4⟩, b5⟩, b6⟩, b7⟩, b8⟩, b9⟩, b10⟩ := h1
      have ok := blk_of K b1
      exact re_lc2 nil_X K.calm K.nd ok (fun j hj => List.contains_iff_mem.mp (List.all_eq_true.mp b3 j hj)) (fun j hj => List.contains_iff_mem.mp (List.all_eq_true.mp b2 j hj)) (fun j hj => List.contains_iff_mem.mp (List.all_eq_true.mp b4 j hj)) (sI it K h3 hq.left (shp_ok b9 b5)) (fun s H a cl fp => sPt p (blk_ok K ok s H a cl fp) good_B same_B b5) (fun s H a cl fp => sIf_ t (blk_ok K ok s H a cl fp) h6 LQ.nil)
        (fun s H a cl fp => pi_B (sI it1 (blk_ok K ok s H a cl fp) h9 LQ.nil (shp_ok b10 b6))) (fun s H a cl fp => sPt p1 (blk_ok K ok s H a cl fp) good_B same_B b6) (fun s H a cl fp => sIf_ t1 (blk_ok K ok s H a cl fp) h12 LQ.nil) (fun s H a cl fp => pe_B (sE x (blk_ok K ok s H a cl fp) h13 LQ.nil)) (fold_of b7 X.env) (fun env => fold_of b8 env)
    · cases h
theorem sT : ∀ (m : mT) {X : Cx} {W : WX} {c : Cv} {e : Expr} {q : List LamQ}, XOk X T W o k c → okT c m e = some q → LQ X T q → PT X e (bOf (CX1 X) T W (evT o m))
  | .yes, X, W, c, e, q, K, h, hq => by simp only [okT] at h; cases h
  | .cmp op a b, X, W, c, e, q, K, h, hq => by
    simp only [okT] at h
    split at h
    · obtain ⟨h1, h2⟩ := ck_and h
      obtain ⟨x, y, h3, h4, rfl⟩ := and_some h2
      rw [Bool.and_eq_true] at h1
      obtain rfl := of_decide_eq_true h1.1
      exact rt_cmp (cmpA_ok K.hK (by have := units_of K; omega) _) (set_of h1.2 _) (sE a K h3 hq.left) (sE b K h4 hq.right)
    · cases h
  | .tru x, X, W, c, e, q, K, h, hq => by
    simp only [okT] at h
    obtain ⟨h1, h2⟩ := ck_and h
    exact rt_tru K.hK (sE x K h2 hq) (plainT_of h1 X.env)
  | .not t, X, W, c, e, q, K, h, hq => by
    simp only [okT] at h
    split at h
    · exact rt_not (sT t K h hq)
    · cases h
  | .and ts, X, W, c, e, q, K, h, hq => by
    simp only [okT] at h
    split at h
    · exact (sTA ts K h hq).pt
    · cases h
  | .or ts, X, W, c, e, q, K, h, hq => by
    simp only [okT] at h
    split at h
    · exact (sTO ts K h hq).pt
    · cases h
theorem sIf_ : ∀ (m : mT) {X : Cx} {c : Cv} {es : List Expr} {q : List LamQ}, XOk X T W0 o k c → okIf c m es = some q → LQ X T q → PTs X es (bOf CB T W0 (evT o m))
  | .yes, X, c, es, q, K, h, hq => by
    simp only [okIf] at h
    split at h
    · exact ⟨fun pins s σ H Q I ⟨Φ, μ, ρ, G, r, o⟩ => pts_nil.run pins s σ H Q I (o μ H true .refl r.g rfl)⟩
    · cases h
  | .cmp op a b, X, c, es, q, K, h, hq => by
    simp only [okIf] at h
    split at h
    · obtain ⟨h1, h2⟩ := ck_and h
      obtain ⟨x, y, h3, h4, rfl⟩ := and_some h2
      rw [Bool.and_eq_true] at h1
      obtain rfl := of_decide_eq_true h1.1
      exact pts_one (pt_B (rt_cmp (cmpA_ok K.hK (by have := units_of K; omega) _) (set_of h1.2 _) (sE a K h3 hq.left) (sE b K h4 hq.right)))
    · cases h
  | .tru x, X, c, es, q, K, h, hq => by
    simp only [okIf] at h
    split at h
    · obtain ⟨h1, h2⟩ := ck_and h
      exact pts_one (pt_B (rt_tru K.hK (sE x K h2 hq) (plainT_of h1 X.env)))
    · cases h
  | .not t, X, c, es, q, K, h, hq => by
    simp only [okIf] at h
    split at h
    · exact pts_one (pt_B (rt_not (sT t K h hq)))
    · cases h
  | .and ts, X, c, es, q, K, h, hq => by
    simp only [okIf] at h
    split at h
    · exact pts_one (pt_B (sTA ts K h hq).pt)
    · cases h
  | .or ts, X, c, es, q, K, h, hq => by
    simp only [okIf] at h
    split at h
    · exact pts_one (pt_B (sTO ts K h hq).pt)
    · cases h
theorem sEs : ∀ (m : mEs) {X : Cx} {W : WX} {c : Cv} {es : List Expr} {q : List LamQ}, XOk X T W o k c → okEs c m es = some q → LQ X T q → PA X es (aOf (CX1 X) T W (evs o m))
  | .nil, X, W, c, es, q, K, h, hq => by
    obtain rfl := okEs_nil h
    exact ra_nil
  | .cons x r, X, W, c, es, q, K, h, hq => by
    have st := okEs_star h
    obtain ⟨e, es', q1, q2, rfl, h1, h2, rfl⟩ := okEs_one h
    exact ra_cons (sE x K h1 hq.left) (sEs r K h2 hq.right) (star_of (st e (by simp)) es' X.env)
theorem sAnd : ∀ (m : mEs) {X : Cx} {W : WX} {c : Cv} {es : List Expr} {q : List LamQ} {pos : Pos}, XOk X T W o k c → okEs c m es = some q → LQ X T q → PE X (.BoolOp .And es pos) (eOf (CX1 X) T W (evAnd o m))
  | .nil, X, W, c, es, q, pos, K, h, hq => peStuck fun _ _ => rfl
  | .cons x .nil, X, W, c, es, q, pos, K, h, hq => by
    obtain ⟨e, es', q1, q2, rfl, h1, h2, rfl⟩ := okEs_one h
    obtain rfl := okEs_nil h2
    exact re_one (sE x K h1 hq.left)
  | .cons x (.cons y r), X, W, c, es, q, pos, K, h, hq => by
    obtain ⟨e, es', q1, q2, rfl, h1, h2, rfl⟩ := okEs_one h
    have hr := sAnd (.cons y r) (pos := pos) K h2 hq.right
    obtain ⟨e2, es2, _, _, rfl, _, _, _⟩ := okEs_one h2
    exact re_and (sE x K h1 hq.left) hr
theorem sOr : ∀ (m : mEs) {X : Cx} {W : WX} {c : Cv} {es : List Expr} {q : List LamQ} {pos : Pos}, XOk X T W o k c → okEs c m es = some q → LQ X T q → PE X (.BoolOp .Or es pos) (eOf (CX1 X) T W (evOr o m))
  | .nil, X, W, c, es, q, pos, K, h, hq => peStuck fun _ _ => rfl
  | .cons x .nil, X, W, c, es, q, pos, K, h, hq => by
    obtain ⟨e, es', q1, q2, rfl, h1, h2, rfl⟩ := okEs_one h
    obtain rfl := okEs_nil h2
    exact re_one (sE x K h1 hq.left)
  | .cons x (.cons y r), X, W, c, es, q, pos, K, h, hq => by
    obtain ⟨e, es', q1, q2, rfl, h1, h2, rfl⟩ := okEs_one h
    have hr := sOr (.cons y r) (pos := pos) K h2 hq.right
    obtain ⟨e2, es2, _, _, rfl, _, _, _⟩ := okEs_one h2
    exact re_or (sE x K h1 hq.left) hr
theorem sTA : ∀ (m : mTs) {X : Cx} {W : WX} {c : Cv} {es : List Expr} {q : List LamQ} {pos : Pos}, XOk X T W o k c → okTs c m es = some q → LQ X T q → PW X (.BoolOp .And es pos) (bOf (CX1 X) T W (evTA o m))
  | .nil, X, W, c, es, q, pos, K, h, hq => ⟨fun wh pins s σ H Q I ⟨Φ, μ, ρ, G, r, o⟩ => o.elim⟩
  | .cons x .nil, X, W, c, es, q, pos, K, h, hq => by
    obtain ⟨e, es', q1, q2, rfl, h1, h2, rfl⟩ := okTs_one h
    obtain rfl := okTs_nil h2
    exact rw_and1 (sT x K h1 hq.left)
  | .cons x (.cons y r), X, W, c, es, q, pos, K, h, hq => by
    obtain ⟨e, es', q1, q2, rfl, h1, h2, rfl⟩ := okTs_one h
    have hr := sTA (.cons y r) (pos := pos) K h2 hq.right
    obtain ⟨e2, es2, _, _, rfl, _, _, _⟩ := okTs_one h2
    exact rw_and (sT x K h1 hq.left) hr
theorem sTO : ∀ (m : mTs) {X : Cx} {W : WX} {c : Cv} {es : List Expr} {q : List LamQ} {pos : Pos}, XOk X T W o k c → okTs c m es = some q → LQ X T q → PW X (.BoolOp .Or es pos) (bOf (CX1 X) T W (evTO o m))
  | .nil, X, W, c, es, q, pos, K, h, hq => ⟨fun wh pins s σ H Q I ⟨Φ, μ, ρ, G, r, o⟩ => o.elim⟩
  | .cons x .nil, X, W, c, es, q, pos, K, h, hq => by
    obtain ⟨e, es', q1, q2, rfl, h1, h2, rfl⟩ := okTs_one h
    obtain rfl := okTs_nil h2
    exact rw_or1 (sT x K h1 hq.left)
  | .cons x (.cons y r), X, W, c, es, q, pos, K, h, hq => by
    obtain ⟨e, es', q1, q2, rfl, h1, h2, rfl⟩ := okTs_one h
    have hr := sTO (.cons y r) (pos := pos) K h2 hq.right
    obtain ⟨e2, es2, _, _, rfl, _, _, _⟩ := okTs_one h2
    exact rw_or (sT x K h1 hq.left) hr
theorem sO : ∀ (m : mO) {X : Cx} {W : WX} {c : Cv} {e : Option Expr} {q : List LamQ}, XOk X T W o k c → okO c m e = some q → LQ X T q → PO X e (oOf (CX1 X) T W (evO o m))
  | .none, X, W, c, e, q, K, h, hq => by
    simp only [okO] at h
    split at h
    · exact ro_none
    · cases h
  | .some x, X, W, c, e, q, K, h, hq => by
    simp only [okO] at h
    split at h
    · exact ro_some (sE x K h hq)
    · cases h
theorem sK : ∀ (m : mK) {X : Cx} {W : WX} {c : Cv} {keys : List (Option Expr)} {values : List Expr} {q : List LamQ}, XOk X T W o k c → okK c m keys values = some q → LQ X T q → ∀ pos, PPs X pos keys values ((evK o m).map fun kf => (tC (.str kf.1), eOf (CX1 X) T W kf.2))
  | .nil, X, W, c, keys, values, q, K, h, hq, pos => by
    simp only [okK] at h
    split at h
    · exact pps_nil
    · cases h
  | .cons kk x r, X, W, c, keys, values, q, K, h, hq, pos => by
    simp only [okK] at h
    split at h
    · obtain ⟨h1, h2⟩ := ck_and h
      obtain ⟨a, b, h3, h4, rfl⟩ := and_some h2
      obtain rfl := of_decide_eq_true h1
      exact pps_cons pe_str (sE x K h3 hq.left) (sK r K h4 hq.right pos)
    · cases h
theorem sI : ∀ (m : mI) {X : Cx} {W : WX} {c : Cv} {tg e : Expr} {q : List LamQ}, XOk X T W o k c → okI c m e = some q → LQ X T q → ShpOk m tg → PI X tg e (iOf (CX1 X) T W (evI o m))
  | .gen x, X, W, c, tg, e, q, K, h, hq, hs => ri_gen K.hK nil_X (sE x K (by simpa only [okI] using h) hq)
  | .range1 x, X, W, c, tg, e, q, K, h, hq, _ => by
    simp only [okI] at h
    split at h
    · obtain ⟨h1, h2⟩ := ck_and h
      rw [Bool.and_eq_true, Bool.and_eq_true, Bool.and_eq_true] at h1
      obtain ⟨g1, g2, g3⟩ := gl_of K h1.1.1.1
      obtain rfl := of_decide_eq_true h1.1.1.2
      have hs := star_of h1.2 [] X.env
      exact ri_range1 g1 (K.pr.bn _ h1.1.2) (sE x K h2 hq) hs hs
    · cases h
  | .range2 x z, X, W, c, tg, e, q, K, h, hq, _ => by
    simp only [okI] at h
    split at h
    · rename_i _ a b _
      obtain ⟨h1, h2⟩ := ck_and h
      obtain ⟨q1, q2, h3, h4, rfl⟩ := and_some h2
      rw [Bool.and_eq_true, Bool.and_eq_true, Bool.and_eq_true, Bool.and_eq_true] at h1
      obtain ⟨g1, g2, g3⟩ := gl_of K h1.1.1.1.1
      obtain rfl := of_decide_eq_true h1.1.1.1.2
      have s1 := star_of h1.2 [] X.env
      have s2 := star_of h1.1.2 [b] X.env
      exact ri_range2 g1 (K.pr.bn _ h1.1.1.2) (sE x K h3 hq.left) (sE z K h4 hq.right) s2 s1 (by rw [s2, s1]; rfl) s1
    · cases h
  | .enum x, X, W, c, tg, e, q, K, h, hq, ht => by
    simp only [okI] at h
    split at h
    · obtain ⟨h1, h2⟩ := ck_and h
      rw [Bool.and_eq_true, Bool.and_eq_true, Bool.and_eq_true] at h1
      obtain ⟨g1, g2, g3⟩ := gl_of K h1.1.1.1
      obtain rfl := of_decide_eq_true h1.1.1.2
      have hs := star_of h1.2 [] X.env
      obtain ⟨es, kk, pt, rfl⟩ := ht rfl
      exact ri_enum K.hK nil_X g1 (K.pr.bn _ h1.1.2) (sE x K h2 hq) hs hs
    · cases h
  | .zip x z, X, W, c, tg, e, q, K, h, hq, ht => by
    simp only [okI] at h
    split at h
    · rename_i _ a b _
      obtain ⟨h1, h2⟩ := ck_and h
      obtain ⟨q1, q2, h3, h4, rfl⟩ := and_some h2
      rw [Bool.and_eq_true, Bool.and_eq_true, Bool.and_eq_true, Bool.and_eq_true] at h1
      obtain ⟨g1, g2, g3⟩ := gl_of K h1.1.1.1.1
      obtain rfl := of_decide_eq_true h1.1.1.1.2
      have s1 := star_of h1.2 [] X.env
      have s2 := star_of h1.1.2 [b] X.env
      obtain ⟨es, kk, pt, rfl⟩ := ht rfl
      exact ri_zip K.hK nil_X g1 (K.pr.bn _ h1.1.1.2) (sE x K h3 hq.left) (sE z K h4 hq.right) s2 s1 (by rw [s1]; rfl)
    · cases h
  | .down x z u, X, W, c, tg, e, q, K, h, hq, ht => by
    simp only [okI] at h
    split at h
    · rename_i _ a b d _
      obtain ⟨h1, h2⟩ := ck_and h
      obtain ⟨q1, q2, h3, h4, rfl⟩ := and_some h2
      obtain ⟨q3, q4, h5, h6, rfl⟩ := and_some h4
      rw [Bool.and_eq_true, Bool.and_eq_true, Bool.and_eq_true, Bool.and_eq_true, Bool.and_eq_true] at h1
      obtain ⟨g1, g2, g3⟩ := gl_of K h1.1.1.1.1.1
      obtain rfl := of_decide_eq_true h1.1.1.1.1.2
      have s0 := star_of h1.2 [] X.env
      have s1 := star_of h1.1.2 [d] X.env
      have s2 := star_of h1.1.1.2 [b, d] X.env
      exact ri_down g1 (K.pr.bn _ h1.1.1.1.2) (sE x K h3 hq.left) (sE z K h5 hq.right.left) (sE u K h6 hq.right.right) s2 s1 s0 (by rw [s1, s0]; rfl)
    · cases h
end
end
end DL

set_option Elab.async false
set_option linter.all false
set_option maxRecDepth 100000
set_option maxHeartbeats 4000000
/-! DL 18: statements. -/
namespace DL
open PySem PySem.Spec PyProof.Rows L2

/-- a comprehension whose list goes straight into a name -/
def swapB (sc : List (Str × NameKind)) (y : Str) (py vp : Pos) (scope : Scope) : Bool := decide (sc.lookup y = some .local) && (py.line == vp.line) && !(scope.names.any fun (n, k) => n == y && (k == .local || k == .cell))
/-- no stores are exchanged -/
def tName (sc : List (Str × NameKind)) (line : Nat) : Expr → Bool
  | .Name x pos => (sc.lookup x == some .local) && pos.line == line
  | _ => false
def noSwap (sc : List (Str × NameKind)) (ts : List Expr) : Expr → Bool
  | .Tuple vs _ _ => vs.length != ts.length || ts.any fun t => !tName sc ((ts.head?.map (·.pos.line)).getD 0) t
  | _ => true
mutual
def okS (c : Cv) : mS → Stmt → Ck
  | .pass, s => match s with
    | .Pass _ => some []
    | _ => none
  | .doc, s => match s with
    | .Expr (.Constant (.str _) _ _) _ => some []
    | _ => none
  | .ret e, s => match s with
    | .Return (some x) _ => okE c e x
    | _ => none
  | .retN, s => match s with
    | .Return none _ => some []
    | _ => none
  | .exp e, s => match s with
    | .Expr x _ => (ck (notComp x)).and (okE c e x)
    | _ => none
  | .asg p e, s => match s with
    | .Assign [tg] x _ => (ck (okPt c p tg && (match tg with
        | .Tuple ts _ _ => noSwap c.sc ts x && notComp x
        | _ => true))).and (okE c e x)
    | _ => none
  | .par i j a b, s => match s with
    | .Assign [.Tuple [.Name x px, .Name y py] _ _] (.Tuple [ea, eb] _ _) _ => (ck (decide (c.N[i]? = some x) && decide (c.N[j]? = some y) && decide (i ≠ j) && decide (x ≠ y) && decide (c.sc.lookup x = some .local) && decide (c.sc.lookup y = some .local) && (py.line == px.line) &&
        !([ea, eb].all (foldedForSure 8)) && !([ea, eb].all (constantsAlone 8)) && notStar ea && notStar eb)).and ((okE c a ea).and (okE c b eb))
    | _ => none
  | .put d k v, s => match s with
    | .Assign [.Subscript l r _] x _ => (okE c v x).and ((okE c d l).and (okE c k r))
    | _ => none
  | .ife t a b, s => match s with
    | .If g l r _ => (okT c t g).and ((okSs c a l).and (okSs c b r))
    | _ => none
  | .for_ p it b, s => match s with
    | .For tg i body [] _ => (ck (okPt c p tg && notSet i && shp it p)).and ((okI c it i).and (okSs c b body))
    | _ => none
  | .while_ _ t b, s => match s with
    | .While g body [] _ => (okT c t g).and (okSs c b body)
    | _ => none
  | .brk, s => match s with
    | .Break _ => some []
    | _ => none
  | .cnt, s => match s with
    | .Continue _ => some []
    | _ => none
  | .raise g xs, s => match s with
    | .Raise (some (.Call (.Name x _) (a :: as) [] _)) none _ => (ck (glB c.sc x && decide (x = c.cln g) && c.xin g)).and (okEs c xs (a :: as))
    | _ => none
  | .fault ia ie cs, s => match s with
    | .Try [.Expr (.Call (.Name a _) [] [] _) _, .Return (some (.Constant .none _ _)) _] (hd :: hds) [] [] _ => ck (c.fr && decide (c.N[ia]? = some a) && visB c.sc a && plainN a && okHds (c.N.getD ie "") c.cln cs (hd :: hds) && decide (c.N[ie]? = some (c.N.getD ie "")) && decide (c.sc.lookup (c.N.getD ie "") = some .local) && plainN (c.N.getD ie "") && cs.all fun q => c.xin q.1 && glB c.sc (c.cln q.1) && q.2.2.all (c.fld q.1))
    | _ => none
  | .frz _ s, st => okS c s st
  | .setf x f v, s => match s with
    | .Assign [.Attribute l f' _] e _ => (ck (decide (f' = f))).and ((okE c v e).and (okE c x l))
    | _ => none
def okSs (c : Cv) : mSs → List Stmt → Ck
  | .nil, s => match s with
    | [] => some []
    | _ => none
  | .cons x r, s => match s with
    | a :: as => (okS c x a).and (okSs c r as)
    | _ => none
end
section
variable {X : Cx} {T : Tb} {W : WX} {o : Orc} {k : Nat} {c : Cv}
theorem bk_of (K : XOk X T W o k c) : X.env.blockKind = .function := by
  unfold Env.blockKind
  rw [K.kind]
  rfl
theorem swap_of (K : XOk X T W o k c) {elt : Expr} {gens : List Comprehension} {scope : Scope} {vp py : Pos} {y : Str} {n : Nat} : swapsWith (.ListComp elt gens scope vp) (some (.Name y py)) n X.env = pure (swapB c.sc y py vp scope) := by
  unfold swapsWith swapB
  rw [bk_of K, ← K.sc]
  show pure _ = pure _
  congr 1
  have e : (X.env.kindOf y == some NameKind.local) = decide (X.env.scope.names.lookup y = some .local) := by
    show (X.env.scope.names.lookup y == some NameKind.local) = _
    cases h : X.env.scope.names.lookup y with
    | none => rfl
    | some kk => cases kk <;> rfl
  rw [e]
  rfl
theorem swapOther {e l r : Expr} {p : Pos} {n : Nat} {env : Env} : swapsWith e (some (.Subscript l r p)) n env = pure false := by cases e <;> rfl
theorem fm_ne {f : Expr → Option Str} : ∀ {ts : List Expr} (t : Expr), t ∈ ts → f t = none → ((ts.filterMap f).length != ts.length) = true := by
  have lt : ∀ {l : List Expr}, (∃ t ∈ l, f t = none) → (l.filterMap f).length < l.length := by
    intro l
    induction l with
    | nil => rintro ⟨t, ht, _⟩; cases ht
    | cons a l ih =>
      rintro ⟨t, ht, hf⟩
      rw [List.filterMap_cons]
      have le := List.length_filterMap_le f l
      cases e : f a with
      | none => simp only [List.length_cons]; omega
      | some b =>
        simp only [List.length_cons]
        rcases List.mem_cons.mp ht with rfl | ht
        · rw [hf] at e; cases e
        · have := ih ⟨t, ht, hf⟩
          omega
  intro ts t h1 h2
  have := lt ⟨t, h1, h2⟩
  simpa using Nat.ne_of_lt this
theorem noSwap_of (K : XOk X T W o k c) {ts : List Expr} {kt : Nat} {pt : Pos} {x : Expr} (h : noSwap c.sc ts x = true) : swappedStores [.Tuple ts kt pt] x X.env = pure none := by
  cases x with
  | Tuple vs kv pv =>
    unfold swappedStores
    simp only
    unfold noSwap at h
    rw [Bool.or_eq_true] at h
    split
    · rfl
    · rename_i c1
      split
      · rfl
      · rcases h with h | h
        · exact absurd (by rw [h]; simp) c1
        · obtain ⟨t, ht, hn⟩ := List.any_eq_true.mp h
          rw [fm_ne t ht ?_]
          · rfl
          · cases t with
            | Name id pos =>
              simp only [tName, Bool.not_eq_true'] at hn
              show (if _ then _ else _) = none
              rw [if_neg]
              show ¬ ((X.env.scope.names.lookup id == some NameKind.local && _) = true)
              rw [K.sc, hn]
              exact Bool.false_ne_true
            | _ => rfl
  | _ => rfl
theorem parOf (K : XOk X T W o k c) {x y : Str} {px py pt pt2 : Pos} {kt k2 : Nat} {ea eb : Expr} (hxy : x ≠ y) (hx : c.sc.lookup x = some .local) (hy : c.sc.lookup y = some .local) (hl : (py.line == px.line) = true) (h1 : [ea, eb].all (foldedForSure 8) = false) (h2 : [ea, eb].all (constantsAlone 8) = false)
    (s1 : notStar ea = true) (s2 : notStar eb = true) : swappedStores [.Tuple [.Name x px, .Name y py] kt pt] (.Tuple [ea, eb] k2 pt2) X.env = pure (some [x, y]) := by
  have kx : (X.env.kindOf x == some NameKind.local) = true := by
    show (X.env.scope.names.lookup x == some NameKind.local) = true
    rw [K.sc, hx]; rfl
  have ky : (X.env.kindOf y == some NameKind.local) = true := by
    show (X.env.scope.names.lookup y == some NameKind.local) = true
    rw [K.sc, hy]; rfl
  have hb := bk_of K
  have hxy' : (y == x) = false := by simpa using fun z => hxy z.symm
  have hd : [x, y].eraseDups = [x, y] := by simp [List.eraseDups_cons, hxy']
  unfold swappedStores
  simp only
  rw [hb]
  rw [if_neg (show ¬ ((!(([Expr.Name x px, Expr.Name y py].length == 2) || ([Expr.Name x px, Expr.Name y py].length == 3)) || ([ea, eb].length != [Expr.Name x px, Expr.Name y py].length) || (ScopeKind.function != ScopeKind.function)) = true) from by simp)]
  split
  · rename_i hs
    exfalso
    simp only [List.any_cons, List.any_nil, Bool.or_false, Bool.or_eq_true] at hs
    rcases hs with hs | hs
    · cases ea <;> first | (cases hs; done) | (simp [notStar] at s1)
    · cases eb <;> first | (cases hs; done) | (simp [notStar] at s2)
  · have e : ∀ {f : Expr → Option Str}, f (.Name x px) = some x → f (.Name y py) = some y → [Expr.Name x px, Expr.Name y py].filterMap f = [x, y] := fun {f} h1 h2 => by
      rw [List.filterMap_cons, h1, List.filterMap_cons, h2]; rfl
    rw [e ?_ ?_]
    · rw [if_neg (by rw [hd]; simp), if_neg (by rw [h1]; exact Bool.false_ne_true), if_neg (by rw [h2]; exact Bool.false_ne_true)]
    · show (if _ then _ else _) = _
      rw [if_pos]
      rw [Bool.and_eq_true]
      exact ⟨kx, by simp [Expr.pos]⟩
    · show (if _ then _ else _) = _
      rw [if_pos]
      rw [Bool.and_eq_true]
      exact ⟨ky, by simpa [Expr.pos] using hl⟩
end
end DL

set_option Elab.async false
set_option linter.all false
set_option maxRecDepth 100000
set_option maxHeartbeats 4000000
/-! DL 19: soundness for statements; functions by their small texts. -/
namespace DL
open PySem PySem.Spec PyProof.Rows L2

section
variable {T : Tb} {o : Orc} {k : Nat}
/-- a value into a name -/
theorem asg_name {X : Cx} {W : WX} {c : Cv} {i : Nat} {y : Str} {e : mE} {x : Expr} {py pos : Pos} {q : List LamQ} (K : XOk X T W o k c) (hp : okPt c (.v i) (.Name y py) = true) (he : okE c e x = some q) (hq : LQ X T q) : PS X (.Assign [.Name y py] x pos) (sOf (CX1 X) T W (sAsg (.v i) (ev o e))) := by
  unfold okPt at hp
  rw [Bool.and_eq_true, Bool.and_eq_true, Bool.or_eq_true] at hp
  have hN : X.N[i]? = some y := K.hN ▸ of_decide_eq_true hp.1.1
  have hL := loc_of K hp.1.2
  have hf : X.fn y = true ∨ X.env.scope.names.lookup y = some .local := hp.2.imp (K.fn y) fun z => by rw [K.sc]; exact of_decide_eq_true z
  have plain : swapsWith x (some (.Name y py)) pos.line X.env = pure false → PS X (.Assign [.Name y py] x pos) (sOf (CX1 X) T W (sAsg (.v i) (ev o e))) := fun hs => rs_set good_X K.nd hN hL hf (sE e K he hq) hs
  by_cases hc : notComp x = true
  · exact plain (comp_of hc _ _ _)
  · cases e with
    | comp p own it t z =>
      have he' := he
      simp only [okE] at he
      split at he
      · rename_i elt tg it' ifs scope vp
        by_cases sw : swapB c.sc y py vp scope = true
        · obtain ⟨h1, h2⟩ := ck_and he
          obtain ⟨qi, qb, h3, h4, rfl⟩ := and_some h2
          obtain ⟨h5, rfl⟩ := bare_some h4
          obtain ⟨qt, qe, h6, h7, h8⟩ := and_some h5
          have e1 : qt = [] := (List.append_eq_nil_iff.mp h8.symm).1
          have e2 : qe = [] := (List.append_eq_nil_iff.mp h8.symm).2
          subst e1; subst e2
          rw [Bool.and_eq_true, Bool.and_eq_true, Bool.and_eq_true, Bool.and_eq_true] at h1
          obtain ⟨⟨⟨⟨b1, b2⟩, b3⟩, b4⟩, b5⟩ := h1
          have ok := blk_of K b1
          have hyl : X.env.scope.names.lookup y = some .local := by
            unfold swapB at sw
            rw [Bool.and_eq_true, Bool.and_eq_true] at sw
            rw [K.sc]; exact of_decide_eq_true sw.1.1
          refine rs_setLc good_X nil_X K.calm K.nd hN hyl (by rw [swap_of K, sw]) ok (fun j hj => ?_) (sI it K h3 hq.left (shp_ok b5 b3)) (fun s H a cl fp => sPt p (blk_ok K ok s H a cl fp) good_B same_B b3) (fun s H a cl fp => sIf_ t (blk_ok K ok s H a cl fp) h6 LQ.nil) (fun s H a cl fp => pe_B (sE z (blk_ok K ok s H a cl fp) h7 LQ.nil)) (fold_of b4 X.env)
          exact List.contains_iff_mem.mp (List.all_eq_true.mp b2 j hj)
        · exact plain (by rw [swap_of K, show swapB c.sc y py vp scope = false by simpa using sw])
      · cases he
    | comp2 p own it t p1 vs1 it1 t1 z =>
      have he' := he
      simp only [okE] at he
      split at he
      · rename_i elt tg i' ifs tg1 i1 ifs1 scope vp
        by_cases sw : swapB c.sc y py vp scope = true
        · obtain ⟨h1, h2⟩ := ck_and he
          obtain ⟨qi, qb, h3, h4, rfl⟩ := and_some h2
          obtain ⟨h5, rfl⟩ := bare_some h4
          obtain ⟨qt, qe, h6, h7, h8⟩ := and_some h5
          obtain ⟨qi1, qe1, h9, h10, h11⟩ := and_some h7
          obtain ⟨qt1, qe2, h12, h13, h14⟩ := and_some h10
          obtain ⟨e1, e2⟩ := List.append_eq_nil_iff.mp h8.symm
          subst e1; subst e2
          obtain ⟨e3, e4⟩ := List.append_eq_nil_iff.mp h11.symm
          subst e3; subst e4
          obtain ⟨e5, e6⟩ := List.append_eq_nil_iff.mp h14.symm
          subst e5; subst e6
          simp only [Bool.and_eq_true] at h1
          obtain ⟨⟨⟨⟨⟨⟨⟨⟨⟨b1, b2⟩, b3⟩, b4⟩, b5⟩, b6⟩, b7⟩, b8⟩, b9⟩, b10⟩ := h1
          have ok := blk_of K b1
          have hyl : X.env.scope.names.lookup y = some .local := by
            unfold swapB at sw
            rw [Bool.and_eq_true, Bool.and_eq_true] at sw
            rw [K.sc]; exact of_decide_eq_true sw.1.1
          exact rs_setLc2 good_X nil_X K.calm K.nd hN hyl (by rw [swap_of K, sw]) ok (fun j hj => List.contains_iff_mem.mp (List.all_eq_true.mp b3 j hj)) (fun j hj => List.contains_iff_mem.mp (List.all_eq_true.mp b2 j hj)) (fun j hj => List.contains_iff_mem.mp (List.all_eq_true.mp b4 j hj)) (sI it K h3 hq.left (shp_ok b9 b5)) (fun s H a cl fp => sPt p (blk_ok K ok s H a cl fp) good_B same_B b5) (fun s H a cl fp => sIf_ t (blk_ok K ok s H a cl fp) h6 LQ.nil)
            (fun s H a cl fp => pi_B (sI it1 (blk_ok K ok s H a cl fp) h9 LQ.nil (shp_ok b10 b6))) (fun s H a cl fp => sPt p1 (blk_ok K ok s H a cl fp) good_B same_B b6) (fun s H a cl fp => sIf_ t1 (blk_ok K ok s H a cl fp) h12 LQ.nil) (fun s H a cl fp => pe_B (sE z (blk_ok K ok s H a cl fp) h13 LQ.nil)) (fold_of b7 X.env) (fun env => fold_of b8 env)
        · exact plain (by rw [swap_of K, show swapB c.sc y py vp scope = false by simpa using sw])
      · cases he
    | _ =>
      exfalso
      apply hc
      simp only [okE] at he
      first
        | (split at he <;> first | rfl | (cases he; done))
        | skip
theorem hdC_of {X : Cx} {W : WX} {c : Cv} (K : XOk X T W o k c) {q : Cls1} (h : (c.xin q.1 && glB c.sc (c.cln q.1) && q.2.2.all (c.fld q.1)) = true) : HdC X T c.cln q := by
  rw [Bool.and_eq_true, Bool.and_eq_true] at h
  obtain ⟨g1, g2, g3⟩ := gl_of K h.1.2
  obtain ⟨E, _, Tx⟩ := K.pr.exc q.1 h.1.1
  exact ⟨⟨g1, g2, .inl E.hm⟩, Tx, fun f hf => K.pr.fld _ _ (List.all_eq_true.mp h.2 f hf)⟩
theorem swapAttr {e l : Expr} {f : Str} {p : Pos} {n : Nat} {env : Env} : swapsWith e (some (.Attribute l f p)) n env = pure false := by cases e <;> rfl
mutual
theorem sS : ∀ (m : mS) {X : Cx} {W : WX} {c : Cv} {s : Stmt} {q : List LamQ}, XOk X T W o k c → okS c m s = some q → LQ X T q → PS X s (sOf (CX1 X) T W (evS o m))
  | .pass, X, W, c, s, q, K, h, hq => by
    simp only [okS] at h
    split at h
    · exact rs_pass
    · cases h
  | .doc, X, W, c, s, q, K, h, hq => by
    simp only [okS] at h
    split at h
    · exact rs_doc
    · cases h
  | .ret e, X, W, c, s, q, K, h, hq => by
    simp only [okS] at h
    split at h
    · exact rs_ret (sE e K h hq)
    · cases h
  | .retN, X, W, c, s, q, K, h, hq => by
    simp only [okS] at h
    split at h
    · exact rs_retN
    · cases h
  | .exp e, X, W, c, s, q, K, h, hq => by
    simp only [okS] at h
    split at h
    · obtain ⟨h1, h2⟩ := ck_and h
      exact rs_exp (sE e K h2 hq) (comp_of h1 _ _ _)
    · cases h
  | .asg p e, X, W, c, s, q, K, h, hq => by
    simp only [okS] at h
    split at h
    · rename_i tg x pos
      obtain ⟨h1, h2⟩ := ck_and h
      rw [Bool.and_eq_true] at h1
      cases p with
      | v i =>
        have hp := h1.1
        unfold okPt at hp
        split at hp
        · exact asg_name K h1.1 h2 hq
        · cases hp
      | t ps =>
        have hp := h1.1
        unfold okPt at hp
        split at hp
        · rename_i ts kt pt
          have hw := h1.2
          simp only [Bool.and_eq_true] at hw
          refine rs_asg (sE e K h2 hq) (sPt (.t ps) K good_X same_X h1.1) (by unfold swapsWithSole; exact comp_of hw.2 _ _ _) (noSwap_of K hw.1) rfl
        · cases hp
    · cases h
  | .par i j a b, X, W, c, s, q, K, h, hq => by
    simp only [okS] at h
    split at h
    · rename_i x px y py kt pt ea eb k2 pt2 pos
      obtain ⟨h1, h2⟩ := ck_and h
      obtain ⟨q1, q2, h3, h4, rfl⟩ := and_some h2
      simp only [Bool.and_eq_true, decide_eq_true_eq, Bool.not_eq_true'] at h1
      obtain ⟨⟨⟨⟨⟨⟨⟨⟨⟨⟨c1, c2⟩, c3⟩, c4⟩, c5⟩, c6⟩, c7⟩, c8⟩, c9⟩, c10⟩, c11⟩ := h1
      have s1 := star_of c10 [eb] X.env
      have s2 := star_of c11 [] X.env
      exact rs_par good_X K.calm K.nd (K.hN ▸ c1) (K.hN ▸ c2) c3 (by rw [K.sc]; exact c5) (by rw [K.sc]; exact c6) (sE a K h3 hq.left) (sE b K h4 hq.right) s1 s2 (parOf K c4 c5 c6 c7 c8 c9 c10 c11) rfl
    · cases h
  | .put d kk v, X, W, c, s, q, K, h, hq => by
    simp only [okS] at h
    split at h
    · obtain ⟨x, y, h1, h2, rfl⟩ := and_some h
      obtain ⟨y, z, h3, h4, rfl⟩ := and_some h2
      exact rs_put (by have := units_of K; omega) (sE d K h3 hq.right.left) (sE kk K h4 hq.right.right) (sE v K h1 hq.left) swapOther
    · cases h
  | .ife t a b, X, W, c, s, q, K, h, hq => by
    simp only [okS] at h
    split at h
    · obtain ⟨x, y, h1, h2, rfl⟩ := and_some h
      obtain ⟨y, z, h3, h4, rfl⟩ := and_some h2
      exact rs_if (sT t K h1 hq.left) (sSs a K h3 hq.right.left) (sSs b K h4 hq.right.right)
    · cases h
  | .for_ p it b, X, W, c, s, q, K, h, hq => by
    simp only [okS] at h
    split at h
    · obtain ⟨h1, h2⟩ := ck_and h
      obtain ⟨x, y, h3, h4, rfl⟩ := and_some h2
      rw [Bool.and_eq_true, Bool.and_eq_true] at h1
      exact rs_for K.po K.calm (sI it K h3 hq.left (shp_ok h1.2 h1.1.1)) (sPt p K good_X same_X h1.1.1) (sSs b K h4 hq.right) (fold_of h1.1.2 X.env)
    · cases h
  | .while_ n t b, X, W, c, s, q, K, h, hq => by
    simp only [okS] at h
    split at h
    · obtain ⟨x, y, h3, h4, rfl⟩ := and_some h
      exact rs_while n K.po (sT t K h3 hq.left) (sSs b K h4 hq.right)
    · cases h
  | .brk, X, W, c, s, q, K, h, hq => by
    simp only [okS] at h
    split at h
    · exact rs_brk
    · cases h
  | .cnt, X, W, c, s, q, K, h, hq => by
    simp only [okS] at h
    split at h
    · exact rs_cnt
    · cases h
  | .raise g xs, X, W, c, s, q, K, h, hq => by
    simp only [okS] at h
    split at h
    · rename_i x p a as pos pos'
      obtain ⟨h1, h2⟩ := ck_and h
      rw [Bool.and_eq_true, Bool.and_eq_true] at h1
      obtain ⟨g1, g2, g3⟩ := gl_of K h1.1.1
      obtain rfl := of_decide_eq_true h1.1.2
      have st := okEs_star h2
      exact rs_raise K.calm K.tk (K.room.mono (Nat.le_add_left 2 k)) (K.pr.exc g h1.2).1 g1 (sEs xs K h2 hq) (star_of (st a (by simp)) as X.env) (noStar_any (fun e he => st e (by simp [he])) pos X.env)
    · cases h
  | .fault ia ie cs, X, W, c, s, q, K, h, hq => by
    simp only [okS] at h
    split at h
    · rename_i an p1 p2 p3 j p4 p5 hd hds pos
      obtain ⟨h1, _⟩ := ck_some h
      simp only [Bool.and_eq_true, decide_eq_true_eq] at h1
      obtain ⟨⟨⟨⟨⟨⟨⟨⟨c0, c1⟩, c2⟩, c3⟩, c4⟩, c5⟩, c6⟩, c7⟩, c8⟩ := h1
      obtain ⟨f1, f2, f3⟩ := K.fr c0
      have pa := plainN_of c3
      have pe := plainN_of c7
      exact rs_fault (en := c.N.getD ie "") f2 f3 K.nd K.tk K.hK K.pr.exm K.pr.lam (K.room.mono (Nat.le_succ _)) K.gd (K.hN ▸ c1) (vis_of K c2) pa.1 pa.2 (K.hN ▸ c5) (by rw [K.sc]; exact c6) pe.1 pe.2 (fun q hq => hdC_of K (List.all_eq_true.mp c8 q hq)) c4
    · cases h
  | .frz is s', X, W, c, s, q, K, h, hq => by
    simp only [okS] at h
    exact rs_frz (sS s' K h hq)
  | .setf x f v, X, W, c, s, q, K, h, hq => by
    simp only [okS] at h
    split at h
    · obtain ⟨h1, h2⟩ := ck_and h
      obtain ⟨a, b, h3, h4, rfl⟩ := and_some h2
      obtain rfl := of_decide_eq_true h1
      exact rs_setf K.hK K.pr.ob (sE x K h4 hq.right) (sE v K h3 hq.left) swapAttr
    · cases h
theorem sSs : ∀ (m : mSs) {X : Cx} {W : WX} {c : Cv} {s : List Stmt} {q : List LamQ}, XOk X T W o k c → okSs c m s = some q → LQ X T q → PSs X s (sOf (CX1 X) T W (evSs o m))
  | .nil, X, W, c, s, q, K, h, hq => by
    simp only [okSs] at h
    split at h
    · exact rss_nil
    · cases h
  | .cons x r, X, W, c, s, q, K, h, hq => by
    simp only [okSs] at h
    split at h
    · obtain ⟨a, b, h1, h2, rfl⟩ := and_some h
      exact rss_cons (sS x K h1 hq.left) (sSs r K h2 hq.right)
    · cases h
end
end
end DL

set_option Elab.async false
set_option linter.all false
set_option maxRecDepth 100000
set_option maxHeartbeats 4000000
/-! DL 20: the whole text: its functions and lambdas keep their promises, to any depth. -/
namespace DL
open PySem PySem.Spec PyProof.Rows L2

structure Fnc where
  name : Str
  N : List Str
  ar : Nat
  body : mSs
structure Txt where
  fns : List Fnc
  lams : List mE
  ask : Ask
  exm : Exm
  xf : Nat → List Str
  ob : Ob
def mkO (S : Txt) (p : (Nat → FS) × LR) : Orc := { fn := p.1, ar := fun f => S.fns[f]?.elim 0 Fnc.ar, lr := p.2, ask := S.ask, exm := S.exm, xf := S.xf, ob := S.ob }
def orcN (S : Txt) : Nat → (Nat → FS) × LR
  | 0 => (fun _ _ _ => .stuck, fun l => S.lams[l]?.elim (fun _ => .stuck) fun _ => lamRun fun _ _ => .stuck)
  | n + 1 => (fun f => S.fns[f]?.elim (fun _ _ => .stuck) fun F => fnS F.N.length (evSs (mkO S (orcN S n)) F.body), fun l => S.lams[l]?.elim (fun _ => .stuck) fun b => lamRun (ev (mkO S (orcN S n)) b))
/-- what is known at a depth -/
def orc (S : Txt) (n : Nat) : Orc := mkO S (orcN S n)
def Cv.at (c : Cv) (N : List Str) (sc : List (Str × NameKind)) : Cv := { c with N := N, sc := sc, fn := fun _ => true, fr := true }
def Cv.la (c : Cv) (N : List Str) (sc : List (Str × NameKind)) : Cv := { c with N := N, sc := sc, fn := fun _ => false, fr := false }
/-- where a function of the text stands -/
def FnFact (K : PySem.W.Frag) (mg : Str → Option Value) (c : Cv) (F : Fnc) : Prop :=
  ∃ (a : Addr) (x qual : Str) (params : Arguments) (body : List Stmt) (scope : Scope) (fd : FuncData), mg F.name = some (.ref a) ∧ FunD K x qual params body scope [] [] a fd ∧ FnScope F.N (F.N.take F.ar) scope ∧ Binds K fd (F.N.take F.ar) [] ∧ F.ar ≤ F.N.length ∧ okSs (c.at F.N scope.names) F.body body = some []
def FnAt (K : PySem.W.Frag) (c : Cv) (F : Fnc) (a : Addr) : Prop :=
  ∃ (x qual : Str) (params : Arguments) (body : List Stmt) (scope : Scope) (fd : FuncData), FunD K x qual params body scope [] [] a fd ∧ FnScope F.N (F.N.take F.ar) scope ∧ Binds K fd (F.N.take F.ar) [] ∧ F.ar ≤ F.N.length ∧ okSs (c.at F.N scope.names) F.body body = some []
/-- a lambda of the text -/
structure LamF (c : Cv) (L : LamD) (b : mE) : Prop where
  ok : LamOk L
  ck : okE (c.la L.free L.scope.names) b L.body = some []
/-- what is known of the program but for the promises -/
structure Bas (Pg : Program) (w : World) (K : PySem.W.Frag) (mg : Str → Option Value) (base : Heap) (T : Tb) (S : Txt) (c : Cv) : Prop where
  hK : T.K = K
  fns : ∀ f, c.fin f = true → ∃ F, S.fns[f]? = some F ∧ c.fnn f = F.name ∧ FnFact K mg c F
  lam : ∀ l L, T.lam l = some L → ∃ b, S.lams[l]? = some b ∧ LamF c L b
  cls : ∀ g, c.cin g = true → mg (c.cln g) = some (.ref (T.ga g))
  con : ∀ s x, c.con s x = true → ∃ u v, mg s = some u ∧ RelV v u ∧ ∀ (Cl : Addr → V → Prop) (Φ : Addr → Prop) (μ : List Addr) (H : Hp) (G : Sto), RG T Cl Φ μ H G → RP T.K T.ga (Bad Φ μ) H x v
  bn : ∀ x, c.bn x = true → mg x = none
  gcd : c.gcd = true → mg "gcd" = some (.builtin "math.gcd")
  ask : AskOk T S.ask
  exm : ExmOk T S.exm
  exc : ∀ g, c.xin g = true → ExcCls Pg w K mg base (c.cln g) (T.ga g) (S.xf g) ∧ S.xf g ≠ [] ∧ XfC K (T.ga g)
  fld : ∀ g f, c.fld g f = true → PySem.W.findIn K (.ref (T.ga g)) f = some none
  ob : ObOk T S.ob
  new : ∀ g f, c.nin g f = true → ∃ F a, S.fns[f]? = some F ∧ mg (c.cln g) = some (.ref (T.ga g)) ∧ Mk K (T.ga g) a ∧ FnAt K c F a
section
variable {Pg : Program} {w : World} {K : PySem.W.Frag} {mg : Str → Option Value} {base : Heap} {T : Tb} {S : Txt} {c : Cv} {o : Orc} {k : Nat}
theorem LamG.mono {j : Nat} {L : LamD} {fb : EF} (h : LamG Pg w K mg base T k L fb) (hj : k ≤ j) : LamG Pg w K mg base T j L fb :=
  ⟨h.1, fun cl A outer s H E f c hr hg => h.2 cl A outer s H E f c (hr.mono hj) hg⟩
theorem PrOk.re {c' : Cv} (h : PrOk Pg w K mg base T o k c) (e1 : c'.fin = c.fin) (e2 : c'.fnn = c.fnn) (e3 : c'.cin = c.cin) (e4 : c'.cln = c.cln) (e5 : c'.con = c.con) (e6 : c'.bn = c.bn) (e7 : c'.gcd = c.gcd) (e8 : c'.xin = c.xin) (e9 : c'.fld = c.fld) (e10 : c'.nin = c.nin) : PrOk Pg w K mg base T o k c' := by
  obtain ⟨h1, h2, h3, h4, h5, h6, h7, h8, h9, h10, h11, h12⟩ := h
  exact ⟨by rw [e1, e2]; exact h1, by rw [e3, e4]; exact h2, by rw [e5]; exact h3, by rw [e6]; exact h4, by rw [e7]; exact h5, h6, h7, by rw [e8, e4]; exact h8, by rw [e9]; exact h9, h10, h11, by rw [e10, e4]; exact h12⟩
theorem lenN {F : Fnc} (h : F.ar ≤ F.N.length) : (F.N.take F.ar).length = F.ar := by rw [List.length_take]; omega
/-- a body in its own context -/
theorem xok_fn {N : List Str} {ps : List Str} {qual : Str} {scope : Scope} {f : Addr} {cd : Value} {A : Around} {outer : List Env} {s : Shared} {H : Hp} {E : XK} (P0 : PrOk Pg w K mg base T o k c) (hK : T.K = K) (S0 : FnScope N ps scope) (hr : Room (k + 2) (A.deeper (envOfC qual scope s.heap.objs.size f cd))) (hg : A.guards = some []) :
    XOk (cx Pg w K mg base N qual scope f cd A outer s H E) T (fun cls d _ H => E cls d H) o k (c.at N scope.names) :=
  { pr := P0.re rfl rfl rfl rfl rfl rfl rfl rfl rfl rfl
    hK := hK
    hN := rfl
    nd := S0.nd
    sc := rfl
    kind := S0.kind
    calm := rfl
    room := hr
    gd := hg
    tk := takes_of rfl rfl rfl rfl
    po := passes_of rfl
    fn := fun _ _ => rfl
    fr := fun _ => ⟨fun _ => rfl, rfl, rfl⟩ }
theorem spD_len {n : Nat} {F : FS} {vs : List V} {H : Hp} {Q : VK} {E : XK} (h : spD T n F vs H Q E) : vs.length = n := h.1
theorem fn_ok {F : Fnc} {a : Addr} {x qual : Str} {params : Arguments} {body : List Stmt} {scope : Scope} {fd : FuncData} (P0 : PrOk Pg w K mg base T o k c) (hK : T.K = K) (D : FunD K x qual params body scope [] [] a fd) (Sc : FnScope F.N (F.N.take F.ar) scope) (hb : Binds K fd (F.N.take F.ar) []) (hl : F.ar ≤ F.N.length)
    (hck : okSs (c.at F.N scope.names) F.body body = some []) : FnG Pg w K mg base (k + 3) a (spD T F.ar (fnS F.N.length (evSs o F.body))) := by
  obtain ⟨oc, od, dV, kV, doc, pm, an, cdv, ct, osl, rfl, lk, hcd, _, _⟩ := D.ex
  refine fnG_of lk hcd Sc hb (fun vs H Q E h => by rw [lenN hl]; exact h.1) fun A outer s H vs Q E hr hg h => ?_
  obtain ⟨hn, Φ, μ, G, ds, g, r, out⟩ := h
  refine ⟨_, sSs F.body (xok_fn P0 hK Sc hr hg) hck LQ.nil, ?_⟩
  exact ⟨Φ, μ, start0 F.N.length ds, G, rel_start g r, body_end g out⟩
theorem lam_ok {L : LamD} {b : mE} (P0 : PrOk Pg w K mg base T o k c) (hK : T.K = K) (F : LamF c L b) : LamG Pg w K mg base T (k + 2) L (ev o b) := by
  refine ⟨F.ok, fun cl A outer s H E f cc hr hg => ?_⟩
  have K0 : XOk (lamX Pg w K mg base L cl A outer s H E f cc) T (fun cls d _ H => E cls d H) o k (c.la L.free L.scope.names) :=
    { pr := P0.re rfl rfl rfl rfl rfl rfl rfl rfl rfl rfl
      hK := hK
      hN := rfl
      nd := F.ok.nd
      sc := rfl
      kind := F.ok.kind
      calm := rfl
      room := hr
      gd := hg
      tk := takes_of rfl rfl rfl rfl
      po := passes_of rfl
      fn := fun _ h => by cases h
      fr := fun h => by cases h }
  exact sE b K0 F.ck LQ.nil
theorem prok (B : Bas Pg w K mg base T S c) : ∀ n, PrOk Pg w K mg base T (orc S n) (3 * n) c
  | 0 => by
    refine ⟨fun f hf => ?_, B.cls, B.con, B.bn, B.gcd, B.ask, B.exm, B.exc, B.fld, fun l L hl => ?_, B.ob, fun g f hf => ?_⟩
    · obtain ⟨F, e1, e2, a, x, qual, params, body, scope, fd, h1, h2, _⟩ := B.fns f hf
      exact ⟨a, by rw [e2]; exact h1, h2.kp, fun A outer s H us vs Q E hr hg e0 r ⟨_, _, _, _, _, _, _, z⟩ => z.elim⟩
    · obtain ⟨b, e1, F⟩ := B.lam l L hl
      refine ⟨fun _ _ => .stuck, ?_, F.ok, fun cl A outer s H E f cc hr hg => ⟨fun pins s σ H Q I ⟨_, _, _, _, _, z⟩ => z.elim⟩⟩
      show (S.lams[l]?.elim _ _) = _
      rw [e1]; rfl
    · obtain ⟨F, a, e1, e2, e3, _⟩ := B.new g f hf
      exact ⟨a, e2, e3, fun A outer s H us vs Q E hr hg e0 r ⟨_, _, _, _, _, _, _, z⟩ => z.elim⟩
  | n + 1 => by
    have ih := prok B n
    refine ⟨fun f hf => ?_, B.cls, B.con, B.bn, B.gcd, B.ask, B.exm, B.exc, B.fld, fun l L hl => ?_, B.ob, fun g f hf => ?_⟩
    · obtain ⟨F, e1, e2, a, x, qual, params, body, scope, fd, h1, h2, h3, h4, h5, h6⟩ := B.fns f hf
      refine ⟨a, by rw [e2]; exact h1, h2.kp, ?_⟩
      have := fn_ok (F := F) ih B.hK h2 h3 h4 h5 h6
      show FnG Pg w K mg base (3 * n + 3) a (spD T (S.fns[f]?.elim 0 Fnc.ar) (S.fns[f]?.elim _ _))
      rw [e1]
      exact this
    · obtain ⟨b, e1, F⟩ := B.lam l L hl
      refine ⟨ev (orc S n) b, ?_, (lam_ok ih B.hK F).mono (by omega)⟩
      show (S.lams[l]?.elim _ _) = _
      rw [e1]; rfl
    · obtain ⟨F, a, e1, e2, e3, x, qual, params, body, scope, fd, h2, h3, h4, h5, h6⟩ := B.new g f hf
      refine ⟨a, e2, e3, ?_⟩
      have := fn_ok (F := F) ih B.hK h2 h3 h4 h5 h6
      show FnG Pg w K mg base (3 * n + 3) a (spD T (S.fns[f]?.elim 0 Fnc.ar) (S.fns[f]?.elim _ _))
      rw [e1]
      exact this
end
end DL

set_option Elab.async false
set_option linter.all false
set_option maxRecDepth 100000
set_option maxHeartbeats 4000000
/-! DL 21: the law's call, from the caller's state. -/
namespace DL
open PySem PySem.Spec PyProof.Rows L2

open Classical in
/-- what is tracked when the law is called: the empty tables, the script -/
noncomputable def lawH (K : PySem.W.Frag) (tb : List Addr) (a : Addr) (ob : Obj) (xs : List V) : Hp := fun b =>
  if b ∈ tb then some (.tbl #[]) else if b = a ∧ K.lookup a = none then some (.frz ob (.lst xs)) else none
section
variable {K : PySem.W.Frag} {tb : List Addr} {a b : Addr} {ob : Obj} {xs : List V} {u : HO}
theorem lawH_tab (h : b ∈ tb) : lawH K tb a ob xs b = some (.tbl #[]) := by unfold lawH; rw [if_pos h]
theorem lawH_some (h : lawH K tb a ob xs b = some u) : (b ∈ tb ∧ u = .tbl #[]) ∨ (b = a ∧ K.lookup a = none ∧ u = .frz ob (.lst xs)) := by
  unfold lawH at h
  split at h
  · rename_i c; cases h; exact .inl ⟨c, rfl⟩
  · split at h
    · rename_i c; cases h; exact .inr ⟨c.1, c.2, rfl⟩
    · cases h
theorem lawH_scr (h1 : a ∉ tb) (h2 : K.lookup a = none) : lawH K tb a ob xs a = some (.frz ob (.lst xs)) := by unfold lawH; rw [if_neg h1, if_pos ⟨rfl, h2⟩]
end
/-- an object that is neither a row nor an empty table -/
def Heavy (o : Obj) : Prop := match o.data with
  | .seq _ _ => False
  | .fields vs => vs ≠ #[]
  | _ => True
abbrev scrO (vs : List Value) : Obj := { cls := .type "list", data := .seq vs.toArray }
abbrev noTab : Obj := { cls := .none, data := .fields #[] }
theorem lawH_heavy {K : PySem.W.Frag} {h : Heap} {tb : List Addr} {a b : Addr} {vs : List Value} {xs : List V} {o : Obj} (hT : ∀ b ∈ tb, h.get? b = some noTab) (ha : h.get? a = some (scrO vs)) (e : h.get? b = some o) (hv : Heavy o) : lawH K tb a (scrO vs) xs b = none := by
  cases q : lawH K tb a (scrO vs) xs b with
  | none => rfl
  | some u =>
    exfalso
    rcases lawH_some q with ⟨c, _⟩ | ⟨c, _, _⟩
    · have z := e.symm.trans (hT b c)
      cases z
      exact hv rfl
    · subst c
      have z := e.symm.trans ha
      cases z
      exact hv
theorem cx_none {P : Program} {w : World} {H : Hp} {s s' : Shared} {e : Value} (h : L2.CX P w [] H s (fun _ _ _ => False) e s') : False := by
  obtain ⟨_, _, _, _, _, _, _, _, _, _, _, _, z⟩ := h
  exact z
section
variable {P : Program} {w : World} {K : PySem.W.Frag} {mg mb : Str → Option Value} {k : Nat} {fa a : Addr} {cs : List (Addr × Addr)} {sp : Sp} {s : Shared} {vs : List Value} {ns : List Int}
theorem law_callG (KX : K.In s.heap) (hns : s.heap.Ns mainGlobals mg) (hb : s.heap.Ns builtinsNs mb) (hbb : ∀ x : Str, x ≠ "__name__" → mb x = bootBuiltins x) (hlim : s.heap.NoLimit) (hg : s.gens = #[])
    (hT : ∀ p ∈ cs, s.heap.get? p.2 = some noTab) (nT : ∀ p ∈ cs, K.lookup p.2 = none) (C : ∀ p ∈ cs, PySem.W.CodeHd s.heap p.1 p.2)
    (hbm : ∃ (bm : Addr) (ob : Obj), mg "__builtins__" = some (.ref bm) ∧ bm ≠ builtinsNs ∧ s.heap.get? bm = some ob ∧ ob.cls = .type "module" ∧ ob.dict = some builtinsNs ∧ ob.data = .plain)
    (ha : s.heap.get? a = some (scrO vs)) (hi : IntsAre vs ns) (hl : ns.length ≤ sizeLine) (hr : Room k callerA)
    (F : ∀ base : Heap, K.In base → base.Ns mainGlobals mg → (∀ p ∈ cs, LamX.TabB base mg p.1 p.2) → FnG P w K mg base k fa sp)
    (hsp : ∀ H : Hp, (∀ p ∈ cs, H p.2 = some (.tbl #[])) → SqL K H a (ns.map V.int) → sp [.ref a] H (fun v _ => v = .bl true) fun _ _ _ => False) :
    codeAny (model P w) callerA (.call (.ref fa) ⟨[.ref a], []⟩) (fun r s' => r = .ok (.ret (.bool true)) ∧ OldK s.heap s'.heap ∧ s'.os = s.os ∧ AllBare s'.gens) s := by
  have tabs : ∀ b ∈ cs.map (·.2), s.heap.get? b = some noTab := by
    intro b hm
    obtain ⟨p, hp, rfl⟩ := List.mem_map.mp hm
    exact hT p hp
  have out : a ∉ cs.map (·.2) := fun z => by
    have q := ha.symm.trans (tabs a z)
    cases q
  have mem : ∀ p ∈ cs, p.2 ∈ cs.map (·.2) := fun p hp => List.mem_map.mpr ⟨p, hp, rfl⟩
  let H : Hp := lawH K (cs.map (·.2)) a (scrO vs) (ns.map V.int)
  have hH : H = lawH K (cs.map (·.2)) a (scrO vs) (ns.map V.int) := rfl
  have heavy : ∀ {b : Addr} {o : Obj}, s.heap.get? b = some o → Heavy o → H b = none := fun e hv => lawH_heavy tabs ha e hv
  have keepB : ∀ {b : Addr} {o : Obj}, s.heap.get? b = some o → Heavy o → (hidT s.heap H).get? b = some o := fun e hv => hidT_get e (heavy e hv)
  have dicts : ∀ {b : Addr} {m : Str → Option Value}, s.heap.Ns b m → (hidT s.heap H).Ns b m := by
    rintro b m ⟨o, es, ep, e, d, r⟩
    exact ⟨o, es, ep, keepB e (by unfold Heavy; rw [d]; trivial), d, r⟩
  have inB : K.In (hidT s.heap H) := by
    intro b o e
    refine hidT_get (KX b o e) ?_
    cases q : H b with
    | none => rfl
    | some u =>
      exfalso
      rcases lawH_some q with ⟨c, _⟩ | ⟨c, c2, _⟩
      · obtain ⟨p, hp, rfl⟩ := List.mem_map.mp c
        have z := e.symm.trans (nT p hp)
        cases z
      · subst c
        have z := e.symm.trans c2
        cases z
  have mod : L2.Mod K mg (hidT s.heap H) := by
    obtain ⟨mc, l1, l2⟩ := hlim
    exact ⟨inB, dicts hns, ⟨mb, dicts hb, hbb⟩, ⟨mc, dicts l1, l2⟩⟩
  have rows : ∀ p ∈ cs, LamX.TabB (hidT s.heap H) mg p.1 p.2 := by
    intro p hp
    refine ⟨?_, ?_, fun z => ?_⟩
    · obtain ⟨o, us, file, tf, flags, tg, inF, text, tt, e, r1, r2, r3, r⟩ := C p hp
      refine ⟨o, us, file, tf, flags, tg, inF, text, tt, keepB e ?_, r1, r2, r3, r⟩
      unfold Heavy
      rw [r2]
      rintro rfl
      simp at r3
    · obtain ⟨bm, ob, b1, b2, b3, b4, b5, b6⟩ := hbm
      refine ⟨bm, ob, b1, b2, fun q => ?_, fun q => ?_, keepB b3 (by unfold Heavy; rw [b6]; trivial), b4, b5, b6⟩
      · obtain ⟨o, es, ep, e, d, _⟩ := hns
        rw [← q, b3] at e
        cases e
        rw [b6] at d
        cases d
      · have z := b3.symm.trans (q ▸ hT p hp)
        cases z
        cases b6
    · obtain ⟨o, es, ep, e, d, _⟩ := hns
      have q := e.symm.trans (z ▸ hT p hp)
      cases q
      cases d
  have hok : HOk P w H s.heap := by
    intro b u q
    rcases lawH_some q with ⟨c, rfl⟩ | ⟨rfl, _, rfl⟩
    · exact tabs b c
    · exact ⟨ha, by rw [List.length_map]; exact hl, vs, _, vals_ints hi, ha⟩
  have env : Env0 P w K mg (hidT s.heap H) callerA [] s H :=
    { frames := rfl
      mod := mod
      bs := fun b o e => of_hidT e
      bsz := Nat.le_of_eq (hidT_size _ _)
      funs := trivial
      frf := fun b z => by cases z
      hok := hok
      bare := .of_eq hg }
  have scr : SqL K H a (ns.map V.int) := by
    cases q : K.lookup a with
    | none => exact .inl (.inr ⟨scrO vs, lawH_scr out q⟩)
    | some o =>
      have e := (KX a o q).symm.trans ha
      cases e
      exact .inr ⟨_, vs.toArray, _, q, rfl, rfl, rfl, by rw [List.size_toArray, hi.length]; exact hl, vals_ints hi⟩
  refine codeAny_mono (F _ inB (dicts hns) rows callerA [] s H [.ref a] [.ref a] _ _ hr rfl env (.cons rfl .nil) (hsp H (fun p hp => lawH_tab (mem p hp)) scr)) fun r s' h => ?_
  cases r with
  | error e => exact (cx_none h).elim
  | ok fl => cases fl with
    | ret u =>
      obtain ⟨v, H', os, bare, un, hok', rv, rfl⟩ := h
      obtain rfl : u = .bool true := rv
      refine ⟨rfl, ⟨fun b o e => ?_, fun b o e => ?_⟩, os, bare⟩
      · by_cases hm : b ∈ cs.map (·.2)
        · obtain ⟨p, hp, rfl⟩ := List.mem_map.mp hm
          obtain ⟨more, z⟩ := un.tbls p.2 #[] (lawH_tab (mem p hp))
          obtain rfl := Option.some.inj (e.symm.trans (hT p hp))
          have z2 : s'.heap.get? p.2 = _ := hok' p.2 _ z
          exact .inr (.inl ⟨((C p hp).tab (hT p hp)).isCodeTable, rfl, #[], more, rfl, by simpa using z2⟩)
        · refine .inl ?_
          cases q : H b with
          | none => exact un.keep b o e q (fun z => by cases z) (fun z => by cases z)
          | some u =>
            rcases lawH_some q with ⟨c, _⟩ | ⟨rfl, _, rfl⟩
            · exact absurd c hm
            · have z : ObjOk P w H' s'.heap b (.frz (scrO vs) (.lst (ns.map V.int))) := hok' b _ (un.frzs b _ _ q)
              obtain rfl := Option.some.inj (e.symm.trans ha)
              exact z.1
      · by_cases hm : b ∈ cs.map (·.2)
        · obtain ⟨p, hp, rfl⟩ := List.mem_map.mp hm
          obtain ⟨more, z⟩ := un.tbls p.2 #[] (lawH_tab (mem p hp))
          exact ⟨_, hok' p.2 _ z⟩
        · cases q : H b with
          | none => exact ⟨o, un.keep b o e q (fun z => by cases z) (fun z => by cases z)⟩
          | some u =>
            rcases lawH_some q with ⟨c, _⟩ | ⟨rfl, _, rfl⟩
            · exact absurd c hm
            · have z : ObjOk P w H' s'.heap b (.frz (scrO vs) (.lst (ns.map V.int))) := hok' b _ (un.frzs b _ _ q)
              exact ⟨_, z.1⟩
    | next => exact False.elim h
    | brk => exact False.elim h
    | cont => exact False.elim h
end
/-- what is known of the law at the head's heap -/
def LawG (l : PySem.W.OpenLaw) (w : World) (K : PySem.W.Frag) (k n : Nat) (mg : Str → Option Value) (fa : Addr) (h : Heap) : Prop :=
  ∃ (cs : List (Addr × Addr)) (sp : Sp), (∀ p ∈ cs, h.get? p.2 = some noTab) ∧ (∀ p ∈ cs, K.lookup p.2 = none) ∧ (∀ p ∈ cs, PySem.W.CodeHd h p.1 p.2) ∧
    (∀ (H : Hp) (a : Addr) (ns : List Int), ns.length ≤ n → (∀ z ∈ ns, Builtin.Int.intBits z ≤ 1048576) → (∀ p ∈ cs, H p.2 = some (.tbl #[])) → SqL K H a (ns.map V.int) → sp [.ref a] H (fun v _ => v = .bl true) fun _ _ _ => False) ∧
    ∀ base : Heap, K.In base → base.Ns mainGlobals mg → (∀ p ∈ cs, LamX.TabB base mg p.1 p.2) → FnG l.prog w K mg base k fa sp
theorem walk_G {l : PySem.W.OpenLaw} {n k : Nat} {q : Program} {loose : List Str} {XP : (Str → Option Value) → Heap → Prop} {YP : World → Heap → Prop} {d : DefRec} (hn : l.most = some n) (hn2 : n ≤ sizeLine) (hdf : d.params.defaults = []) (hr : Room k callerA)
    (F : ∀ (w : World) (mg : Str → Option Value) (fa : Addr) (h : Heap), YP w h → h.Ns mainGlobals mg → mg d.name = some (.ref fa) → ∃ K : PySem.W.Frag, K.In h ∧ LawG l w K k n mg fa h) : PySem.W.WalkO q loose XP YP l.row.toRowW d [] (fun f vs => PySem.call f vs) := by
  refine Att.attach_callB hn hdf fun w s0 s mg mb fa o pm cd doc a vs ns G Y ho hd hcd hmg hobj hints hlen hbits hg => ?_
  obtain ⟨K, KX, cs, sp, hT, nT, C, hsp, hF⟩ := F w mg fa _ Y G.T.g hmg
  exact law_callG KX G.T.g G.T.b G.T.builtins G.T.nolimit hg hT nT C G.T.bmain hobj hints (Nat.le_trans hlen hn2) hr hF fun H hH hS => hsp H a ns hlen hbits hH hS
end DL

set_option Elab.async false
set_option linter.all false
set_option maxRecDepth 100000
set_option maxHeartbeats 4000000
/-! DL 22: binding of plain parameters; what Bools say of the written part. -/
namespace DL
open PySem PySem.Spec PyProof.Rows L2

def plainPar (a : Arguments) : Bool := match a with
  | ⟨[], _, none, [], [], none, []⟩ => true
  | _ => false
theorem plainPar_eq {a : Arguments} (h : plainPar a = true) : ∃ l, a = ⟨[], l, none, [], [], none, []⟩ := by
  unfold plainPar at h
  split at h
  · exact ⟨_, rfl⟩
  · cases h
def parN (a : Arguments) : List Str := a.args.map (·.arg)
theorem zip_lookup : ∀ {ns : List Str} {us : List Value}, us.length = ns.length → ∀ n ∈ ns, ((ns.zip us).lookup n).isSome = true
  | [], _, _, n, h => by cases h
  | m :: ns, [], e, _, _ => by simp at e
  | m :: ns, u :: us, e, n, h => by
    rw [List.zip_cons_cons, List.lookup_cons]
    by_cases c : n = m
    · subst c; simp
    · have : (n == m) = false := by simpa using c
      rw [this]
      exact zip_lookup (by simpa using e) n ((List.mem_cons.mp h).resolve_left c)
theorem zip_fm : ∀ {ns : List Str} {us : List Value}, us.length = ns.length → ns.Nodup → ns.filterMap (fun n => ((ns.zip us).lookup n).map (n, ·)) = ns.zip us
  | [], _, _, _ => by simp
  | m :: ns, [], e, _ => by simp at e
  | m :: ns, u :: us, e, h => by
    have h' := List.nodup_cons.mp h
    rw [List.zip_cons_cons, List.filterMap_cons]
    have e1 : (((m, u) :: ns.zip us).lookup m).map (m, ·) = some (m, u) := by simp [List.lookup_cons]
    rw [e1]
    show (m, u) :: _ = (m, u) :: _
    refine congrArg ((m, u) :: ·) ?_
    refine Eq.trans ?_ (zip_fm (ns := ns) (us := us) (by simpa using e) h'.2)
    refine fm_congr fun n hn => ?_
    have : (n == m) = false := by
      rw [beq_eq_false_iff_ne]
      rintro rfl
      exact h'.1 hn
    rw [List.lookup_cons, this]
theorem bind_plain {x qual : Str} {params : Arguments} {body : List Stmt} {scope : Scope} {kV doc pm cdv ct : Value} {an : Option Addr} {us : List Value} (h : plainPar params = true) (nd : (parN params).Nodup) (hl : us.length = (parN params).length) :
    bindArgs (PySem.W.fnOf x qual params body scope .none kV doc pm an cdv ct) ⟨us, []⟩ = pure ((parN params).zip us) := by
  obtain ⟨l, rfl⟩ := plainPar_eq h
  unfold bindArgs
  have hl' : us.length = l.length := by simpa [parN] using hl
  have nd' : (l.map (·.arg)).Nodup := nd
  have e0 : seqItems? Value.none = pure none := rfl
  have e1 : ((l.map (·.arg)).take (l.map (·.arg)).length).filter (fun n => (((l.map (·.arg)).zip us).lookup n).isNone) = [] := by
    rw [List.filter_eq_nil_iff]
    intro n hn
    have := zip_lookup (ns := l.map (·.arg)) (us := us) (by simpa using hl') n (List.mem_of_mem_take hn)
    cases q : ((l.map (·.arg)).zip us).lookup n <;> simp_all
  have e2 := zip_fm (ns := l.map (·.arg)) (us := us) (by simpa using hl') nd'
  show (do let dv ← seqItems? Value.none; _) = _
  rw [e0, pure_bind]
  have c : ¬ ((decide (us.length > (l.map (·.arg)).length) && true) = true) := by simp [hl']
  simp only [List.map_nil, List.nil_append, List.append_nil, Option.getD_none, Option.isNone_none] at e1 e2 c ⊢
  rw [pure_bind, if_neg c]
  simp only [Option.getD_none, List.toList_toArray, List.length_nil, Nat.zero_sub, List.drop_nil, Nat.sub_zero, List.zip_nil_right]
  rw [e1]
  simp only [List.isEmpty_nil, Bool.not_true, Bool.false_eq_true, if_false, List.forIn_nil, pure_bind]
  exact congrArg pure e2
/-! ### what Bools say of the written part -/
def oexB (K : PySem.W.Frag) (C : Addr) : Bool := match K.lookup C with
  | some ⟨.type "type", _, .cls cd, sl⟩ => (match cd.mro, sl.toList with
    | .ref C' :: bm, [_, _, _, _, some (.builtin n), _] => C' == C && n == "ValueError.__new__" && !cd.hasDel && cd.hasDict && PySem.HandSPX.refsVE bm
    | _, _ => false)
  | _ => false
theorem oexB_ok {K : PySem.W.Frag} {C : Addr} (q : oexB K C = true) : ∃ nm q N bs bm sn sub ab col dd k0 k1 k2 k3 k5, K.lookup C = some (excClassObj nm q C N bs bm true sn sub ab col dd k0 k1 k2 k3 k5 "ValueError.__new__") ∧ PySem.HandSPX.refsVE bm = true := by
  unfold oexB at q
  split at q
  · rename_i dd cd sl ho
    split at q
    · rename_i C' bm k0 k1 k2 k3 n k5 hm hs
      simp only [Bool.and_eq_true, beq_iff_eq, Bool.not_eq_true'] at q
      obtain ⟨⟨⟨⟨rfl, rfl⟩, h1⟩, h2⟩, h3⟩ := q
      obtain ⟨nm, bs, mro, ns, qn, hd, sn, sub, ab, col, del⟩ := cd
      obtain ⟨sl⟩ := sl
      dsimp only at hm h1 h2 hs
      subst hm h1 h2 hs
      exact ⟨nm, qn, ns, bs, bm, sn, sub, ab, col, dd, k0, k1, k2, k3, k5, ho, h3⟩
    · cases q
  · cases q
def oexC (K : PySem.W.Frag) (C : Addr) : Bool := oexB K C && (He.eqO (PySem.W.findIn K (.ref C) "__setattr__") (some (some (.builtin "object.__setattr__"))) && (decide (PySem.W.subIn K (.ref C) (.type "BaseException") = some true) && (decide (PySem.W.typeIn K (.ref C) = some (.type "type")) && PySem.W.keepIn K (.ref C))))
theorem oexC_ok {K : PySem.W.Frag} {C : Addr} (h : oexC K C = true) : OexC K C := by
  obtain ⟨h1, h⟩ := He.ba h
  obtain ⟨h2, h⟩ := He.ba h
  obtain ⟨h3, h⟩ := He.ba h
  obtain ⟨h4, h5⟩ := He.ba h
  exact ⟨oexB_ok h1, He.eqO_ok h2, of_decide_eq_true h3, of_decide_eq_true h4, h5⟩
def bseB (K : PySem.W.Frag) (F : Addr) : Bool := He.eqO (PySem.W.specialIn K (.ref F) "__getattribute__") (some (some (.builtin "type.__getattribute__"))) && (PySem.W.readsIn K F (.type "type") && (match PySem.W.findCls K (.ref F) (.type "type") "__init__" with
  | some (.val (.builtin n)) => n == "ValueError.__init__"
  | _ => false))
theorem bseB_ok {K : PySem.W.Frag} {F : Addr} (h : bseB K F = true) : BaseX K F := by
  obtain ⟨h1, h⟩ := He.ba h
  obtain ⟨h2, h⟩ := He.ba h
  refine ⟨He.eqO_ok h1, .type "type", h2, ?_⟩
  split at h
  · rename_i n e
    rw [e, beq_iff_eq.mp h]
  · cases h
def insB (K : PySem.W.Frag) (C : Addr) : Bool := PySem.W.plainGet K C Str.empty && (PySem.W.hasDictIn K C && (PySem.W.plainOver K C && (He.eqO (PySem.W.findIn K (.ref C) "__setattr__") (some (some (.builtin "object.__setattr__"))) && (He.eqO (PySem.W.findIn K (.ref C) "__class__") (some (some (.builtin "object.__class__"))) &&
  (He.eqO (PySem.W.specialIn K (.builtin "object.__class__") "__get__") (some (some (.builtin "getset_descriptor.__get__"))) && (decide (PySem.W.takesIn K (.builtin "object.__class__") = some true) && decide (PySem.W.mroIn K C (.type "object") = some true)))))))
theorem insB_ok {K : PySem.W.Frag} {C : Addr} (h : insB K C = true) : InsK K C := by
  obtain ⟨h1, h⟩ := He.ba h
  obtain ⟨h2, h⟩ := He.ba h
  obtain ⟨h3, h⟩ := He.ba h
  obtain ⟨h4, h⟩ := He.ba h
  obtain ⟨h5, h⟩ := He.ba h
  obtain ⟨h6, h⟩ := He.ba h
  obtain ⟨h7, h8⟩ := He.ba h
  exact ⟨⟨h1, h2, h3, He.eqO_ok h4⟩, He.eqO_ok h5, He.eqO_ok h6, of_decide_eq_true h7, of_decide_eq_true h8⟩
/-- an own class: its instances' fields, its __init__ -/
def recB (K : PySem.W.Frag) (C fI : Addr) (fs : List Str) : Bool := PySem.W.plainGet K C Str.empty && (PySem.W.hasDictIn K C && (PySem.W.plainOver K C && (He.eqO (PySem.W.findIn K (.ref C) "__setattr__") (some (some (.builtin "object.__setattr__"))) &&
  (fs.all (fun f => He.eqO (PySem.W.findIn K (.ref C) f) (some none)) && (PySem.W.makesIn K C && (He.eqO (PySem.W.findIn K (.ref C) "__init__") (some (some (.ref fI))) && (PySem.W.isFn K (.ref fI) && PySem.W.keepIn K (.ref C))))))))
theorem recB_ok {K : PySem.W.Frag} {C fI : Addr} {fs : List Str} (h : recB K C fI fs = true) : Cls K C ∧ (∀ f ∈ fs, NoAttr K C f) ∧ Mk K C fI := by
  obtain ⟨h1, h⟩ := He.ba h
  obtain ⟨h2, h⟩ := He.ba h
  obtain ⟨h3, h⟩ := He.ba h
  obtain ⟨h4, h⟩ := He.ba h
  obtain ⟨h5, h⟩ := He.ba h
  obtain ⟨h6, h⟩ := He.ba h
  obtain ⟨h7, h⟩ := He.ba h
  obtain ⟨h8, h9⟩ := He.ba h
  exact ⟨⟨h1, h2, h3, He.eqO_ok h4⟩, fun f hf => He.eqO_ok (List.all_eq_true.mp h5 f hf), ⟨h6, He.eqO_ok h7, h8, h9⟩⟩
/-- an own error: its fields are its __init__'s parameters -/
def excB (K : PySem.W.Frag) (C fI : Addr) (fs : List Str) : Bool := oexC K C && (xfB K C && (fs.all (fun f => He.eqO (PySem.W.findIn K (.ref C) f) (some none)) && (He.eqO (PySem.W.findIn K (.ref C) "__init__") (some (some (.ref fI))) && decide (PySem.W.typeIn K (.ref fI) = some (.type "function")))))
theorem excB_ok {K : PySem.W.Frag} {C fI : Addr} {fs : List Str} (h : excB K C fI fs = true) : OexC K C ∧ XfC K C ∧ (∀ f ∈ fs, PySem.W.findIn K (.ref C) f = some none) ∧ PySem.W.findIn K (.ref C) "__init__" = some (some (.ref fI)) ∧ PySem.W.typeIn K (.ref fI) = some (.type "function") := by
  obtain ⟨h1, h⟩ := He.ba h
  obtain ⟨h2, h⟩ := He.ba h
  obtain ⟨h3, h⟩ := He.ba h
  obtain ⟨h4, h5⟩ := He.ba h
  exact ⟨oexC_ok h1, xfB_ok h2, fun f hf => He.eqO_ok (List.all_eq_true.mp h3 f hf), He.eqO_ok h4, of_decide_eq_true h5⟩
/-! ### tables of answers: of what class is it -/
abbrev AskT := List (Tag × Tag × Bool)
def askS (tb : AskT) : Ask := fun t u => match t, u with
  | .b a, .b b => askB a b
  | t, u => (tb.find? fun q => decide (q.1 = t) && decide (q.2.1 = u)).map (·.2.2)
def askC (K : PySem.W.Frag) (ga : Nat → Addr) (tb : AskT) : Bool := tb.all fun q => decide (PySem.W.kitOne K (tagV ga q.1) (tagV ga q.2.1) = some q.2.2) && (match q.1 with
  | .o g => insB K (ga g)
  | _ => true)
theorem askC_ok {T : Tb} {tb : AskT} (h : askC T.K T.ga tb = true) : AskOk T (askS tb) := by
  have key : ∀ {t u : Tag} {b : Bool}, (tb.find? fun q => decide (q.1 = t) && decide (q.2.1 = u)).map (·.2.2) = some b → PySem.W.kitOne T.K (tagV T.ga t) (tagV T.ga u) = some b ∧ ∀ g, t = .o g → InsK T.K (T.ga g) := by
    intro t u b e
    obtain ⟨q, h1, h2⟩ := Option.map_eq_some_iff.mp e
    have h3 := List.find?_some h1
    rw [Bool.and_eq_true, decide_eq_true_eq, decide_eq_true_eq] at h3
    have h4 := List.all_eq_true.mp h q (List.mem_of_find?_eq_some h1)
    rw [Bool.and_eq_true, decide_eq_true_eq, h3.1, h3.2, h2] at h4
    refine ⟨h4.1, fun g hg => ?_⟩
    subst hg
    exact insB_ok h4.2
  refine ⟨fun t u b e => ?_, fun g u b e => ?_⟩
  · unfold askS at e
    split at e
    · exact askB_ok e
    · exact (key e).1
  · unfold askS at e
    split at e
    · rename_i hh; cases hh
    · exact (key e).2 g rfl
abbrev ExmT := List (Nat × Nat × Bool)
def exmS (tb : ExmT) : Exm := fun g c => (tb.find? fun q => decide (q.1 = g) && decide (q.2.1 = c)).map (·.2.2)
def exmC (K : PySem.W.Frag) (ga : Nat → Addr) (tb : ExmT) : Bool := tb.all fun q => decide (PySem.W.exmOne K (.ref (ga q.1)) (.ref (ga q.2.1)) = some q.2.2)
theorem exmC_ok {T : Tb} {tb : ExmT} (h : exmC T.K T.ga tb = true) : ExmOk T (exmS tb) := by
  refine ⟨fun g c b e => ?_⟩
  obtain ⟨q, h1, h2⟩ := Option.map_eq_some_iff.mp e
  have h3 := List.find?_some h1
  rw [Bool.and_eq_true, decide_eq_true_eq, decide_eq_true_eq] at h3
  have h4 := List.all_eq_true.mp h q (List.mem_of_find?_eq_some h1)
  rw [decide_eq_true_eq, h3.1, h3.2, h2] at h4
  exact h4
/-! ### scopes -/
def fnScB (N ps : List Str) (sc : Scope) : Bool := (match sc.kind with | .function => true | _ => false) && (!sc.isCoroutine && (!sc.isGenerator && (ndup N && (decide (N.take ps.length = ps) && (ps.all (fun x => locB sc.names x) && sc.names.all fun y => decide (y.2 ≠ .free))))))
theorem fnScB_ok {N ps : List Str} {sc : Scope} (h : fnScB N ps sc = true) : FnScope N ps sc := by
  obtain ⟨h1, h⟩ := He.ba h
  obtain ⟨h2, h⟩ := He.ba h
  obtain ⟨h3, h⟩ := He.ba h
  obtain ⟨h4, h⟩ := He.ba h
  obtain ⟨h5, h⟩ := He.ba h
  obtain ⟨h6, h7⟩ := He.ba h
  refine ⟨?_, by simpa using h2, by simpa using h3, ndup_ok h4, of_decide_eq_true h5, fun x hx => ?_, fun y hy => of_decide_eq_true (List.all_eq_true.mp h7 y hy)⟩
  · split at h1
    · assumption
    · cases h1
  · have := List.all_eq_true.mp h6 x hx
    unfold locB at this
    rw [Bool.or_eq_true, decide_eq_true_eq, decide_eq_true_eq] at this
    exact this
def nil? : Ck → Bool
  | some [] => true
  | _ => false
theorem nil_ok {a : Ck} (h : nil? a = true) : a = some [] := by
  unfold nil? at h
  split at h
  · rfl
  · cases h
def noPar (a : Arguments) : Bool := match a with
  | ⟨[], [], none, [], [], none, []⟩ => true
  | _ => false
theorem noPar_eq {a : Arguments} (h : noPar a = true) : a = ⟨[], [], none, [], [], none, []⟩ := by
  unfold noPar at h
  split at h
  · rfl
  · cases h
/-- a lambda of the text, as a thing of its own -/
def lamD (qual : Str) (N : List Str) (q : LamQ) : LamD := { qual := qual ++ ".<locals>." ++ "<lambda>", params := q.params, body := q.body, scope := q.scope, free := q.caps.map fun i => N.getD i "" }
def lamB (c : Cv) (N : List Str) (b : mE) (q : LamQ) : Bool :=
  noPar q.params && ((match q.scope.kind with | .function => true | _ => false) && (!q.scope.isCoroutine && (!q.scope.isGenerator && (q.scope.names.all (fun y => decide (y.2 ≠ .local) && (decide (y.2 ≠ .cell) && (decide (q.scope.names.lookup y.1 = some y.2) && (decide (y.2 ≠ .free) || (q.caps.map fun i => N.getD i "").contains y.1)))) &&
    ((q.caps.map fun i => N.getD i "").all (fun y => decide (q.scope.names.lookup y = some .free)) && (ndup (q.caps.map fun i => N.getD i "") && nil? (okE (c.la (q.caps.map fun i => N.getD i "") q.scope.names) b q.body)))))))
theorem lamB_ok {c : Cv} {qual : Str} {N : List Str} {b : mE} {q : LamQ} (h : lamB c N b q = true) : LamF c (lamD qual N q) b ∧ ∀ env, defaultsOf q.params env = ([], []) := by
  obtain ⟨h1, h⟩ := He.ba h
  obtain ⟨h2, h⟩ := He.ba h
  obtain ⟨h3, h⟩ := He.ba h
  obtain ⟨h4, h⟩ := He.ba h
  obtain ⟨h5, h⟩ := He.ba h
  obtain ⟨h6, h⟩ := He.ba h
  obtain ⟨h7, h8⟩ := He.ba h
  have h1 := noPar_eq h1
  obtain ⟨l, params, body, scope, caps⟩ := q
  dsimp only at h1 h2 h3 h4 h5 h6 h7 h8
  subst h1
  have H5 : ∀ y ∈ scope.names, y.2 ≠ .local ∧ y.2 ≠ .cell ∧ scope.names.lookup y.1 = some y.2 ∧ (y.2 ≠ .free ∨ y.1 ∈ caps.map fun i => N.getD i "") := by
    intro y hy
    have z := List.all_eq_true.mp h5 y hy
    rw [Bool.and_eq_true, Bool.and_eq_true, Bool.and_eq_true, Bool.or_eq_true, decide_eq_true_eq, decide_eq_true_eq, decide_eq_true_eq, decide_eq_true_eq, List.contains_iff_mem] at z
    exact z
  refine ⟨⟨⟨?_, Bool.not_eq_true' _ ▸ h3, Bool.not_eq_true' _ ▸ h4, fun y hy => ⟨(H5 y hy).1, (H5 y hy).2.1⟩, fun y hy => ?_, fun y hy => of_decide_eq_true (List.all_eq_true.mp h6 y hy), ndup_ok h7, fun y hy => (H5 y hy).2.2.1, fun cl pm cv ctv => rfl⟩, nil_ok h8⟩, fun env => rfl⟩
  · split at h2
    · assumption
    · cases h2
  · have hm := PySem.mem_of_lookup hy
    exact (H5 _ hm).2.2.2.resolve_left fun z => z rfl
end DL

set_option Elab.async false
set_option linter.all false
set_option maxRecDepth 100000
set_option maxHeartbeats 4000000
/-! DL 23: a law's texts as one record; its checks; what follows from them. -/
namespace DL
open PySem PySem.Spec PyProof.Rows L2

/-- an own error: its name, its fields, its __init__ -/
structure ErrS where
  name : Str
  fs : List Str
  st : Stmt
/-- an own class: its name, its instances' fields, its __init__ -/
structure RecS where
  name : Str
  fs : List Str
  ini : Fnc
  st : Stmt
structure Src where
  base : Str
  fns : List (Fnc × Stmt)
  lams : List mE
  errs : List ErrS
  ask : AskT
  exm : ExmT
  con : List (Str × P)
  bn : List Str
  gcd : Bool
  law : Fnc × Stmt
  recs : List RecS := []
def samI : List P → List P → Bool
  | [], [] => true
  | .int i :: xs, .int j :: ys => decide (i = j) && samI xs ys
  | _, _ => false
def samP : P → P → Bool
  | .int i, .int j => decide (i = j)
  | .str i, .str j => decide (i = j)
  | .tup xs, .tup ys => samI xs ys
  | _, _ => false
theorem samI_ok : ∀ {xs ys : List P}, samI xs ys = true → xs = ys
  | [], [], _ => rfl
  | .int i :: xs, .int j :: ys, h => by
    unfold samI at h
    rw [Bool.and_eq_true, decide_eq_true_eq] at h
    rw [h.1, samI_ok h.2]
  | [], _ :: _, h => by cases h
  | x :: _, [], h => by cases x <;> cases h
  | .non :: _, _ :: _, h => by cases h
  | .bl _ :: _, _ :: _, h => by cases h
  | .str _ :: _, _ :: _, h => by cases h
  | .tup _ :: _, _ :: _, h => by cases h
  | .lst _ :: _, _ :: _, h => by cases h
  | .dct _ :: _, _ :: _, h => by cases h
  | .obj _ _ :: _, _ :: _, h => by cases h
  | .ty _ :: _, _ :: _, h => by cases h
  | .glo _ :: _, _ :: _, h => by cases h
  | .int _ :: _, y :: _, h => by
    cases y <;> first | (cases h; done) | (unfold samI at h; rw [Bool.and_eq_true, decide_eq_true_eq] at h; rw [h.1, samI_ok h.2])
theorem samP_ok {x y : P} (h : samP x y = true) : x = y := by
  unfold samP at h
  split at h
  · rw [of_decide_eq_true h]
  · rw [of_decide_eq_true h]
  · rw [samI_ok h]
  · cases h
namespace Src
variable (S : Src)
def cln (g : Nat) : Str := match S.errs[g]? with
  | some e => e.name
  | none => S.recs[g - S.errs.length]?.elim "" RecS.name
def txt : Txt := { fns := S.fns.map (·.1) ++ S.recs.map (·.ini), lams := S.lams, ask := askS S.ask, exm := exmS S.exm, xf := fun g => S.errs[g]?.elim [] ErrS.fs, ob := fun g => match S.errs[g]? with
    | some _ => []
    | none => S.recs[g - S.errs.length]?.elim [] RecS.fs }
def cv : Cv := { N := [], sc := [], fn := fun _ => false, fr := false, fnn := fun f => S.fns[f]?.elim "" fun q => q.1.name, cln := S.cln, con := fun s x => S.con.any fun q => decide (q.1 = s) && samP q.2 x, bn := fun x => S.bn.contains x, fin := fun f => decide (f < S.fns.length), cin := fun g => decide (g < S.errs.length + S.recs.length), xin := fun g => decide (g < S.errs.length), fld := fun g f => (S.errs[g]?.elim [] ErrS.fs).contains f, gcd := S.gcd, nin := fun g f => decide (S.errs.length ≤ g) && (decide (g - S.errs.length < S.recs.length) && decide (f = S.fns.length + (g - S.errs.length))) }
def ga (K : PySem.W.Frag) (g : Nat) : Addr := He.ga K (S.cln g)
/-! ### the defs, as the head tells them -/
def fd (q : Fnc × Stmt) : He.DefD := ⟨(q.1.name, none), q.1.name, q.1.name, defArgs q.2, defBody q.2, defScope q.2, [], []⟩
def ed (e : ErrS) : He.DefD := ⟨(e.name, some "__init__"), "__init__", e.name ++ ".__init__", defArgs e.st, defBody e.st, defScope e.st, [], []⟩
def rd (r : RecS) : He.DefD := ⟨(r.name, some "__init__"), "__init__", r.name ++ ".__init__", defArgs r.st, defBody r.st, defScope r.st, [], []⟩
def defs : List He.DefD := S.law :: S.fns |>.map fd |>.append (S.errs.map ed ++ S.recs.map rd)
/-! ### what is checked of the texts -/
def fnT (q : Fnc × Stmt) : Bool := plainPar (defArgs q.2) && (decide (parN (defArgs q.2) = q.1.N.take q.1.ar) && (decide (q.1.ar ≤ q.1.N.length) && fnScB q.1.N (q.1.N.take q.1.ar) (defScope q.2)))
def okF (q : Fnc × Stmt) : Ck := okSs (S.cv.at q.1.N (defScope q.2).names) q.1.body (defBody q.2)
def erT (e : ErrS) : Bool := plainPar (defArgs e.st) && (decide ((parN (defArgs e.st)).length = e.fs.length + 1) && (fnScB (parN (defArgs e.st)) (parN (defArgs e.st)) (defScope e.st) && (okInit (parN (defArgs e.st)) (defScope e.st).names (fpsOf e.fs 1) (defBody e.st) && (decide (initBase (defBody e.st) = S.base) && (decide (e.fs ≠ []) && (decide (e.fs.length ≤ 700) && !(e.name == ("__debug__" : Str))))))))
def lamsB (c : Cv) (N : List Str) : Nat → List mE → List LamQ → Bool
  | _, [], [] => true
  | i, b :: bs, q :: qs => decide (q.l = i) && (lamB c N b q && lamsB c N (i + 1) bs qs)
  | _, _, _ => false
def lawQ : List LamQ := (S.okF S.law).getD []
def lawT : Bool := fnT S.law && ((S.okF S.law).isSome && lamsB S.cv S.law.1.N 0 S.lams S.lawQ)
structure Tx : Prop where
  fns : S.fns.all (fun q => fnT q && nil? (S.okF q)) = true
  errs : S.errs.all S.erT = true
  law : S.lawT = true
  recs : S.recs.all (fun r => fnT (r.ini, r.st) && nil? (S.okF (r.ini, r.st))) = true
/-! ### what is checked of the written part -/
def gloB (K : PySem.W.Frag) (x : Str) : Bool := He.eqO (PySem.W.nsIn K mainGlobals x) (some (some (.ref (He.ga K x))))
def allI : List P → Bool
  | [] => true
  | .int _ :: xs => allI xs
  | _ => false
def vI : List P → List V
  | .int i :: xs => .int i :: vI xs
  | _ => []
def conB (K : PySem.W.Frag) (q : Str × P) : Bool := match q.2, PySem.W.nsIn K mainGlobals q.1 with
  | .int i, some (some (.int j _)) => decide (i = j)
  | .str i, some (some (.str j _)) => decide (i = j)
  | .tup xs, some (some (.ref a)) => (match K.lookup a with
    | some ⟨.type c, _, .seq its _, _⟩ => decide (c = "tuple") && (decide (its.size ≤ sizeLine) && (He.relAll (vI xs) its.toList && (kRow (vI xs) && allI xs)))
    | _ => false)
  | _, _ => false
def kB (K : PySem.W.Frag) : Bool := S.fns.all (fun q => gloB K q.1.name) && (S.errs.all (fun e => gloB K e.name && excB K (He.ga K e.name) (He.ma K (He.ga K e.name) "__init__") e.fs) && ((S.errs.isEmpty || (gloB K S.base && bseB K (He.ga K S.base))) && (askC K (S.ga K) S.ask && (exmC K (S.ga K) S.exm && (S.con.all (conB K) && (S.bn.all (fun x => He.eqO (PySem.W.nsIn K mainGlobals x) (some none)) && ((!S.gcd || He.eqO (PySem.W.nsIn K mainGlobals "gcd") (some (some (.builtin "math.gcd")))) && S.recs.all (fun r => gloB K r.name && recB K (He.ga K r.name) (He.ma K (He.ga K r.name) "__init__") r.fs)))))))) 
end Src
theorem cat_get {α β : Type} {l : List α} {f : α → β} {d : β} {i : Nat} (h : i < l.length) : l[i]?.elim d f = f l[i] := by rw [List.getElem?_eq_getElem h]; rfl
section
variable {K : PySem.W.Frag} {ga : Nat → Addr} {B : Addr → Prop} {H : Hp}
theorem ints_rps : ∀ {xs : List P}, Src.allI xs = true → RPs K ga B H xs (Src.vI xs)
  | [], _ => .nil
  | .int i :: xs, h => .cons (.int i) (ints_rps h)
  | .non :: _, h => by cases h
  | .bl _ :: _, h => by cases h
  | .str _ :: _, h => by cases h
  | .tup _ :: _, h => by cases h
  | .lst _ :: _, h => by cases h
  | .dct _ :: _, h => by cases h
  | .obj _ _ :: _, h => by cases h
  | .ty _ :: _, h => by cases h
  | .glo _ :: _, h => by cases h
theorem conB_ok {base : Heap} {mg : Str → Option Value} {q : Str × P} (X : K.In base) (G : base.Ns mainGlobals mg) (h : Src.conB K q = true) : ∃ u v, mg q.1 = some u ∧ RelV v u ∧ ∀ (ga : Nat → Addr) (B : Addr → Prop) (H : Hp), RP K ga B H q.2 v := by
  obtain ⟨s, x⟩ := q
  unfold Src.conB at h
  dsimp only at h
  split at h
  · rename_i i j t e
    obtain rfl := of_decide_eq_true h
    exact ⟨_, .int i, PySem.W.mg_of X G e, ⟨t, rfl⟩, fun _ _ _ => .int i⟩
  · rename_i i j t e
    obtain rfl := of_decide_eq_true h
    exact ⟨_, .str i, PySem.W.mg_of X G e, ⟨t, rfl⟩, fun _ _ _ => .str i⟩
  · rename_i xs a e
    split at h
    · rename_i c od its n sl hk
      obtain ⟨h1, h⟩ := He.ba h
      obtain ⟨h2, h⟩ := He.ba h
      obtain ⟨h3, h⟩ := He.ba h
      obtain ⟨h4, h5⟩ := He.ba h
      refine ⟨_, .ref a, PySem.W.mg_of X G e, rfl, fun ga B H => .tup (.inr ⟨⟨_, its, n, hk, ?_, rfl, of_decide_eq_true h2, He.relAll_ok h3⟩, h4⟩) (ints_rps h5)⟩
      rw [show c = "tuple" from of_decide_eq_true h1]
    · cases h
  · cases h
end
section
variable {S : Src} {Pg : Program} {w : World} {K : PySem.W.Frag} {base : Heap} {mg : Str → Option Value} {T : Tb}
theorem fnT_ok {x qual : Str} {q : Fnc × Stmt} {fdt : FuncData} {f : Addr} (h : Src.fnT q = true) (D : FunD K x qual (defArgs q.2) (defBody q.2) (defScope q.2) [] [] f fdt) : FnScope q.1.N (q.1.N.take q.1.ar) (defScope q.2) ∧ Binds K fdt (q.1.N.take q.1.ar) [] ∧ q.1.ar ≤ q.1.N.length := by
  obtain ⟨h1, h⟩ := He.ba h
  obtain ⟨h2, h⟩ := He.ba h
  obtain ⟨h3, h4⟩ := He.ba h
  have h2 := of_decide_eq_true h2
  have S0 := fnScB_ok h4
  refine ⟨S0, D.bindsN fun kV doc pm an cdv ct us hl => ?_, of_decide_eq_true h3⟩
  rw [← h2] at hl ⊢
  refine bind_plain h1 ?_ hl
  rw [h2]
  exact S0.nd.sublist (List.take_sublist _ _)
theorem gloB_ok {x : Str} (X : K.In base) (G : base.Ns mainGlobals mg) (h : Src.gloB K x = true) : mg x = some (.ref (He.ga K x)) := PySem.W.mg_of X G (He.eqO_ok h)
theorem lamsB_ok {c : Cv} {N : List Str} : ∀ {i : Nat} {bs : List mE} {qs : List LamQ}, Src.lamsB c N i bs qs = true → bs.length = qs.length ∧ ∀ (j : Nat) (q : LamQ), qs[j]? = some q → q.l = i + j ∧ ∃ b, bs[j]? = some b ∧ lamB c N b q = true
  | _, [], [], _ => ⟨rfl, fun j q h => by simp at h⟩
  | i, b :: bs, q :: qs, h => by
    unfold Src.lamsB at h
    obtain ⟨h1, h⟩ := He.ba h
    obtain ⟨h2, h3⟩ := He.ba h
    obtain ⟨l, r⟩ := lamsB_ok h3
    refine ⟨by simp [l], fun j q' hq => ?_⟩
    cases j with
    | zero => cases hq; exact ⟨of_decide_eq_true h1, b, rfl, h2⟩
    | succ j =>
      obtain ⟨e, b', h4, h5⟩ := r j q' (by simpa using hq)
      exact ⟨by omega, b', by simpa using h4, h5⟩
  | _, [], _ :: _, h => by cases h
  | _, _ :: _, [], h => by cases h
/-- the tables' datum -/
def Src.tb (S : Src) (K : PySem.W.Frag) (tabs : List (Addr × Str)) : Tb := { K := K, ga := S.ga K, lam := fun l => S.lawQ[l]?.map (lamD S.law.1.name S.law.1.N), tabs := tabs, con := [] }
theorem bas_of {tabs : List (Addr × Str)} (X : K.In base) (G : base.Ns mainGlobals mg) (t : S.Tx) (k : S.kB K = true) (sd : He.SaysD [] S.defs K) : Bas Pg w K mg base (S.tb K tabs) S.txt S.cv := by
  obtain ⟨k1, k⟩ := He.ba k
  obtain ⟨k2, k⟩ := He.ba k
  obtain ⟨k3, k⟩ := He.ba k
  obtain ⟨k4, k⟩ := He.ba k
  obtain ⟨k5, k⟩ := He.ba k
  obtain ⟨k6, k⟩ := He.ba k
  obtain ⟨k7, k⟩ := He.ba k
  obtain ⟨k8, k9⟩ := He.ba k
  obtain ⟨l1, l⟩ := He.ba t.law
  obtain ⟨l2, l3⟩ := He.ba l
  have err : ∀ {g : Nat}, g < S.errs.length → ∃ e, S.errs[g]? = some e ∧ e ∈ S.errs ∧ S.cln g = e.name ∧ S.txt.xf g = e.fs := fun {g} h => ⟨S.errs[g], List.getElem?_eq_getElem h, List.getElem_mem h, by unfold Src.cln; rw [List.getElem?_eq_getElem h], cat_get h⟩
  have glo : ∀ {e : ErrS}, e ∈ S.errs → mg e.name = some (.ref (He.ga K e.name)) ∧ excB K (He.ga K e.name) (He.ma K (He.ga K e.name) "__init__") e.fs = true := fun {e} he => by
    obtain ⟨z1, z2⟩ := He.ba (List.all_eq_true.mp k2 e he)
    exact ⟨gloB_ok X G z1, z2⟩
  have rcl : ∀ {g : Nat}, S.errs.length ≤ g → g - S.errs.length < S.recs.length → ∃ r, S.recs[g - S.errs.length]? = some r ∧ r ∈ S.recs ∧ S.cln g = r.name ∧ S.txt.ob g = r.fs := fun {g} h1 h2 => ⟨S.recs[g - S.errs.length], List.getElem?_eq_getElem h2, List.getElem_mem h2, by unfold Src.cln; rw [List.getElem?_eq_none h1]; exact cat_get h2, by show (match S.errs[g]? with | some _ => [] | none => S.recs[g - S.errs.length]?.elim [] RecS.fs) = _; rw [List.getElem?_eq_none h1]; exact cat_get h2⟩
  have rlo : ∀ {r : RecS}, r ∈ S.recs → mg r.name = some (.ref (He.ga K r.name)) ∧ recB K (He.ga K r.name) (He.ma K (He.ga K r.name) "__init__") r.fs = true := fun {r} hr => by
    obtain ⟨z1, z2⟩ := He.ba (List.all_eq_true.mp k9 r hr)
    exact ⟨gloB_ok X G z1, z2⟩
  refine { hK := rfl, fns := fun f hf => ?_, lam := fun l L hl => ?_, cls := fun g hg => ?_, con := fun s x hc => ?_, bn := fun x hx => ?_, gcd := fun hg => ?_, ask := askC_ok k4, exm := exmC_ok k5, exc := fun g hg => ?_, fld := fun g f hf => ?_, ob := ⟨fun g f hf => ?_⟩, new := fun g f hf => ?_ }
  · have hf : f < S.fns.length := of_decide_eq_true hf
    have hm : S.fns[f] ∈ S.fns := List.getElem_mem hf
    obtain ⟨z1, z2⟩ := He.ba (List.all_eq_true.mp t.fns _ hm)
    obtain ⟨fdt, D⟩ := sd.defs (d := Src.fd S.fns[f]) (List.mem_append_left _ (List.mem_map.mpr ⟨_, List.mem_cons_of_mem _ hm, rfl⟩))
    obtain ⟨q1, q2, q3⟩ := fnT_ok z1 D
    refine ⟨S.fns[f].1, by show (S.fns.map (·.1) ++ S.recs.map (·.ini))[f]? = _; rw [List.getElem?_append_left (by simpa using hf), List.getElem?_map, List.getElem?_eq_getElem hf]; rfl, by show S.fns[f]?.elim _ _ = _; exact cat_get hf, ?_⟩
    exact ⟨_, _, _, _, _, _, fdt, gloB_ok X G (List.all_eq_true.mp k1 _ hm), D, q1, q2, q3, nil_ok z2⟩
  · obtain ⟨q, h1, h2⟩ := Option.map_eq_some_iff.mp (show (S.lawQ[l]?.map _) = some L from hl)
    subst h2
    obtain ⟨_, b, h3, h4⟩ := (lamsB_ok l3).2 l q h1
    exact ⟨b, h3, (lamB_ok h4).1⟩
  · show mg (S.cln g) = some (.ref (He.ga K (S.cln g)))
    by_cases hl : g < S.errs.length
    · obtain ⟨e, h1, h2, h3, h4⟩ := err hl
      rw [h3]
      exact (glo h2).1
    · obtain ⟨r, h1, h2, h3, h4⟩ := rcl (Nat.le_of_not_lt hl) (by have hg : g < S.errs.length + S.recs.length := of_decide_eq_true hg; omega)
      rw [h3]
      exact (rlo h2).1
  · obtain ⟨q, hq, h2⟩ := List.any_eq_true.mp (show (S.con.any fun q => decide (q.1 = s) && samP q.2 x) = true from hc)
    rw [Bool.and_eq_true, decide_eq_true_eq] at h2
    obtain rfl := samP_ok h2.2
    obtain ⟨u, v, e1, e2, e3⟩ := conB_ok X G (List.all_eq_true.mp k6 q hq)
    exact ⟨u, v, by rw [← h2.1]; exact e1, e2, fun Cl Φ μ H G _ => e3 _ _ _⟩
  · exact PySem.W.mg_none_of X G (He.eqO_ok (List.all_eq_true.mp k7 x (List.contains_iff_mem.mp hx)))
  · have hg : S.gcd = true := hg
    rw [hg, Bool.not_true, Bool.false_or] at k8
    exact PySem.W.mg_of X G (He.eqO_ok k8)
  · obtain ⟨e, h1, h2, h3, h4⟩ := err (of_decide_eq_true hg)
    obtain ⟨z1, z2⟩ := glo h2
    obtain ⟨o1, o2, o3, o4, o5⟩ := excB_ok z2
    have te := List.all_eq_true.mp t.errs e h2
    obtain ⟨t1, te⟩ := He.ba te
    obtain ⟨t2, te⟩ := He.ba te
    obtain ⟨t3, te⟩ := He.ba te
    obtain ⟨t4, te⟩ := He.ba te
    obtain ⟨t5, te⟩ := He.ba te
    obtain ⟨t6, te⟩ := He.ba te
    obtain ⟨t7, t8⟩ := He.ba te
    have S0 := fnScB_ok t3
    have ne : e.fs ≠ [] := of_decide_eq_true t6
    obtain ⟨fdt, D⟩ := sd.defs (d := Src.ed e) (List.mem_append_right _ (List.mem_append_left _ (List.mem_map.mpr ⟨_, h2, rfl⟩)))
    have bs : mg S.base = some (.ref (He.ga K S.base)) ∧ BaseX K (He.ga K S.base) := by
      have : S.errs.isEmpty = false := by
        cases q : S.errs with
        | nil => rw [q] at h2; cases h2
        | cons _ _ => rfl
      rw [this, Bool.false_or] at k3
      obtain ⟨b1, b2⟩ := He.ba k3
      exact ⟨gloB_ok X G b1, bseB_ok b2⟩
    show ExcCls Pg w K mg base (S.cln g) (He.ga K (S.cln g)) (S.txt.xf g) ∧ S.txt.xf g ≠ [] ∧ XfC K (He.ga K (S.cln g))
    rw [h3, h4]
    refine ⟨⟨o1, z1, by simpa using t8, o3, ?_⟩, ne, o2⟩
    have bd : Binds K fdt (parN (defArgs e.st)) [] := D.bindsN fun kV doc pm an cdv ct us hl => bind_plain t1 S0.nd hl
    refine ⟨He.ma K (He.ga K e.name) "__init__", fdt, parN (defArgs e.st), o4, o5, ?_, bd⟩
    obtain ⟨oc, od, dV, kV, doc, pm, an, cdv, ct, osl, rfl, lk, hcd, _, _⟩ := D.ex
    cases hfs : e.fs with
    | nil => exact absurd hfs ne
    | cons g0 fs =>
      rw [hfs] at t2 t4 t7
      have lk' : K.lookup (He.ma K (He.ga K e.name) "__init__") = _ := lk
      have t7' : (g0 :: fs).length ≤ 700 := of_decide_eq_true t7
      exact init_fn lk' hcd S0 (of_decide_eq_true t2) t4 ((congrArg mg (show initBase (defBody e.st) = S.base from of_decide_eq_true t5)).trans bs.1) bs.2 (by rw [List.length_cons] at t7'; omega)
  · show PySem.W.findIn K (.ref (He.ga K (S.cln g))) f = some none
    have hf : (S.errs[g]?.elim [] ErrS.fs).contains f = true := hf
    by_cases hl : g < S.errs.length
    · obtain ⟨e, h1, h2, h3, h4⟩ := err hl
      rw [cat_get hl] at hf
      have ee : S.errs[g] = e := Option.some.inj ((List.getElem?_eq_getElem hl).symm.trans h1)
      rw [ee] at hf
      rw [h3]
      exact (excB_ok (glo h2).2).2.2.1 f (List.contains_iff_mem.mp hf)
    · rw [List.getElem?_eq_none (Nat.le_of_not_lt hl)] at hf
      cases hf
  · have hf : (match S.errs[g]? with | some _ => [] | none => S.recs[g - S.errs.length]?.elim [] RecS.fs).contains f = true := hf
    show Cls K (He.ga K (S.cln g)) ∧ NoAttr K (He.ga K (S.cln g)) f
    by_cases hl : g < S.errs.length
    · rw [List.getElem?_eq_getElem hl] at hf
      cases hf
    · by_cases hr : g - S.errs.length < S.recs.length
      · obtain ⟨r, h1, h2, h3, h4⟩ := rcl (Nat.le_of_not_lt hl) hr
        rw [List.getElem?_eq_none (Nat.le_of_not_lt hl), h1] at hf
        obtain ⟨o1, o2, o3⟩ := recB_ok (rlo h2).2
        rw [h3]
        exact ⟨o1, o2 f (List.contains_iff_mem.mp hf)⟩
      · rw [List.getElem?_eq_none (Nat.le_of_not_lt hl)] at hf
        dsimp only at hf
        rw [List.getElem?_eq_none (Nat.le_of_not_lt hr)] at hf
        cases hf
  · obtain ⟨n1, n⟩ := He.ba (show (decide (S.errs.length ≤ g) && (decide (g - S.errs.length < S.recs.length) && decide (f = S.fns.length + (g - S.errs.length)))) = true from hf)
    obtain ⟨n2, n3⟩ := He.ba n
    have n1 := of_decide_eq_true n1
    have n2 := of_decide_eq_true n2
    have n3 := of_decide_eq_true n3
    obtain ⟨r, h1, h2, h3, h4⟩ := rcl n1 n2
    obtain ⟨z1, z2⟩ := rlo h2
    obtain ⟨o1, o2, o3⟩ := recB_ok z2
    obtain ⟨t1, t2⟩ := He.ba (List.all_eq_true.mp t.recs r h2)
    obtain ⟨fdt, D⟩ := sd.defs (d := Src.rd r) (List.mem_append_right _ (List.mem_append_right _ (List.mem_map.mpr ⟨_, h2, rfl⟩)))
    obtain ⟨q1, q2, q3⟩ := fnT_ok (q := (r.ini, r.st)) t1 D
    refine ⟨r.ini, He.ma K (He.ga K r.name) "__init__", ?_, ?_, ?_, ?_⟩
    · show (S.fns.map (·.1) ++ S.recs.map (·.ini))[f]? = _
      rw [n3, List.getElem?_append_right (by simp), List.length_map, Nat.add_sub_cancel_left, List.getElem?_map, h1]
      rfl
    · show mg (S.cln g) = some (.ref (He.ga K (S.cln g)))
      rw [h3]; exact z1
    · show Mk K (He.ga K (S.cln g)) _
      rw [h3]; exact o3
    · exact ⟨_, _, _, _, _, fdt, D, q1, q2, q3, nil_ok t2⟩
end
end DL

set_option Elab.async false
set_option linter.all false
set_option maxRecDepth 100000
set_option maxHeartbeats 4000000
/-! DL 24: the law by its record. -/
namespace DL
open PySem PySem.Spec PyProof.Rows L2

namespace Src
variable (S : Src)
def tf : List He.Defn := if S.lams.isEmpty then [] else [(S.law.1.name, none)]
def cs (K : PySem.W.Frag) : List (Addr × Addr) := S.tf.map (He.cT K)
def tabs (K : PySem.W.Frag) : List (Addr × Str) := (S.cs K).map fun p => (p.2, S.law.1.name ++ ".<locals>." ++ "<lambda>")
def ex (K : PySem.W.Frag) : Bool := gloB K S.law.1.name && S.kB K
/-- what the law does, as a plain function of the script -/
def run (n : Nat) (ns : List Int) : Res D := fnS S.law.1.N.length (evSs (orc S.txt n) S.law.1.body) [.scr ns] []
end Src
section
variable {S : Src} {Pg : Program} {w : World} {K : PySem.W.Frag} {base h : Heap} {mg : Str → Option Value}
theorem law_prom {fdt : FuncData} {n : Nat} (X : K.In base) (G : base.Ns mainGlobals mg) (t : S.Tx) (k : S.kB K = true) (sd : He.SaysD [] S.defs K) (TB : ∀ p ∈ S.cs K, LamX.TabB base mg p.1 p.2) :
    FnG Pg w K mg base (3 * n + 3) (He.ga K S.law.1.name) (spD (S.tb K (S.tabs K)) S.law.1.ar (fnS S.law.1.N.length (evSs (orc S.txt n) S.law.1.body))) := by
  have B : Bas Pg w K mg base (S.tb K (S.tabs K)) S.txt S.cv := bas_of X G t k sd
  have P0 := prok B n
  obtain ⟨l1, l⟩ := He.ba t.law
  obtain ⟨l2, l3⟩ := He.ba l
  obtain ⟨fdt, D⟩ := sd.defs (d := Src.fd S.law) (List.mem_append_left _ (List.mem_map.mpr ⟨_, List.mem_cons_self .., rfl⟩))
  obtain ⟨Sc, hb, hl⟩ := fnT_ok l1 D
  have hck : okSs (S.cv.at S.law.1.N (defScope S.law.2).names) S.law.1.body (defBody S.law.2) = some S.lawQ := by
    show S.okF S.law = some ((S.okF S.law).getD [])
    cases e : S.okF S.law with
    | none => rw [e] at l2; cases l2
    | some q => rfl
  obtain ⟨oc, od, dV, kV, doc, pm, an, cdv, ct, osl, rfl, lk, hcd, _, _⟩ := D.ex
  refine fnG_of lk hcd Sc hb (fun vs H Q E hh => by rw [lenN hl]; exact hh.1) fun A outer s H vs Q E hr hg hh => ?_
  obtain ⟨hn, Φ, μ, G0, ds, g, r, out⟩ := hh
  refine ⟨_, sSs S.law.1.body (xok_fn P0 B.hK Sc hr hg) hck (fun q hq => ?_), ⟨Φ, μ, start0 S.law.1.N.length ds, G0, rel_start g r, body_end g out⟩⟩
  obtain ⟨j, hj⟩ := List.getElem?_of_mem hq
  obtain ⟨e1, b, e2, e3⟩ := (lamsB_ok l3).2 j q hj
  have e1 : q.l = j := by omega
  obtain ⟨F1, F2⟩ := lamB_ok (qual := S.law.1.name) e3
  refine ⟨lamD S.law.1.name S.law.1.N q, ⟨?_, rfl, rfl, rfl, rfl, F1.ok, ?_⟩, F2 _, rfl⟩
  · show S.lawQ[q.l]?.map _ = _
    rw [e1, hj]; rfl
  · have ne : S.lams.isEmpty = false := by
      cases z : S.lams with
      | nil => rw [z] at e2; simp at e2
      | cons _ _ => rfl
    have ecs : S.cs K = [He.cT K (S.law.1.name, none)] := by unfold Src.cs Src.tf; rw [ne]; rfl
    have etb : S.tabs K = [((He.cT K (S.law.1.name, none)).2, S.law.1.name ++ ".<locals>." ++ "<lambda>")] := by unfold Src.tabs; rw [ecs]; rfl
    obtain ⟨c, rfl⟩ := He.codeIn_ref hcd
    have ec : He.codeOf K (S.law.1.name, none) = c := He.codeOf_eq lk rfl
    refine ⟨c, (He.cT K (S.law.1.name, none)).2, rfl, ?_, ?_, ?_⟩
    · have z := TB _ (by rw [ecs]; exact List.mem_singleton.mpr rfl)
      have : (He.cT K (S.law.1.name, none)).1 = c := ec
      rw [this] at z
      exact z
    · show _ ∈ S.tabs K
      rw [etb]; exact List.mem_singleton.mpr rfl
    · intro p hp _
      have hp : p ∈ S.tabs K := hp
      rw [etb] at hp
      rw [List.mem_singleton.mp hp]
      rfl
theorem rg_start {T : Tb} {H : Hp} (ht : LamX.Tabs T.tabs H) (hc : T.con = []) : RG T NoC (fun _ => False) [] H [] :=
  ⟨rfl, List.nodup_nil, fun a z => (by cases z), fun a (z : False) => False.elim z, fun n a mo z => (by simp at z), ht, fun q hq => (by rw [hc] at hq; cases hq)⟩
theorem law_of {l : PySem.W.OpenLaw} {n m : Nat} {fa : Addr} (t : S.Tx) (har : S.law.1.ar = 1) (X : K.In h) (G : h.Ns mainGlobals mg) (hm : mg S.law.1.name = some (.ref fa)) (sx : He.SaysX [] S.defs [] S.tf S.ex w h K)
    (hp : ∀ ns : List Int, ns.length ≤ m → (∀ z ∈ ns, Builtin.Int.intBits z ≤ 1048576) → ∃ G, S.run n ns = .ok (.p (.bl true)) G) : LawG l w K (3 * n + 3) m mg fa h := by
  obtain ⟨x1, x2⟩ := He.ba sx.more
  have sd : He.SaysD [] S.defs K := congrArg (fun z : He.AlT => z.1) sx.t
  have ef : fa = He.ga K S.law.1.name := by
    have z := hm.symm.trans (gloB_ok X G x1)
    cases z
    rfl
  refine ⟨S.cs K, spD (S.tb K (S.tabs K)) S.law.1.ar (fnS S.law.1.N.length (evSs (orc S.txt n) S.law.1.body)), fun p hp => ?_, fun p hp => ?_, fun p hp => ?_, fun H a ns h1 h2 h3 h4 => ?_, fun base X1 G1 TB => ?_⟩
  · obtain ⟨d, hd, rfl⟩ := List.mem_map.mp hp
    exact sx.empty d hd
  · obtain ⟨d, hd, rfl⟩ := List.mem_map.mp hp
    exact sx.out d hd
  · obtain ⟨d, hd, rfl⟩ := List.mem_map.mp hp
    exact PySem.W.codeHd_of_K X (sx.hd d hd)
  · obtain ⟨G', e⟩ := hp ns h1 h2
    refine ⟨by rw [har]; rfl, fun _ => False, [], [], [.scr ns], rg_start (fun p hp => ?_) rfl, .cons (.scr ?_) .nil, ?_⟩
    · obtain ⟨q, hq, rfl⟩ := List.mem_map.mp (show p ∈ S.tabs K from hp)
      exact ⟨#[], h3 q hq, trivial, fun pos cv z => by cases z⟩
    · rcases h4 with h4 | h4
      · exact .inl ⟨h4, fun z => z.elim id fun z => by cases z⟩
      · exact .inr h4
    · have e' : fnS S.law.1.N.length (evSs (orc S.txt n) S.law.1.body) [.scr ns] [] = .ok (.p (.bl true)) G' := e
      unfold OutF
      rw [e']
      intro μ' H' v k1 g1 r1
      cases r1 with
      | p r => cases r with
        | bl b => rfl
  · rw [ef]
    exact law_prom (fdt := default) X1 G1 t x2 sd TB
end
end DL

set_option Elab.async false
set_option linter.all false
set_option maxRecDepth 100000
set_option maxHeartbeats 4000000
/-! DL 25: what the head tells of the heap. -/
namespace DL
open PySem PySem.Spec PyProof.Rows L2

def asZ (g : Addr → Option Obj) (n : Nat) : List Addr := He.asD g n ++ [cStatics]
def tabZ (g : Addr → Option Obj) (K : PySem.W.Frag) (p : He.Defn) : Bool := PySem.W.codeHdIn K (He.cT K p).1 (He.cT K p).2 && (match g (He.cT K p).2 with
  | some o => He.emptyTab o
  | none => false)
def obsZ (n : Nat) (fn : List He.DefD) (tf : List He.Defn) (ex : PySem.W.Frag → Bool) (g : Addr → Option Obj) : He.AlX :=
  (He.obsT [] fn [] (He.frT g (asZ g n)), ex (He.frT g (asZ g n)) && tf.all (tabZ g (He.frT g (asZ g n))))
theorem saysZ {n : Nat} {fn : List He.DefD} {tf : List He.Defn} {ex : PySem.W.Frag → Bool} {w : World} {h : Heap} (e : obsZ n fn tf ex h.get? = He.valX fn [] w) : He.SaysX [] fn [] tf ex w h (He.frT h.get? (asZ h.get? n)) := by
  obtain ⟨e1, e2⟩ := Prod.mk.inj e
  obtain ⟨h1, h2⟩ := He.ba e2
  have tab : ∀ p ∈ tf, _ := fun p hp => He.ba (List.all_eq_true.mp h2 p hp)
  have obj : ∀ p ∈ tf, ∃ o, h.get? (He.cT (He.frT h.get? (asZ h.get? n)) p).2 = some o ∧ He.emptyTab o = true := by
    intro p hp
    have z := (tab p hp).2
    split at z
    · rename_i o q; exact ⟨o, q, z⟩
    · cases z
  refine ⟨e1, h1, fun p hp => (tab p hp).1, fun p hp => ?_, fun p hp => ?_⟩
  · obtain ⟨o, q, z⟩ := obj p hp
    exact He.frT_none q z
  · obtain ⟨o, q, z⟩ := obj p hp
    rw [q, He.emptyTab_eq z]
def hookZ (n : Nat) (fn : List He.DefD) (tf : List He.Defn) (ex : PySem.W.Frag → Bool) : PySem.W.Hook where
  α := He.AlX
  obs := fun s => obsZ n fn tf ex s.heap.get?
  val := fun w => He.valX fn [] w
  says := fun w h => ∃ K : PySem.W.Frag, K.In h ∧ He.SaysX [] fn [] tf ex w h K
  of := fun _ _ e => ⟨_, He.frT_in, saysZ e⟩
  keeps := fun _ _ _ ⟨K, hK, c⟩ k => ⟨K, PySem.W.Frag.In.keeps hK k, ⟨c.t, c.more, c.hd, c.out, fun p hp => k _ _ (c.empty p hp)⟩⟩
theorem obsZ_eq {n : Nat} {fn : List He.DefD} {tf : List He.Defn} {ex : PySem.W.Frag → Bool} {g : Addr → Option Obj} {s : Shared} (h : ∀ a, g a = s.heap.get? a) : obsZ n fn tf ex g = (hookZ n fn tf ex).obs s := by
  obtain rfl : g = s.heap.get? := funext h
  rfl
end DL

set_option Elab.async false
set_option linter.all false
set_option maxRecDepth 100000
set_option maxHeartbeats 4000000
/-! DL E1: the small text, step by step. -/
namespace DL
open PySem L2
section
variable {o : Orc} {ρ : Ro} {G : Sto}
@[simp] theorem x_nil : evSs o .nil ρ G = .nx ρ G := rfl
@[simp] theorem x_cons {s : mS} {r : mSs} : evSs o (.cons s r) ρ G = match evS o s ρ G with
  | .nx ρ' G' => evSs o r ρ' G'
  | r => r := rfl
@[simp] theorem x_ret {e : mE} : evS o (.ret e) ρ G = (ev o e ρ G).st ρ fun d G' => .rt d ρ G' := rfl
@[simp] theorem x_retN : evS o .retN ρ G = .rt (.p .non) ρ G := rfl
@[simp] theorem x_pass : evS o .pass ρ G = .nx ρ G := rfl
@[simp] theorem x_doc : evS o .doc ρ G = .nx ρ G := rfl
@[simp] theorem x_brk : evS o .brk ρ G = .bk ρ G := rfl
@[simp] theorem x_cnt : evS o .cnt ρ G = .ct ρ G := rfl
@[simp] theorem x_exp {e : mE} : evS o (.exp e) ρ G = (ev o e ρ G).st ρ fun _ G' => .nx ρ G' := rfl
@[simp] theorem x_asg {p : Pt} {e : mE} : evS o (.asg p e) ρ G = (ev o e ρ G).st ρ fun d G' => match bindP p d ρ with
  | some ρ' => .nx ρ' G'
  | none => .stuck := rfl
@[simp] theorem x_par {i j : Nat} {a b : mE} : evS o (.par i j a b) ρ G = (ev o a ρ G).st ρ fun d G1 => (ev o b ρ G1).st ρ fun e G2 => match bindPs [.v i, .v j] [d, e] ρ with
  | some ρ' => .nx ρ' G2
  | none => .stuck := rfl
@[simp] theorem x_put {d k v : mE} : evS o (.put d k v) ρ G = (ev o v ρ G).st ρ fun v G1 => (ev o d ρ G1).st ρ fun x G2 => (ev o k ρ G2).st ρ fun y G3 => match dputD G3 x y v with
  | some G4 => .nx ρ G4
  | none => .stuck := rfl
@[simp] theorem x_if {c : mT} {a b : mSs} : evS o (.ife c a b) ρ G = (evT o c ρ G).st ρ fun b' G' => if b' = true then evSs o a ρ G' else evSs o b ρ G' := rfl
@[simp] theorem x_raise {g : Nat} {xs : mEs} : evS o (.raise g xs) ρ G = (evs o xs ρ G).st ρ fun ds G1 => match allP ds with
  | some xs => if xs.length = (o.xf g).length ∧ xs.length ≤ 1000 then .exc ⟨g, ((o.xf g).zip xs).reverse⟩ ρ G1 else .stuck
  | none => .stuck := rfl
@[simp] theorem x_frz {is : List Nat} {s : mS} : evS o (.frz is s) ρ G = evS o s ⟨ρ.v, ρ.z ++ is⟩ G := rfl
@[simp] theorem x_for {p : Pt} {it : mI} {b : mSs} : evS o (.for_ p it b) ρ G = (evI o it ρ G).st ρ fun ds G1 => forL p (evSs o b) ds ρ G1 := rfl
/-! expressions -/
@[simp] theorem x_var {i : Nat} : ev o (.var i) ρ G = Res.of ((ρ.v[i]?).bind id) G := rfl
@[simp] theorem x_lit {x : P} : ev o (.lit x) ρ G = .ok (.p x) G := rfl
@[simp] theorem x_typ {x : String} : ev o (.typ x) ρ G = .ok (.p (.ty x)) G := rfl
@[simp] theorem x_cls {x : Nat} : ev o (.cls x) ρ G = .ok (.p (.glo x)) G := rfl
@[simp] theorem x_con {s : Str} {x : P} : ev o (.con s x) ρ G = .ok (.p x) G := rfl
@[simp] theorem x_bin {op : Operator} {a b : mE} : ev o (.bin op a b) ρ G = (ev o a ρ G).bind fun x G1 => (ev o b ρ G1).bind fun y G2 => Res.of (binD op G2 x y) G2 := rfl
@[simp] theorem x_neg {a : mE} : ev o (.neg a) ρ G = (ev o a ρ G).bind fun x G1 => Res.of (unD .USub G1 x) G1 := rfl
@[simp] theorem x_cmp {op : CmpOp} {a b : mE} : ev o (.cmp op a b) ρ G = (ev o a ρ G).bind fun x G1 => (ev o b ρ G1).bind fun y G2 => Res.of (cmpA op G2 x y) G2 := rfl
@[simp] theorem x_notV {a : mE} : ev o (.notV a) ρ G = (ev o a ρ G).bind fun x G1 => Res.of (notD G1 x) G1 := rfl
@[simp] theorem x_and1 {a : mE} : evAnd o (.cons a .nil) ρ G = ev o a ρ G := rfl
@[simp] theorem x_and2 {a b : mE} {r : mEs} : evAnd o (.cons a (.cons b r)) ρ G = (ev o a ρ G).bind fun x G1 => match x with
  | .p (.bl b') => if b' = true then evAnd o (.cons b r) ρ G1 else .ok (.p (.bl false)) G1
  | _ => .stuck := rfl
@[simp] theorem x_or1 {a : mE} : evOr o (.cons a .nil) ρ G = ev o a ρ G := rfl
@[simp] theorem x_or2 {a b : mE} {r : mEs} : evOr o (.cons a (.cons b r)) ρ G = (ev o a ρ G).bind fun x G1 => match x with
  | .p (.bl b') => if b' = true then .ok (.p (.bl true)) G1 else evOr o (.cons b r) ρ G1
  | _ => .stuck := rfl
@[simp] theorem x_andV {xs : mEs} : ev o (.andV xs) ρ G = evAnd o xs ρ G := rfl
@[simp] theorem x_orV {xs : mEs} : ev o (.orV xs) ρ G = evOr o xs ρ G := rfl
@[simp] theorem x_ife {c : mT} {a b : mE} : ev o (.ife c a b) ρ G = (evT o c ρ G).bind fun b' G1 => if b' = true then ev o a ρ G1 else ev o b ρ G1 := rfl
@[simp] theorem x_tup {xs : mEs} : ev o (.tup xs) ρ G = (evs o xs ρ G).bind fun xs G1 => if xs.length ≤ 16777216 then .ok (mkTup xs) G1 else .stuck := rfl
@[simp] theorem x_lst0 {xs : mEs} : ev o (.lst false xs) ρ G = (evs o xs ρ G).bind fun xs G1 => if xs.length ≤ 16777216 then .ok (mkLst xs) G1 else .stuck := rfl
@[simp] theorem x_lst1 {xs : mEs} : ev o (.lst true xs) ρ G = (evs o xs ρ G).bind fun xs G1 => if xs.length ≤ 16777216 then .ok (.ref G1.length) (G1 ++ [.lst xs]) else .stuck := rfl
@[simp] theorem x_ix {a b : mE} : ev o (.ix a b) ρ G = (ev o a ρ G).bind fun x G1 => (ev o b ρ G1).bind fun y G2 => Res.of (ixD G2 x y) G2 := rfl
@[simp] theorem x_rev {a : mE} : ev o (.rev a) ρ G = (ev o a ρ G).bind fun x G1 => Res.of (revD G1 x) G1 := rfl
@[simp] theorem x_call0 {f : Nat} {xs : mEs} : ev o (.call f 0 xs) ρ G = (evs o xs ρ G).bind fun ds G1 => if ds.length = o.ar f ∧ ds.all pureArg = true then (match o.fn f ds [] with
  | .ok d G2 => match freeze G2 d with
    | some x => .ok (.p x) G1
    | none => .stuck
  | .exc x _ => .exc x G1
  | .stuck => .stuck) else .stuck := rfl
@[simp] theorem x_call1 {f : Nat} {xs : mEs} : ev o (.call f 1 xs) ρ G = if ρ.z.isEmpty then (evs o xs ρ G).bind fun ds G1 => if ds.length = o.ar f then o.fn f ds G1 else .stuck else .stuck := rfl
@[simp] theorem x_call2 {f : Nat} {xs : mEs} : ev o (.call f 2 xs) ρ G = (evs o xs ρ G).bind fun ds G1 => match resAs G1 ds with
  | some xs => if xs.length = o.ar f then (match o.fn f xs [] with
    | .ok (.p (.bl b)) _ => .ok (.p (.bl b)) G1
    | _ => .stuck) else .stuck
  | none => .stuck := rfl
@[simp] theorem x_bi {b : BI} {xs : mEs} : ev o (.bi b xs) ρ G = (evs o xs ρ G).bind fun ds G1 => Res.of (biF o.ask b G1 ds) G1 := rfl
@[simp] theorem x_app {a b : mE} : ev o (.app a b) ρ G = (ev o a ρ G).bind fun x G1 => if isLst G1 x = true then (ev o b ρ G1).bind fun y G2 => match appD G2 x y with
  | some G3 => .ok (.p .non) G3
  | none => .stuck else .stuck := rfl
@[simp] theorem x_bits {a : mE} : ev o (.bits a) ρ G = (ev o a ρ G).bind fun x G1 => match x with
  | .p (.int i) => .ok (.p (.int (Builtin.Int.intBits i : Nat))) G1
  | _ => .stuck := rfl
@[simp] theorem x_dict {ks : mK} : ev o (.dict ks) ρ G = (pairsF (evK o ks) ρ G).bind fun kvs G1 => .ok (.ref G1.length) (G1 ++ [.dK kvs]) := rfl
@[simp] theorem x_dict0 : ev o (.dict0 0) ρ G = .ok (.p (.dct [])) G := rfl
@[simp] theorem x_lam {l : Nat} {caps : List Nat} : ev o (.lam l caps) ρ G = match capD ρ caps with
  | some cs => .ok (.lam l cs) G
  | none => .stuck := rfl
@[simp] theorem x_evK0 : evK o .nil = [] := rfl
@[simp] theorem x_evK {k : Str} {e : mE} {r : mK} : evK o (.cons k e r) = (k, ev o e) :: evK o r := rfl
@[simp] theorem x_pn : pairsF [] ρ G = .ok [] G := rfl
@[simp] theorem x_pc {k : Str} {f : EF} {r : List (Str × EF)} : pairsF ((k, f) :: r) ρ G = (f ρ G).bind fun d G1 => (pairsF r ρ G1).bind fun ds G2 => .ok ((.inr k, d) :: ds) G2 := rfl
@[simp] theorem x_es0 : evs o .nil ρ G = .ok [] G := rfl
@[simp] theorem x_es {e : mE} {r : mEs} : evs o (.cons e r) ρ G = (ev o e ρ G).bind fun x G1 => (evs o r ρ G1).bind fun xs G2 => .ok (x :: xs) G2 := rfl
/-! tests -/
@[simp] theorem x_tyes : evT o .yes ρ G = .ok true G := rfl
@[simp] theorem x_tcmp {op : CmpOp} {a b : mE} : evT o (.cmp op a b) ρ G = ((ev o a ρ G).bind fun x G1 => (ev o b ρ G1).bind fun y G2 => Res.of (cmpA op G2 x y) G2).bind fun x G1 => match x with
  | .p (.bl b) => .ok b G1
  | _ => .stuck := rfl
@[simp] theorem x_ttru {e : mE} : evT o (.tru e) ρ G = (ev o e ρ G).bind fun x G1 => Res.of (truD G1 x) G1 := rfl
@[simp] theorem x_tnot {t : mT} : evT o (.not t) ρ G = (evT o t ρ G).bind fun b G1 => .ok (!b) G1 := rfl
@[simp] theorem x_tand1 {a : mT} : evTA o (.cons a .nil) ρ G = evT o a ρ G := rfl
@[simp] theorem x_tand2 {a b : mT} {r : mTs} : evTA o (.cons a (.cons b r)) ρ G = (evT o a ρ G).bind fun b' G1 => if b' = true then evTA o (.cons b r) ρ G1 else .ok false G1 := rfl
@[simp] theorem x_tor1 {a : mT} : evTO o (.cons a .nil) ρ G = evT o a ρ G := rfl
@[simp] theorem x_tor2 {a b : mT} {r : mTs} : evTO o (.cons a (.cons b r)) ρ G = (evT o a ρ G).bind fun b' G1 => if b' = true then .ok true G1 else evTO o (.cons b r) ρ G1 := rfl
@[simp] theorem x_tand {xs : mTs} : evT o (.and xs) ρ G = evTA o xs ρ G := rfl
@[simp] theorem x_tor {xs : mTs} : evT o (.or xs) ρ G = evTO o xs ρ G := rfl
/-! what is gone over -/
@[simp] theorem x_gen {e : mE} : evI o (.gen e) ρ G = (ev o e ρ G).bind fun d G1 => Res.of (iterD ρ.z d) G1 := rfl
@[simp] theorem x_range1 {e : mE} : evI o (.range1 e) ρ G = (ev o e ρ G).bind fun d G1 => match d with
  | .p (.int j) => if okRng j = true then .ok (rangeI 0 j.toNat) G1 else .stuck
  | _ => .stuck := rfl
@[simp] theorem x_range2 {e f : mE} : evI o (.range2 e f) ρ G = (ev o e ρ G).bind fun d G1 => (ev o f ρ G1).bind fun e G2 => match d, e with
  | .p (.int i), .p (.int j) => if okRng i = true then (if okRng j = true then .ok (rangeI i (j - i).toNat) G2 else .stuck) else .stuck
  | _, _ => .stuck := rfl
@[simp] theorem x_down {a b c : mE} : evI o (.down a b c) ρ G = (ev o a ρ G).bind fun d G1 => (ev o b ρ G1).bind fun e G2 => (ev o c ρ G2).bind fun f G3 => match d, e, f with
  | .p (.int i), .p (.int j), .p (.int c) => if c = -1 then (if okRng i = true then (if okRng j = true then .ok (downI i (i - j).toNat) G3 else .stuck) else .stuck) else .stuck
  | _, _, _ => .stuck := rfl
/-! the monad -/
variable {α β : Type}
@[simp] theorem x_bo {a : α} {k : α → Sto → Res β} : (Res.ok a G).bind k = k a G := rfl
@[simp] theorem x_be {x : Exn} {k : α → Sto → Res β} : (Res.exc x G).bind k = .exc x G := rfl
@[simp] theorem x_bs {k : α → Sto → Res β} : (Res.stuck : Res α).bind k = .stuck := rfl
@[simp] theorem x_so {a : α} {k : α → Sto → SR} : (Res.ok a G).st ρ k = k a G := rfl
@[simp] theorem x_se {x : Exn} {k : α → Sto → SR} : (Res.exc x G : Res α).st ρ k = .exc x ρ G := rfl
@[simp] theorem x_ss {k : α → Sto → SR} : (Res.stuck : Res α).st ρ k = .stuck := rfl
@[simp] theorem x_of {a : α} : Res.of (some a) G = .ok a G := rfl
@[simp] theorem x_ofn : Res.of (none : Option α) G = .stuck := rfl
@[simp] theorem x_b1 {i : Nat} {d : D} : bindP (.v i) d ρ = setV ρ i d := rfl
@[simp] theorem x_b2 {ps : List Pt} {d : D} : bindP (.t ps) d ρ = match itemsT d with
  | some ds => bindPs ps ds ρ
  | none => none := rfl
@[simp] theorem x_b3 : bindPs [] [] ρ = some ρ := rfl
@[simp] theorem x_b4 {p : Pt} {ps : List Pt} {d : D} {ds : List D} : bindPs (p :: ps) (d :: ds) ρ = match bindP p d ρ with
  | some ρ' => bindPs ps ds ρ'
  | none => none := rfl
@[simp] theorem x_set {v : List (Option D)} {z : List Nat} {i : Nat} {d : D} : setV ⟨v, z⟩ i d = if i ∈ z then none else if i < v.length then some ⟨v.set i (some d), z⟩ else none := rfl
@[simp] theorem x_it1 {xs : List P} : itemsT (.p (.tup xs)) = some (xs.map D.p) := rfl
@[simp] theorem x_it2 {xs : List D} : itemsT (.tup xs) = some xs := rfl
@[simp] theorem x_al0 : allP [] = some [] := rfl
@[simp] theorem x_al {x : P} {r : List D} : allP (.p x :: r) = (allP r).map (x :: ·) := rfl
@[simp] theorem x_fr {x : P} : freeze G (.p x) = some x := rfl
@[simp] theorem x_pa {x : P} : pureArg (.p x) = true := rfl
@[simp] theorem x_pas {x : List Int} : pureArg (.scr x) = true := rfl
theorem x_fn {n : Nat} {b : SF} {ds : List D} : fnS n b ds G = (b (start0 n ds) G).res G := rfl
@[simp] theorem x_st {n : Nat} {ds : List D} : start0 n ds = ⟨ds.map some ++ List.replicate (n - ds.length) none, []⟩ := rfl
@[simp] theorem x_rt {d : D} {v : List (Option D)} {G0 : Sto} : SR.res G0 (.rt d ⟨v, []⟩ G) = .ok d G := rfl
@[simp] theorem x_rn {v : List (Option D)} {G0 : Sto} : SR.res G0 (.nx ⟨v, []⟩ G) = .ok (.p .non) G := rfl
@[simp] theorem x_rx {x : Exn} {v : List (Option D)} {G0 : Sto} : SR.res G0 (.exc x ⟨v, []⟩ G) = .exc x G := rfl
/-! data -/
@[simp] theorem x_add {i j : Int} : binD .Add G (.p (.int i)) (.p (.int j)) = some (.p (.int (i + j))) := rfl
@[simp] theorem x_sub {i j : Int} : binD .Sub G (.p (.int i)) (.p (.int j)) = some (.p (.int (i - j))) := rfl
@[simp] theorem x_mul {i j : Int} : binD .Mult G (.p (.int i)) (.p (.int j)) = if mulOk i j = true then some (.p (.int (i * j))) else none := rfl
@[simp] theorem x_div {i j : Int} : binD .FloorDiv G (.p (.int i)) (.p (.int j)) = if divOk j = true then some (.p (.int (i.fdiv j))) else none := rfl
@[simp] theorem x_mod {i j : Int} : binD .Mod G (.p (.int i)) (.p (.int j)) = if j ≠ 0 then some (.p (.int (i.fmod j))) else none := rfl
@[simp] theorem x_pow {i j : Int} : binD .Pow G (.p (.int i)) (.p (.int j)) = if powOk i j = true then some (.p (.int (i ^ j.toNat))) else none := rfl
@[simp] theorem x_us {i : Int} : unD .USub G (.p (.int i)) = some (.p (.int (-i))) := rfl
@[simp] theorem x_lt {i j : Int} : cmpA .Lt G (.p (.int i)) (.p (.int j)) = some (.p (.bl (decide (i < j)))) := rfl
@[simp] theorem x_le {i j : Int} : cmpA .LtE G (.p (.int i)) (.p (.int j)) = some (.p (.bl (decide (i ≤ j)))) := rfl
@[simp] theorem x_gt {i j : Int} : cmpA .Gt G (.p (.int i)) (.p (.int j)) = some (.p (.bl (decide (j < i)))) := rfl
@[simp] theorem x_ge {i j : Int} : cmpA .GtE G (.p (.int i)) (.p (.int j)) = some (.p (.bl (decide (j ≤ i)))) := rfl
@[simp] theorem x_eqI {i j : Int} : cmpA .Eq G (.p (.int i)) (.p (.int j)) = some (.p (.bl (decide (i = j)))) := rfl
@[simp] theorem x_neI {i j : Int} : cmpA .NotEq G (.p (.int i)) (.p (.int j)) = some (.p (.bl (!decide (i = j)))) := rfl
@[simp] theorem x_eqS {i j : Str} : cmpA .Eq G (.p (.str i)) (.p (.str j)) = some (.p (.bl (decide (i = j)))) := rfl
@[simp] theorem x_neS {i j : Str} : cmpA .NotEq G (.p (.str i)) (.p (.str j)) = some (.p (.bl (!decide (i = j)))) := rfl
@[simp] theorem x_isB {i j : Bool} : cmpA .Is G (.p (.bl i)) (.p (.bl j)) = some (.p (.bl (decide (i = j)))) := rfl
@[simp] theorem x_isN {d : D} : cmpA .Is G d (.p .non) = some (.p (.bl (isNonD d))) := by cases d <;> rfl
@[simp] theorem x_ixT {xs : List P} {i : Int} : ixD G (.p (.tup xs)) (.p (.int i)) = (atI xs i).map D.p := rfl
@[simp] theorem x_ixL {xs : List P} {i : Int} : ixD G (.p (.lst xs)) (.p (.int i)) = atI (xs.map D.p) i := rfl
@[simp] theorem x_ixR {n : Nat} {k : Key} {x : P} {kvs : List (Key × D)} (h : G[n]? = some (.dK kvs)) (hk : keyP x = some k) : ixD G (.ref n) (.p x) = valK kvs k := by
  unfold ixD dgetD
  simp only [h, hk, Option.map_some]
@[simp] theorem x_mkT {xs : List P} : mkTup (xs.map D.p) = .p (.tup xs) := by
  have : allP (xs.map D.p) = some xs := by induction xs with
    | nil => rfl
    | cons x xs ih => rw [List.map_cons, x_al, ih]; rfl
  unfold mkTup; rw [this]
end
end DL

set_option Elab.async false
set_option linter.all false
set_option maxRecDepth 100000
set_option maxHeartbeats 4000000
/-! DL E2: the pen that all laws draw from; comprehensions, loops, shown data in plain words. -/
namespace DL
open PySem L2
theorem fn_at {S : Txt} {n i : Nat} {F : Fnc} (h : S.fns[i]? = some F) : (orc S (n + 1)).fn i = fnS F.N.length (evSs (orc S n) F.body) := by
  show (S.fns[i]?.elim _ _) = _
  rw [h]; rfl
theorem ar_at {S : Txt} {n i : Nat} {F : Fnc} (h : S.fns[i]? = some F) : (orc S n).ar i = F.ar := by
  show S.fns[i]?.elim 0 Fnc.ar = _
  rw [h]; rfl
def drawT : mSs := (.cons (.put (.var 0) (.lit (.str "count")) (.bin .Add (.ix (.var 0) (.lit (.str "count"))) (.lit (.int 1)))) (.cons (.ife (.and (.cons (.cmp .Eq (.ix (.var 0) (.lit (.str "digits"))) (.lit (.int 0))) (.cons (.cmp .Lt (.ix (.var 0) (.lit (.str "at"))) (.bi .len (.cons (.ix (.var 0) (.lit (.str "cells"))) .nil))) .nil))) (.cons (.asg (.v 2) (.ix (.ix (.var 0) (.lit (.str "cells"))) (.ix (.var 0) (.lit (.str "at"))))) (.cons (.put (.var 0) (.lit (.str "at")) (.bin .Add (.ix (.var 0) (.lit (.str "at"))) (.lit (.int 1)))) (.cons (.ife (.cmp .GtE (.var 2) (.bin .Pow (.lit (.int 10)) (.lit (.int 18)))) (.cons (.put (.var 0) (.lit (.str "digits")) (.bin .Sub (.var 2) (.bin .Pow (.lit (.int 10)) (.lit (.int 18))))) .nil) (.cons (.put (.var 0) (.lit (.str "fold")) (.bin .Mod (.bi .int (.cons (.bin .Add (.bin .Mult (.ix (.var 0) (.lit (.str "fold"))) (.lit (.int 40013))) (.var 2)) .nil)) (.lit (.int 2147482951)))) .nil)) .nil))) .nil) (.cons (.ife (.cmp .Gt (.ix (.var 0) (.lit (.str "digits"))) (.lit (.int 0))) (.cons (.asg (.v 3) (.bin .Mod (.bi .int (.cons (.ix (.var 0) (.lit (.str "digits"))) .nil)) (.var 1))) (.cons (.put (.var 0) (.lit (.str "digits")) (.bin .FloorDiv (.ix (.var 0) (.lit (.str "digits"))) (.var 1))) (.cons (.ret (.var 3)) .nil))) .nil) (.cons (.asg (.v 4) (.bin .Add (.bin .Add (.ix (.var 0) (.lit (.str "fold"))) (.bin .Mult (.ix (.var 0) (.lit (.str "count"))) (.lit (.int 7019)))) (.lit (.int 223)))) (.cons (.ret (.bin .Mod (.bin .FloorDiv (.bi .int (.cons (.bin .Mod (.bin .Pow (.var 4) (.lit (.int 59))) (.lit (.int 2305843009213693951))) .nil)) (.lit (.int 2048))) (.var 1))) .nil)))))
def pickT (i : Nat) : mSs := (.cons (.ret (.ix (.var 1) (.call i 1 (.cons (.var 0) (.cons (.bi .len (.cons (.var 1) .nil)) .nil))))) .nil)
def penT : mSs := (.cons (.asg (.v 1) (.lit (.int 0))) (.cons (.for_ (.v 2) (.gen (.var 0)) (.cons (.asg (.v 1) (.bin .Mod (.bi .int (.cons (.bin .Add (.bin .Mult (.var 1) (.lit (.int 197))) (.var 2)) .nil)) (.lit (.int 999998801)))) .nil)) (.cons (.ret (.dict (.cons "cells" (.bi .list (.cons (.var 0) .nil)) (.cons "at" (.lit (.int 0)) (.cons "digits" (.lit (.int 0)) (.cons "count" (.lit (.int 0)) (.cons "fold" (.var 1) .nil))))))) .nil)))
def penS (ns : List Int) (at_ dg c f : Int) : MO := .dK [(.inr "cells", .p (.lst (ns.map P.int))), (.inr "at", .p (.int at_)), (.inr "digits", .p (.int dg)), (.inr "count", .p (.int c)), (.inr "fold", .p (.int f))]
section
variable {ns : List Int} {at_ dg c f x : Int} {R : Sto}
@[simp] theorem p_cells : ixD (penS ns at_ dg c f :: R) (.ref 0) (.p (.str "cells")) = some (.p (.lst (ns.map P.int))) := by kernel_rfl
@[simp] theorem p_at : ixD (penS ns at_ dg c f :: R) (.ref 0) (.p (.str "at")) = some (.p (.int at_)) := by kernel_rfl
@[simp] theorem p_dg : ixD (penS ns at_ dg c f :: R) (.ref 0) (.p (.str "digits")) = some (.p (.int dg)) := by kernel_rfl
@[simp] theorem p_c : ixD (penS ns at_ dg c f :: R) (.ref 0) (.p (.str "count")) = some (.p (.int c)) := by kernel_rfl
@[simp] theorem p_f : ixD (penS ns at_ dg c f :: R) (.ref 0) (.p (.str "fold")) = some (.p (.int f)) := by kernel_rfl
@[simp] theorem s_at : dputD (penS ns at_ dg c f :: R) (.ref 0) (.p (.str "at")) (.p (.int x)) = some (penS ns x dg c f :: R) := by kernel_rfl
@[simp] theorem s_dg : dputD (penS ns at_ dg c f :: R) (.ref 0) (.p (.str "digits")) (.p (.int x)) = some (penS ns at_ x c f :: R) := by kernel_rfl
@[simp] theorem s_c : dputD (penS ns at_ dg c f :: R) (.ref 0) (.p (.str "count")) (.p (.int x)) = some (penS ns at_ dg x f :: R) := by kernel_rfl
@[simp] theorem s_f : dputD (penS ns at_ dg c f :: R) (.ref 0) (.p (.str "fold")) (.p (.int x)) = some (penS ns at_ dg c x :: R) := by kernel_rfl
end
def Pn (b : Int) (R G : Sto) : Prop := ∃ ns at_ dg c f, G = penS ns at_ dg c f :: R ∧ 0 ≤ at_ ∧ at_ ≤ ns.length ∧ 0 ≤ dg ∧ 0 ≤ c ∧ c ≤ b ∧ 0 ≤ f ∧ f < 2147483648
theorem log2_lt {i : Int} {k : Nat} (h : i.natAbs < 2 ^ k) (hk : 0 < k) : i.natAbs.log2 < k := by
  by_cases z : i.natAbs = 0
  · rw [z]; exact hk
  · exact (Nat.log2_lt z).mpr h
theorem pmul_ok {i j : Int} (h1 : i.natAbs < 2 ^ 200) (h2 : j.natAbs < 2 ^ 200) : mulOk i j = true := by
  have a := log2_lt h1 (by decide)
  have b := log2_lt h2 (by decide)
  unfold mulOk
  exact decide_eq_true (by omega)
theorem pdiv_ok {j : Int} (h : j ≠ 0) (h2 : j.natAbs < 2 ^ 200) : divOk j = true := by
  have b := log2_lt h2 (by decide)
  unfold divOk
  rw [Bool.and_eq_true]
  exact ⟨decide_eq_true h, decide_eq_true (by omega)⟩
theorem atI_nat {α : Type} {xs : List α} {i : Int} (h0 : 0 ≤ i) (h : i < xs.length) : atI xs i = xs[i.toNat]? := by
  unfold atI
  have : ixN xs.length i = some i.toNat := by
    unfold ixN
    simp [h0, h]
    try omega
  rw [this]
  try rfl
theorem pat_ok {ns : List Int} {i : Int} (h0 : 0 ≤ i) (h : i < ns.length) : ∃ c, atI (ns.map (D.p ∘ P.int)) i = some (.p (.int c)) := by
  have hi : i.toNat < ns.length := by omega
  refine ⟨ns[i.toNat], ?_⟩
  rw [atI_nat h0 (by rw [List.length_map]; exact h), List.getElem?_map, List.getElem?_eq_getElem hi]
  rfl
theorem ppow_ok {i : Int} (h : i.natAbs < 2 ^ 64) : powOk i 59 = true := by
  unfold powOk
  rw [Bool.and_eq_true, Bool.and_eq_true]
  exact ⟨⟨by decide, by decide⟩, decide_eq_true h⟩
theorem fm_lt {a m : Int} (h : 0 < m) : 0 ≤ a.fmod m ∧ a.fmod m < m := ⟨Int.fmod_nonneg_of_pos a h, Int.fmod_lt_of_pos a h⟩
theorem fd_nn {a m : Int} (h0 : 0 ≤ a) (h : 0 < m) : 0 ≤ a.fdiv m := by
  rw [Int.fdiv_eq_ediv_of_nonneg _ (by omega)]
  exact Int.ediv_nonneg h0 (by omega)
theorem draw_ev {o : Orc} {b m : Int} {R G : Sto} (h : Pn b R G) (hb : b < 1000000) (h0 : 0 < m) (hm : m < 1000000) : ∃ k G', fnS 5 (evSs o drawT) [.ref 0, .p (.int m)] G = .ok (.p (.int k)) G' ∧ 0 ≤ k ∧ k < m ∧ Pn (b + 1) R G' := by
  obtain ⟨ns, at_, dg, c, f, rfl, h1, h2, h3, h4, h5, h6, h7⟩ := h
  rw [x_fn, drawT]
  have m1 : mulOk (c + 1) 7019 = true := pmul_ok (by omega) (by omega)
  have m2 : mulOk f 40013 = true := pmul_ok (by omega) (by omega)
  have d1 : divOk m = true := pdiv_ok (by omega) (by omega)
  have d2 : divOk 2048 = true := pdiv_ok (by omega) (by omega)
  have hm0 : m ≠ 0 := by omega
  by_cases e1 : dg = 0
  · subst e1
    by_cases e2 : at_ < ns.length
    · obtain ⟨cell, hc⟩ := pat_ok h1 e2
      have p1 : powOk 10 18 = true := by decide
      by_cases e3 : (1000000000000000000 : Int) ≤ cell
      · by_cases e4 : (1000000000000000000 : Int) < cell
        · simp [biF, intD, lenD, rowL, e2, m1, m2, d1, d2, hm0, hc, p1, e3, e4]
          refine ⟨_, _, ⟨rfl, rfl⟩, (fm_lt h0).1, (fm_lt h0).2, _, _, _, _, _, rfl, by omega, by omega, fd_nn (by omega) h0, by omega, by omega, h6, h7⟩
        · have p2 : powOk (f + (c + 1) * 7019 + 223) 59 = true := ppow_ok (by omega)
          simp [biF, intD, lenD, rowL, e2, m1, m2, d1, d2, hm0, hc, p1, e3, e4, p2]
          refine ⟨_, _, ⟨rfl, rfl⟩, (fm_lt h0).1, (fm_lt h0).2, _, _, _, _, _, rfl, by omega, by omega, by omega, by omega, by omega, h6, h7⟩
      · have hf := fm_lt (a := f * 40013 + cell) (m := 2147482951) (by omega)
        have p2 : powOk ((f * 40013 + cell).fmod 2147482951 + (c + 1) * 7019 + 223) 59 = true := ppow_ok (by omega)
        simp [biF, intD, lenD, rowL, e2, m1, m2, d1, d2, hm0, hc, p1, e3, p2]
        refine ⟨_, _, ⟨rfl, rfl⟩, (fm_lt h0).1, (fm_lt h0).2, _, _, _, _, _, rfl, by omega, by omega, by omega, by omega, by omega, hf.1, by omega⟩
    · have p2 : powOk (f + (c + 1) * 7019 + 223) 59 = true := ppow_ok (by omega)
      simp [biF, intD, lenD, rowL, e2, m1, m2, d1, d2, hm0, p2]
      refine ⟨_, _, ⟨rfl, rfl⟩, (fm_lt h0).1, (fm_lt h0).2, _, _, _, _, _, rfl, by omega, by omega, by omega, by omega, by omega, h6, h7⟩
  · have e5 : 0 < dg := by omega
    simp [biF, intD, lenD, rowL, e1, m1, m2, d1, d2, hm0, e5]
    refine ⟨_, _, ⟨rfl, rfl⟩, (fm_lt h0).1, (fm_lt h0).2, _, _, _, _, _, rfl, by omega, by omega, fd_nn h3 h0, by omega, by omega, h6, h7⟩
theorem Pn.mono {a b : Int} {R G : Sto} (h : Pn a R G) (l : a ≤ b) : Pn b R G := by
  obtain ⟨ns, at_, dg, c, f, h0, h1, h2, h3, h4, h5, h6, h7⟩ := h
  exact ⟨ns, at_, dg, c, f, h0, h1, h2, h3, h4, by omega, h6, h7⟩
/-- a store that has grown -/
theorem Pn.more {a : Int} {R G X : Sto} (h : Pn a R G) : Pn a (R ++ X) (G ++ X) := by
  obtain ⟨ns, at_, dg, c, f, h0, h⟩ := h
  exact ⟨ns, at_, dg, c, f, by rw [h0]; rfl, h⟩
def DrawOk (o : Orc) (i : Nat) : Prop := o.ar i = 2 ∧ ∀ (b m : Int) (R G : Sto), Pn b R G → b < 1000000 → 0 < m → m < 1000000 → ∃ k G', o.fn i [.ref 0, .p (.int m)] G = .ok (.p (.int k)) G' ∧ 0 ≤ k ∧ k < m ∧ Pn (b + 1) R G'
theorem pick_ev {o : Orc} {i : Nat} {b : Int} {R G : Sto} {xs : List P} (Dk : DrawOk o i) (h : Pn b R G) (hb : b < 1000000) (h0 : xs ≠ []) (hm : xs.length < 1000000) : ∃ x G', x ∈ xs ∧ fnS 2 (evSs o (pickT i)) [.ref 0, .p (.lst xs)] G = .ok (.p x) G' ∧ Pn (b + 1) R G' := by
  have hl : 0 < xs.length := List.length_pos_iff.mpr h0
  obtain ⟨k, G', h1, h2, h3, h4⟩ := Dk.2 b xs.length R G h hb (by omega) (by omega)
  have hk : k.toNat < xs.length := by omega
  refine ⟨xs[k.toNat], G', List.getElem_mem hk, ?_, h4⟩
  have ea : atI (xs.map D.p) k = some (.p xs[k.toNat]) := by
    rw [atI_nat h2 (by rw [List.length_map]; omega), List.getElem?_map, List.getElem?_eq_getElem hk]
    rfl
  rw [x_fn, pickT]
  simp [biF, lenD, rowL, Dk.1, h1, ea]
@[simp] theorem forL_nil {p : Pt} {b : SF} {ρ : Ro} {G : Sto} : forL p b [] ρ G = .nx ρ G := rfl
theorem forL_cons {p : Pt} {b : SF} {d : D} {ds : List D} {ρ : Ro} {G : Sto} : forL p b (d :: ds) ρ G = match bindP p d ρ with
    | none => .stuck
    | some ρ1 => match b ρ1 G with
      | .nx ρ2 G2 => forL p b ds ρ2 G2
      | .ct ρ2 G2 => forL p b ds ρ2 G2
      | .bk ρ2 G2 => .nx ρ2 G2
      | .rt d ρ2 G2 => .rt d ρ2 G2
      | .exc x ρ2 G2 => .exc x ρ2 G2
      | .stuck => .stuck := rfl
theorem mk_lst {xs : List P} : mkLst (xs.map D.p) = .p (.lst xs) := by
  have : allP (xs.map D.p) = some xs := by induction xs with
    | nil => rfl
    | cons x xs ih => rw [List.map_cons, x_al, ih]; rfl
  unfold mkLst; rw [this]
def penB : mSs := (.cons (.asg (.v 1) (.bin .Mod (.bi .int (.cons (.bin .Add (.bin .Mult (.var 1) (.lit (.int 197))) (.var 2)) .nil)) (.lit (.int 999998801)))) .nil)
theorem pen_loop {o : Orc} {G : Sto} {d : D} : ∀ (ns : List Int) (f : Int) (c : Option D), 0 ≤ f → f < 999998801 → ∃ f' c', forL (.v 2) (evSs o penB) (ns.map fun n => D.p (.int n)) ⟨[some d, some (.p (.int f)), c], []⟩ G = .nx ⟨[some d, some (.p (.int f')), c'], []⟩ G ∧ 0 ≤ f' ∧ f' < 999998801
  | [], f, c, h0, h1 => ⟨f, c, by simp, h0, h1⟩
  | i :: ns, f, c, h0, h1 => by
    have l := fm_lt (a := f * 197 + i) (m := 999998801) (by omega)
    obtain ⟨f', c', e, h2, h3⟩ := pen_loop (o := o) (G := G) (d := d) ns ((f * 197 + i).fmod 999998801) (some (.p (.int i))) l.1 l.2
    refine ⟨f', c', ?_, h2, h3⟩
    have m1 : mulOk f 197 = true := pmul_ok (by omega) (by omega)
    rw [List.map_cons, forL_cons]
    unfold penB at e ⊢
    simp [biF, intD, m1, e]
theorem pen_ev {o : Orc} {ns : List Int} : ∃ f, fnS 3 (evSs o penT) [.scr ns] [] = .ok (.ref 0) [penS ns 0 0 0 f] ∧ Pn 0 [] [penS ns 0 0 0 f] := by
  obtain ⟨f, c, e, h0, h1⟩ := pen_loop (o := o) (G := []) (d := .scr ns) ns 0 none (by decide) (by decide)
  refine ⟨f, ?_, ns, 0, 0, 0, f, rfl, by omega, by omega, by omega, by omega, by omega, h0, by omega⟩
  have hl : listD [] [.scr ns] = some (.p (.lst (ns.map P.int))) := by
    have e : (ns.map fun n => D.p (.int n)) = (ns.map P.int).map D.p := by rw [List.map_map]; rfl
    show some (mkLst (ns.map fun n => D.p (.int n))) = _
    rw [e, mk_lst]
  rw [x_fn, penT]
  unfold penB at e
  simp [biF, iterD, e, hl, penS]
/-! comprehensions -/
theorem compL_pure {p : Pt} {fc : TF} {fe : EF} {ρ : Ro} {G : Sto} {f : D → D} : ∀ {ds : List D}, (∀ d ∈ ds, ∃ ρ1, bindP p d ρ = some ρ1 ∧ fc ρ1 G = .ok true G ∧ fe ρ1 G = .ok (f d) G) → compL p fc fe ds ρ G = some (ds.map f, G)
  | [], _ => rfl
  | d :: ds, h => by
    obtain ⟨ρ1, h1, h2, h3⟩ := h d (by simp)
    have ih := compL_pure (f := f) (ds := ds) fun x hx => h x (by simp [hx])
    unfold compL
    rw [h1]
    simp only [h2, h3, ih, List.map_cons]
theorem compL_st {p : Pt} {fc : TF} {fe : EF} {ρ : Ro} {I : Nat → Sto → Prop} {Q : D → Prop} : ∀ {ds : List D} {k : Nat} {G : Sto}, I k G → (∀ d ∈ ds, ∀ j G, j < k + ds.length → I j G → ∃ ρ1 y G', bindP p d ρ = some ρ1 ∧ fc ρ1 G = .ok true G ∧ fe ρ1 G = .ok y G' ∧ Q y ∧ I (j + 1) G') →
    ∃ ys G', compL p fc fe ds ρ G = some (ys, G') ∧ ys.length = ds.length ∧ (∀ y ∈ ys, Q y) ∧ I (k + ds.length) G'
  | [], k, G, h, _ => ⟨[], G, rfl, rfl, by simp, h⟩
  | d :: ds, k, G, h, hs => by
    obtain ⟨ρ1, y, G1, h1, h2, h3, h4, h5⟩ := hs d (by simp) k G (by simp) h
    obtain ⟨ys, G2, e1, e2, e3, e4⟩ := compL_st (ds := ds) (k := k + 1) (G := G1) h5 fun x hx j G hj => hs x (by simp [hx]) j G (by simp only [List.length_cons]; omega)
    refine ⟨y :: ys, G2, ?_, by simp [e2], ?_, ?_⟩
    · unfold compL
      rw [h1]
      simp only [h2, h3, e1]
    · intro z hz
      rcases List.mem_cons.mp hz with rfl | hz
      · exact h4
      · exact e3 z hz
    · rw [show k + (d :: ds).length = k + 1 + ds.length by simp; omega]
      exact e4
section
variable {o : Orc} {ρ : Ro} {G : Sto}
@[simp] theorem x_comp {p : Pt} {own : List (Str × Nat)} {it : mI} {c : mT} {e : mE} {v : List (Option D)} : ev o (.comp p own it c e) ⟨v, []⟩ G = (evI o it ⟨v, []⟩ G).bind fun xs G1 => match compL p (evT o c) (ev o e) xs (wipeR ⟨v, []⟩ (own.map (·.2))) G1 with
    | some (ys, G2) => if ys.length ≤ 16777216 then .ok (mkLst ys) G2 else .stuck
    | none => .stuck := rfl
@[simp] theorem x_fld {e : mE} {f : Str} : ev o (.fld e f) ρ G = (ev o e ρ G).bind fun x G1 => Res.of (fldD o.ob f G1 x) G1 := rfl
@[simp] theorem x_enum {e : mE} : evI o (.enum e) ρ G = (ev o e ρ G).bind fun d G1 => Res.of ((iterD ρ.z d).map (enumF 0)) G1 := rfl
@[simp] theorem x_zip {a b : mE} : evI o (.zip a b) ρ G = (ev o a ρ G).bind fun d G1 => (ev o b ρ G1).bind fun e G2 => Res.of (zipD ρ.z d e) G2 := rfl
@[simp] theorem x_notD {b : Bool} : notD G (.p (.bl b)) = some (.p (.bl (!b))) := rfl
end
@[simp] theorem mk_ints {ws : List Int} : mkLst (ws.map (D.p ∘ P.int)) = .p (.lst (ws.map P.int)) := by
  have := mk_lst (xs := ws.map P.int)
  rw [List.map_map] at this
  exact this
@[simp] theorem mkT_ints {ws : List Int} : mkTup (ws.map (D.p ∘ P.int)) = .p (.tup (ws.map P.int)) := by
  have := x_mkT (xs := ws.map P.int)
  rw [List.map_map] at this
  exact this
@[simp] theorem tup_lst {xs : List P} {G : Sto} : tupleD G [.p (.lst xs)] = some (.p (.tup xs)) := by
  show some (mkTup (xs.map D.p)) = _
  rw [x_mkT]
@[simp] theorem tup_tup {xs : List P} {G : Sto} : tupleD G [.p (.tup xs)] = some (.p (.tup xs)) := rfl
@[simp] theorem lst_tup {xs : List P} {G : Sto} : listD G [.p (.tup xs)] = some (.p (.lst xs)) := by
  show some (mkLst (xs.map D.p)) = _
  rw [mk_lst]
@[simp] theorem lst_lst {xs : List P} {G : Sto} : listD G [.p (.lst xs)] = some (.p (.lst xs)) := by
  show some (mkLst (xs.map D.p)) = _
  rw [mk_lst]
@[simp] theorem len_tup {xs : List P} {G : Sto} : lenD G [.p (.tup xs)] = some (.p (.int xs.length)) := rfl
@[simp] theorem len_lst {xs : List P} {G : Sto} : lenD G [.p (.lst xs)] = some (.p (.int xs.length)) := by
  show some (D.p (.int (xs.map D.p).length)) = _
  rw [List.length_map]
@[simp] theorem bi1 {a : Ask} : biF a .tuple = tupleD := rfl
@[simp] theorem bi2 {a : Ask} : biF a .list = listD := rfl
@[simp] theorem bi3 {a : Ask} : biF a .len = lenD := rfl
@[simp] theorem bi4 {a : Ask} : biF a .repr = reprD := rfl
@[simp] theorem bi5 {a : Ask} : biF a .all = allD := rfl
@[simp] theorem x_revT {xs : List P} {G : Sto} : revD G (.p (.tup xs)) = some (.p (.tup xs.reverse)) := rfl
theorem range1_ev {o : Orc} {ρ : Ro} {G G' : Sto} {e : mE} {L : Int} (he : ev o e ρ G = .ok (.p (.int L)) G') (ok : okRng L = true) : evI o (.range1 e) ρ G = .ok (rangeI 0 L.toNat) G' := by
  rw [x_range1, he]
  simp only [x_bo, ok, if_true]
/-! what a pure call gives -/
def pureR (r : Res D) (G : Sto) : Res D := match r with
  | .ok d G2 => match freeze G2 d with
    | some x => .ok (.p x) G
    | none => .stuck
  | .exc x _ => .exc x G
  | .stuck => .stuck
theorem x_callP {o : Orc} {ρ : Ro} {G : Sto} {f : Nat} {xs : mEs} : ev o (.call f 0 xs) ρ G = (evs o xs ρ G).bind fun ds G1 => if ds.length = o.ar f ∧ ds.all pureArg = true then pureR (o.fn f ds []) G1 else .stuck := rfl
@[simp] theorem pureR_ok {x : P} {G G2 : Sto} : pureR (.ok (.p x) G2) G = .ok (.p x) G := rfl
@[simp] theorem x_cut {o : Orc} {ρ : Ro} {G : Sto} {a : mE} {lo hi : mO} : ev o (.cut a lo hi) ρ G = (ev o a ρ G).bind fun x G1 => (evO o lo ρ G1).bind fun l G2 => (evO o hi ρ G2).bind fun h G3 => Res.of (cutD G3 l h x) G3 := rfl
@[simp] theorem x_o0 {o : Orc} {ρ : Ro} {G : Sto} : evO o .none ρ G = .ok none G := rfl
@[simp] theorem x_o1 {o : Orc} {ρ : Ro} {G : Sto} {e : mE} : evO o (.some e) ρ G = (ev o e ρ G).bind fun d G1 => match d with
  | .p (.int i) => .ok (some i) G1
  | _ => .stuck := rfl
/-! shown data -/
theorem shown_b {d : PyData} (h1 : PyData.showable d = true) (h2 : d.leavesShort 1921 = true) (h3 : d.weight ≤ 8000) (h4 : d.depth ≤ 64) (h5 : d.hasDict = false) : shownOk d = true := by
  have l := PyData.shown_le 1921 (by decide) d h2
  have : d.shown.length ≤ lim := by
    have e : lim = 16777216 := rfl
    omega
  unfold shownOk
  rw [h1, h5, decide_eq_true this, decide_eq_true h4]
  rfl
theorem rep {x : DL.P} {d : PyData} {G : Sto} (h : toPy x = some d) (ok : shownOk d = true) : reprD G [.p x] = some (.p (.str d.shown)) := by
  unfold reprD pyD
  simp only [h, ok, if_true]
/-! rows of numbers -/
theorem toPys_ints : ∀ ws : List Int, toPys (ws.map P.int) = some (ws.map PyData.int)
  | [] => by simp [toPys]
  | w :: ws => by rw [List.map_cons, toPys, toPys_ints ws, toPy]; rfl
theorem lay_ints : ∀ ws : List Int, PyData.canLayAll0 (ws.map PyData.int) = true
  | [] => by simp [PyData.canLayAll0]
  | w :: ws => by rw [List.map_cons, PyData.canLayAll0, lay_ints ws]; simp [PyData.canLay0]
theorem depth_ints : ∀ ws : List Int, PyData.depthAll (ws.map PyData.int) ≤ 1
  | [] => by simp [PyData.depthAll]
  | w :: ws => by
    have := depth_ints ws
    simp only [List.map_cons, PyData.depthAll, PyData.depth]
    omega
theorem shaped_tup (ws : List Int) : SeqAt.shaped (.tuple (ws.map PyData.int)) = true := by
  have := depth_ints ws
  unfold SeqAt.shaped
  rw [Bool.and_eq_true, decide_eq_true_eq]
  refine ⟨by simp [PyData.canLay0, lay_ints], ?_⟩
  simp only [PyData.depth]; omega
theorem shaped_lst (ws : List Int) : SeqAt.shaped (.list (ws.map PyData.int)) = true := by
  have := depth_ints ws
  unfold SeqAt.shaped
  rw [Bool.and_eq_true, decide_eq_true_eq]
  refine ⟨by simp [PyData.canLay0, lay_ints], ?_⟩
  simp only [PyData.depth]; omega
theorem eqv_ints : ∀ ws vs : List Int, PyData.eqvAll (ws.map PyData.int) (vs.map PyData.int) = decide (ws = vs)
  | [], [] => by simp [PyData.eqvAll]
  | [], _ :: _ => by simp [PyData.eqvAll]
  | _ :: _, [] => by simp [PyData.eqvAll]
  | w :: ws, v :: vs => by
    simp only [List.map_cons, PyData.eqvAll, PyData.eqv, eqv_ints ws vs, List.cons.injEq, Bool.decide_and]
    congr 1
theorem any_ints (i : Int) : ∀ ws : List Int, ((ws.map PyData.int).any fun z => PyData.eqv z (.int i)) = ws.contains i
  | [] => rfl
  | w :: ws => by
    rw [List.map_cons, List.any_cons, any_ints i ws, List.contains_cons]
    simp only [PyData.eqv]
    congr 1
    rw [Bool.beq_comm]
theorem in_tup {ws : List Int} {i : Int} {G : Sto} : cmpA .In G (.p (.int i)) (.p (.tup (ws.map P.int))) = some (.p (.bl (ws.contains i))) := by
  have h2 : toPy (.tup (ws.map P.int)) = some (.tuple (ws.map PyData.int)) := by rw [toPy, toPys_ints]
  have h3 : inD G (.p (.int i)) (.p (.tup (ws.map P.int))) = some (ws.contains i) := by
    unfold inD
    have e : dgetD G (.p (.tup (ws.map P.int))) (.p (.int i)) = none := rfl
    rw [e]
    have e1 : pyD G (.p (.int i)) = some (.int i) := rfl
    have e2 : pyD G (.p (.tup (ws.map P.int))) = some (.tuple (ws.map PyData.int)) := h2
    have s1 : SeqAt.shaped (.int i) = true := rfl
    rw [e1, e2]
    simp only [shaped_tup, s1, and_self, if_true, any_ints]
  show (inD G (.p (.int i)) (.p (.tup (ws.map P.int)))).map _ = _
  rw [h3]; rfl
theorem in_lst {ws : List Int} {i : Int} {G : Sto} : cmpA .In G (.p (.int i)) (.p (.lst (ws.map P.int))) = some (.p (.bl (ws.contains i))) := by
  have h2 : toPy (.lst (ws.map P.int)) = some (.list (ws.map PyData.int)) := by rw [toPy, toPys_ints]
  have h3 : inD G (.p (.int i)) (.p (.lst (ws.map P.int))) = some (ws.contains i) := by
    unfold inD
    have e : dgetD G (.p (.lst (ws.map P.int))) (.p (.int i)) = none := rfl
    rw [e]
    have e1 : pyD G (.p (.int i)) = some (.int i) := rfl
    have e2 : pyD G (.p (.lst (ws.map P.int))) = some (.list (ws.map PyData.int)) := h2
    have s1 : SeqAt.shaped (.int i) = true := rfl
    rw [e1, e2]
    simp only [shaped_lst, s1, and_self, if_true, any_ints]
  show (inD G (.p (.int i)) (.p (.lst (ws.map P.int)))).map _ = _
  rw [h3]; rfl
theorem eq_tups {ws vs : List Int} {G : Sto} : eqD G (.p (.tup (ws.map P.int))) (.p (.tup (vs.map P.int))) = some (decide (ws = vs)) := by
  have h : ∀ ws : List Int, toPy (.tup (ws.map P.int)) = some (.tuple (ws.map PyData.int)) := fun ws => by rw [toPy, toPys_ints]
  unfold eqD
  have e : eqS (.p (.tup (ws.map P.int))) (.p (.tup (vs.map P.int))) = none := rfl
  have e1 : pyD G (.p (.tup (ws.map P.int))) = some (.tuple (ws.map PyData.int)) := h ws
  have e2 : pyD G (.p (.tup (vs.map P.int))) = some (.tuple (vs.map PyData.int)) := h vs
  rw [e, e1, e2]
  simp only [shaped_tup, and_self, if_true, PyData.eqv, eqv_ints]
theorem ne_tups {ws vs : List Int} {G : Sto} : cmpA .NotEq G (.p (.tup (ws.map P.int))) (.p (.tup (vs.map P.int))) = some (.p (.bl (!decide (ws = vs)))) := by
  unfold cmpA cmpD cmpB
  simp only [eq_tups]
theorem eq_tupsA {ws vs : List Int} {G : Sto} : cmpA .Eq G (.p (.tup (ws.map P.int))) (.p (.tup (vs.map P.int))) = some (.p (.bl (decide (ws = vs)))) := by
  unfold cmpA cmpD cmpB
  simp only [eq_tups]
/-- small numbers -/
def Sml (k : Nat) (ws : List Int) : Prop := ∀ w ∈ ws, w.natAbs < 2 ^ k
theorem shI {k : Nat} {w : Int} (h : w.natAbs < 2 ^ k) (h0 : 0 < k) (hk : k ≤ 200) : PyData.showable (.int w) = true ∧ PyData.leavesShort 1921 (.int w) = true ∧ PyData.weight (.int w) ≤ k := by
  have l := log2_lt h h0
  refine ⟨?_, ?_, ?_⟩
  · unfold PyData.showable; exact decide_eq_true (by omega)
  · unfold PyData.leavesShort; exact decide_eq_true (PyProof.Rows.int_text_len_1921 (by omega))
  · unfold PyData.weight; split <;> omega
theorem sh_ints {k : Nat} (h0 : 0 < k) (hk : k ≤ 200) : ∀ ws : List Int, Sml k ws → PyData.showableAll (ws.map PyData.int) = true ∧ PyData.leavesShortAll 1921 (ws.map PyData.int) = true ∧ PyData.weightAll (ws.map PyData.int) ≤ (k + 1) * ws.length ∧ PyData.hasDictAll (ws.map PyData.int) = false
  | [], _ => by simp [PyData.showableAll, PyData.leavesShortAll, PyData.weightAll, PyData.hasDictAll]
  | w :: ws, h => by
    obtain ⟨h1, h2, h3⟩ := shI (h w (by simp)) h0 hk
    obtain ⟨i1, i2, i3, i4⟩ := sh_ints h0 hk ws fun x hx => h x (by simp [hx])
    simp only [List.map_cons, PyData.showableAll, PyData.leavesShortAll, PyData.weightAll, PyData.hasDictAll, h1, h2, i1, i2, i4, PyData.hasDict, List.length_cons, Bool.and_self, Bool.or_self, true_and, and_true]
    rw [Nat.mul_add]
    omega
theorem rep_ints {k : Nat} {ws : List Int} {G : Sto} (h : Sml k ws) (h0 : 0 < k) (hk : k ≤ 200) (hl : (k + 1) * ws.length ≤ 8000) : reprD G [.p (.tup (ws.map P.int))] = some (.p (.str (PyData.tuple (ws.map PyData.int)).shown)) := by
  obtain ⟨h1, h2, h3, h4⟩ := sh_ints h0 hk ws h
  refine rep (by rw [toPy, toPys_ints]) (shown_b ?_ ?_ ?_ ?_ ?_)
  · simpa [PyData.showable] using h1
  · simpa [PyData.leavesShort] using h2
  · simp only [PyData.weight]; omega
  · have := depth_ints ws; simp only [PyData.depth]; omega
  · simpa [PyData.hasDict] using h4
/-- rows of rows of numbers -/
abbrev rr (wss : List (List Int)) : List P := wss.map fun ws => P.tup (ws.map P.int)
abbrev rd (wss : List (List Int)) : List PyData := wss.map fun ws => PyData.tuple (ws.map PyData.int)
theorem toPys_rows : ∀ wss : List (List Int), toPys (rr wss) = some (rd wss)
  | [] => by simp [toPys]
  | w :: ws => by
    have ih := toPys_rows ws
    simp only [rr, rd] at ih ⊢
    rw [List.map_cons, toPys, ih, toPy, toPys_ints]; rfl
theorem sh_rows {k m : Nat} (h0 : 0 < k) (hk : k ≤ 200) : ∀ wss : List (List Int), (∀ ws ∈ wss, Sml k ws ∧ ws.length ≤ m) → PyData.showableAll (rd wss) = true ∧ PyData.leavesShortAll 1921 (rd wss) = true ∧ PyData.weightAll (rd wss) ≤ ((k + 1) * m + 1) * wss.length ∧ PyData.hasDictAll (rd wss) = false ∧ PyData.depthAll (rd wss) ≤ 3
  | [], _ => by simp [PyData.showableAll, PyData.leavesShortAll, PyData.weightAll, PyData.hasDictAll, PyData.depthAll]
  | w :: ws, h => by
    obtain ⟨h1, hl⟩ := h w (by simp)
    obtain ⟨h1, h2, h3, h4⟩ := sh_ints h0 hk w h1
    have h5 := depth_ints w
    have h6 : (k + 1) * w.length ≤ (k + 1) * m := Nat.mul_le_mul_left _ hl
    obtain ⟨i1, i2, i3, i4, i5⟩ := sh_rows h0 hk ws fun x hx => h x (by simp [hx])
    simp only [rd] at i1 i2 i3 i4 i5 ⊢
    simp only [List.map_cons, PyData.showableAll, PyData.leavesShortAll, PyData.weightAll, PyData.hasDictAll, PyData.depthAll, PyData.showable, PyData.leavesShort, PyData.weight, PyData.hasDict, PyData.depth, h1, h2, h4, i1, i2, i4, List.length_cons, Bool.and_self, Bool.or_self, true_and, and_true]
    rw [Nat.mul_add]
    omega
theorem rep_rows {k m : Nat} {wss : List (List Int)} {G : Sto} (h : ∀ ws ∈ wss, Sml k ws ∧ ws.length ≤ m) (h0 : 0 < k) (hk : k ≤ 200) (hl : ((k + 1) * m + 1) * wss.length ≤ 8000) : reprD G [.p (.tup (rr wss))] = some (.p (.str (PyData.tuple (rd wss)).shown)) := by
  obtain ⟨h1, h2, h3, h4, h5⟩ := sh_rows (m := m) h0 hk wss h
  refine rep (by rw [toPy, toPys_rows]) (shown_b ?_ ?_ ?_ ?_ ?_)
  · simpa [PyData.showable] using h1
  · simpa [PyData.leavesShort] using h2
  · simp only [PyData.weight]; omega
  · simp only [PyData.depth]; omega
  · simpa [PyData.hasDict] using h4
end DL

set_option Elab.async false
set_option linter.all false
set_option maxRecDepth 100000
set_option maxHeartbeats 0
namespace K12
open PySem DL
def top (i : Nat) : Stmt := PySem.Challenge.pw_freesigns_k12_words_and_turned.main.body.getD i (.Pass ⟨0, 0, 0, 0⟩)
def mth (i j : Nat) : Stmt := match top i with
  | .ClassDef _ _ _ b _ _ _ _ _ _ _ => b.getD j (.Pass ⟨0, 0, 0, 0⟩)
  | x => x
def c0 : Fnc := { name := "is_whole", N := ["value"], ar := 1, body := (.cons (.ret (.andV (.cons (.bi .isi (.cons (.var 0) (.cons (.typ "int") .nil))) (.cons (.notV (.bi .isi (.cons (.var 0) (.cons (.typ "bool") .nil)))) .nil)))) .nil) }
def c1 : Fnc := { name := "in_tuples", N := ["value", "item"], ar := 1, body := (.cons (.ife (.not (.tru (.bi .isi (.cons (.var 0) (.cons (.tup (.cons (.typ "tuple") (.cons (.typ "list") .nil))) .nil))))) (.cons (.ret (.var 0)) .nil) .nil) (.cons (.ret (.bi .tuple (.cons (.comp (.v 1) [("item", 1)] (.gen (.var 0)) .yes (.call 1 0 (.cons (.var 1) .nil))) .nil))) .nil)) }
def c2 : Fnc := { name := "need_between", N := ["what", "number", "low", "high"], ar := 4, body := (.cons (.ife (.not (.tru (.call 0 0 (.cons (.var 1) .nil)))) (.cons (.raise 0 (.cons (.var 0) (.cons (.var 1) .nil))) .nil) .nil) (.cons (.ife (.or (.cons (.and (.cons (.cmp .IsNot (.var 2) (.lit .non)) (.cons (.cmp .Lt (.var 1) (.var 2)) .nil))) (.cons (.and (.cons (.cmp .IsNot (.var 3) (.lit .non)) (.cons (.cmp .Gt (.var 1) (.var 3)) .nil))) .nil))) (.cons (.raise 0 (.cons (.var 0) (.cons (.var 1) .nil))) .nil) .nil) .nil)) }
def c3 : Fnc := { name := "copied", N := ["value"], ar := 1, body := (.cons (.ret (.ife (.tru (.bi .isi (.cons (.var 0) (.cons (.typ "list") .nil)))) (.bi .tuple (.cons (.var 0) .nil)) (.var 0))) .nil) }
def c4 : Fnc := { name := "model_key", N := ["model"], ar := 1, body := (.cons (.ret (.tup (.cons (.fld (.var 0) "letters") (.cons (.fld (.var 0) "polys") (.cons (.fld (.var 0) "tables") (.cons (.fld (.var 0) "asks") .nil)))))) .nil) }
def c5 : Fnc := { name := "need_model", N := ["model"], ar := 1, body := (.cons (.ife (.not (.tru (.bi .isi (.cons (.var 0) (.cons (.cls 6) .nil))))) (.cons (.raise 4 (.cons (.lit (.str "model")) .nil)) .nil) .nil) .nil) }
def c6 : Fnc := { name := "signs_of", N := ["model", "out", "k", "letter"], ar := 1, body := (.cons (.exp (.call 5 0 (.cons (.var 0) .nil))) (.cons (.asg (.v 1) (.lst false .nil)) (.cons (.for_ (.t [(.v 2), (.v 3)]) (.enum (.fld (.var 0) "letters")) (.cons (.asg (.v 1) (.bin .Add (.var 1) (.ife (.tru (.ix (.var 3) (.lit (.int 1)))) (.lst false (.cons (.bin .Mult (.lit (.int 2)) (.var 2)) .nil)) (.lst false (.cons (.bin .Mult (.lit (.int 2)) (.var 2)) (.cons (.bin .Add (.bin .Mult (.lit (.int 2)) (.var 2)) (.lit (.int 1))) .nil)))))) .nil)) (.cons (.ret (.bi .tuple (.cons (.var 1) .nil))) .nil)))) }
def c7 : Fnc := { name := "sign_back", N := ["sign", "letters"], ar := 2, body := (.cons (.ife (.tru (.ix (.ix (.var 1) (.bin .FloorDiv (.var 0) (.lit (.int 2)))) (.lit (.int 1)))) (.cons (.ret (.var 0)) .nil) .nil) (.cons (.ret (.ife (.cmp .Eq (.bin .Mod (.var 0) (.lit (.int 2))) (.lit (.int 0))) (.bin .Add (.var 0) (.lit (.int 1))) (.bin .Sub (.var 0) (.lit (.int 1))))) .nil)) }
def c8 : Fnc := { name := "word_back", N := ["word", "letters", "sign"], ar := 2, body := (.cons (.ret (.bi .tuple (.cons (.comp (.v 2) [("sign", 2)] (.gen (.rev (.var 0))) .yes (.call 7 0 (.cons (.var 2) (.cons (.var 1) .nil)))) .nil))) .nil) }
def c9 : Fnc := { name := "is_word_by", N := ["signs", "value", "item"], ar := 2, body := (.cons (.ret (.andV (.cons (.bi .isi (.cons (.var 1) (.cons (.typ "tuple") .nil))) (.cons (.bi .all (.cons (.comp (.v 2) [("item", 2)] (.gen (.var 1)) .yes (.andV (.cons (.call 0 0 (.cons (.var 2) .nil)) (.cons (.cmp .In (.var 2) (.var 0)) .nil)))) .nil)) .nil)))) .nil) }
def c10 : Fnc := { name := "word_passed", N := ["model", "word", "made"], ar := 2, body := (.cons (.asg (.v 2) (.call 1 0 (.cons (.var 1) .nil))) (.cons (.ife (.not (.tru (.call 9 0 (.cons (.call 6 0 (.cons (.var 0) .nil)) (.cons (.var 2) .nil))))) (.cons (.raise 2 (.cons (.var 1) .nil)) .nil) .nil) (.cons (.ret (.var 2)) .nil))) }
def c11 : Fnc := { name := "is_word", N := ["model", "value"], ar := 2, body := (.cons (.exp (.call 5 0 (.cons (.var 0) .nil))) (.cons (.ret (.call 9 0 (.cons (.call 6 0 (.cons (.var 0) .nil)) (.cons (.var 1) .nil)))) .nil)) }
def c12 : Fnc := { name := "turned_word", N := ["model", "word"], ar := 2, body := (.cons (.exp (.call 5 0 (.cons (.var 0) .nil))) (.cons (.ret (.call 8 0 (.cons (.call 10 0 (.cons (.var 0) (.cons (.var 1) .nil))) (.cons (.fld (.var 0) "letters") .nil)))) .nil)) }
def c13 : Fnc := { name := "all_words", N := ["model", "length", "out", "lap", "word", "sign"], ar := 2, body := (.cons (.asg (.v 2) (.lst false (.cons (.tup .nil) .nil))) (.cons (.for_ (.v 3) (.range1 (.var 1)) (.cons (.asg (.v 2) (.comp2 (.v 4) [("word", 4), ("sign", 5)] (.gen (.var 2)) .yes (.v 5) [5] (.gen (.call 6 0 (.cons (.var 0) .nil))) .yes (.bin .Add (.var 4) (.tup (.cons (.var 5) .nil))))) .nil)) (.cons (.ret (.bi .tuple (.cons (.var 2) .nil))) .nil))) }
def c14 : Fnc := { name := "words_of", N := ["model", "length"], ar := 2, body := (.cons (.exp (.call 5 0 (.cons (.var 0) .nil))) (.cons (.exp (.call 2 0 (.cons (.lit (.str "length")) (.cons (.var 1) (.cons (.lit (.int 0)) (.cons (.con "MOST_LENGTH" (.int 3)) .nil)))))) (.cons (.ret (.call 13 0 (.cons (.var 0) (.cons (.var 1) .nil)))) .nil))) }
def c15 : Fnc := { name := "ends_by", N := ["word", "many"], ar := 1, body := (.cons (.ret (.bi .tuple (.cons (.comp (.v 1) [("many", 1)] (.range1 (.bin .Add (.bi .len (.cons (.var 0) .nil)) (.lit (.int 1)))) .yes (.cut (.var 0) (.some (.bin .Sub (.bi .len (.cons (.var 0) .nil)) (.var 1))) .none)) .nil))) .nil) }
def c16 : Fnc := { name := "ends_of", N := ["model", "word"], ar := 2, body := (.cons (.exp (.call 5 0 (.cons (.var 0) .nil))) (.cons (.ret (.call 15 0 (.cons (.call 10 0 (.cons (.var 0) (.cons (.var 1) .nil))) .nil))) .nil)) }
def c17 : Fnc := { name := "_law_pen", N := ["script", "fold", "cell"], ar := 1, body := (.cons (.asg (.v 1) (.lit (.int 0))) (.cons (.for_ (.v 2) (.gen (.var 0)) (.cons (.asg (.v 1) (.bin .Mod (.bi .int (.cons (.bin .Add (.bin .Mult (.var 1) (.lit (.int 197))) (.var 2)) .nil)) (.lit (.int 999998801)))) .nil)) (.cons (.ret (.dict (.cons "cells" (.bi .list (.cons (.var 0) .nil)) (.cons "at" (.lit (.int 0)) (.cons "digits" (.lit (.int 0)) (.cons "count" (.lit (.int 0)) (.cons "fold" (.var 1) .nil))))))) .nil))) }
def c18 : Fnc := { name := "_law_draw", N := ["pen", "many", "cell", "digit", "blend"], ar := 2, body := (.cons (.put (.var 0) (.lit (.str "count")) (.bin .Add (.ix (.var 0) (.lit (.str "count"))) (.lit (.int 1)))) (.cons (.ife (.and (.cons (.cmp .Eq (.ix (.var 0) (.lit (.str "digits"))) (.lit (.int 0))) (.cons (.cmp .Lt (.ix (.var 0) (.lit (.str "at"))) (.bi .len (.cons (.ix (.var 0) (.lit (.str "cells"))) .nil))) .nil))) (.cons (.asg (.v 2) (.ix (.ix (.var 0) (.lit (.str "cells"))) (.ix (.var 0) (.lit (.str "at"))))) (.cons (.put (.var 0) (.lit (.str "at")) (.bin .Add (.ix (.var 0) (.lit (.str "at"))) (.lit (.int 1)))) (.cons (.ife (.cmp .GtE (.var 2) (.bin .Pow (.lit (.int 10)) (.lit (.int 18)))) (.cons (.put (.var 0) (.lit (.str "digits")) (.bin .Sub (.var 2) (.bin .Pow (.lit (.int 10)) (.lit (.int 18))))) .nil) (.cons (.put (.var 0) (.lit (.str "fold")) (.bin .Mod (.bi .int (.cons (.bin .Add (.bin .Mult (.ix (.var 0) (.lit (.str "fold"))) (.lit (.int 40013))) (.var 2)) .nil)) (.lit (.int 2147482951)))) .nil)) .nil))) .nil) (.cons (.ife (.cmp .Gt (.ix (.var 0) (.lit (.str "digits"))) (.lit (.int 0))) (.cons (.asg (.v 3) (.bin .Mod (.bi .int (.cons (.ix (.var 0) (.lit (.str "digits"))) .nil)) (.var 1))) (.cons (.put (.var 0) (.lit (.str "digits")) (.bin .FloorDiv (.ix (.var 0) (.lit (.str "digits"))) (.var 1))) (.cons (.ret (.var 3)) .nil))) .nil) (.cons (.asg (.v 4) (.bin .Add (.bin .Add (.ix (.var 0) (.lit (.str "fold"))) (.bin .Mult (.ix (.var 0) (.lit (.str "count"))) (.lit (.int 7019)))) (.lit (.int 223)))) (.cons (.ret (.bin .Mod (.bin .FloorDiv (.bi .int (.cons (.bin .Mod (.bin .Pow (.var 4) (.lit (.int 59))) (.lit (.int 2305843009213693951))) .nil)) (.lit (.int 2048))) (.var 1))) .nil))))) }
def c19 : Fnc := { name := "_law_pick", N := ["pen", "some"], ar := 2, body := (.cons (.ret (.ix (.var 1) (.call 18 1 (.cons (.var 0) (.cons (.bi .len (.cons (.var 1) .nil)) .nil))))) .nil) }
def c20 : Fnc := { name := "_law_is_int", N := ["thing"], ar := 1, body := (.cons (.ret (.andV (.cons (.bi .isi (.cons (.var 0) (.cons (.typ "int") .nil))) (.cons (.notV (.bi .isi (.cons (.var 0) (.cons (.typ "bool") .nil)))) .nil)))) .nil) }
def c21 : Fnc := { name := "_law_passed", N := ["pen", "row"], ar := 2, body := (.cons (.ret (.call 19 1 (.cons (.var 0) (.cons (.lst false (.cons (.bi .tuple (.cons (.var 1) .nil)) (.cons (.bi .list (.cons (.var 1) .nil)) .nil))) .nil)))) .nil) }
def c22 : Fnc := { name := "_law_fault", N := ["action", "error"], ar := 1, body := (.cons (.fault 0 1 [(1, "text", ["line", "column"]), (0, "number", ["what", "number"]), (2, "row", ["row"]), (3, "table", ["table"]), (5, "many", ["what", "many", "limit"]), (4, "unlike", ["what"])]) .nil) }
def c23 : Fnc := { name := "_law_are_due", N := ["tries", "action", "due"], ar := 1, body := (.cons (.ret (.bi .all (.cons (.comp (.t [(.v 1), (.v 2)]) [("action", 1), ("due", 2)] (.gen (.var 0)) .yes (.cmp .Eq (.bi .repr (.cons (.call 22 1 (.cons (.var 1) .nil)) .nil)) (.bi .repr (.cons (.var 2) .nil)))) .nil))) .nil) }
def c24 : Fnc := { name := "_law_back", N := ["letters", "sign"], ar := 2, body := (.cons (.ife (.tru (.ix (.ix (.var 0) (.bin .FloorDiv (.var 1) (.lit (.int 2)))) (.lit (.int 1)))) (.cons (.ret (.var 1)) .nil) .nil) (.cons (.ret (.ife (.cmp .Eq (.bin .Mod (.bi .int (.cons (.var 1) .nil)) (.lit (.int 2))) (.lit (.int 0))) (.bin .Add (.var 1) (.lit (.int 1))) (.bin .Sub (.var 1) (.lit (.int 1))))) .nil)) }
def c25 : Fnc := { name := "_law_word_back", N := ["letters", "word", "sign"], ar := 2, body := (.cons (.ret (.bi .tuple (.cons (.comp (.v 2) [("sign", 2)] (.gen (.rev (.var 1))) .yes (.call 24 0 (.cons (.var 0) (.cons (.var 2) .nil)))) .nil))) .nil) }
def c26 : Fnc := { name := "_law_signs", N := ["letters", "found", "k", "name", "symmetric"], ar := 1, body := (.cons (.asg (.v 1) (.lst false .nil)) (.cons (.for_ (.t [(.v 2), (.t [(.v 3), (.v 4)])]) (.enum (.var 0)) (.cons (.asg (.v 1) (.bin .Add (.var 1) (.ife (.tru (.var 4)) (.lst false (.cons (.bin .Mult (.lit (.int 2)) (.var 2)) .nil)) (.lst false (.cons (.bin .Mult (.lit (.int 2)) (.var 2)) (.cons (.bin .Add (.bin .Mult (.lit (.int 2)) (.var 2)) (.lit (.int 1))) .nil)))))) .nil)) (.cons (.ret (.var 1)) .nil))) }
def c27 : Fnc := { name := "_law_words", N := ["signs", "length", "found", "lap", "wider", "word", "sign"], ar := 2, body := (.cons (.asg (.v 2) (.lst false (.cons (.tup .nil) .nil))) (.cons (.for_ (.v 3) (.range1 (.var 1)) (.cons (.asg (.v 4) (.lst false .nil)) (.cons (.for_ (.v 5) (.gen (.var 2)) (.cons (.asg (.v 4) (.bin .Add (.var 4) (.comp (.v 6) [("sign", 6)] (.gen (.var 0)) .yes (.bin .Add (.var 5) (.tup (.cons (.var 6) .nil)))))) .nil)) (.cons (.asg (.v 2) (.var 4)) .nil)))) (.cons (.ret (.var 2)) .nil))) }
def c28 : Fnc := { name := "_law_letters", N := ["pen", "rows", "k", "symmetric"], ar := 1, body := (.cons (.asg (.v 1) (.lst false (.cons (.lst false (.cons (.lit (.bl true)) .nil)) (.cons (.lst false (.cons (.lit (.bl true)) (.cons (.lit (.bl true)) .nil))) (.cons (.lst false (.cons (.lit (.bl false)) .nil)) (.cons (.lst false (.cons (.lit (.bl false)) .nil)) (.cons (.lst false (.cons (.lit (.bl false)) (.cons (.lit (.bl false)) .nil))) (.cons (.lst false (.cons (.lit (.bl false)) (.cons (.lit (.bl false)) .nil))) (.cons (.lst false (.cons (.lit (.bl true)) (.cons (.lit (.bl false)) .nil))) (.cons (.lst false (.cons (.lit (.bl false)) (.cons (.lit (.bl true)) .nil))) (.cons (.lst false (.cons (.lit (.bl true)) (.cons (.lit (.bl true)) (.cons (.lit (.bl false)) .nil)))) .nil))))))))))) (.cons (.ret (.comp (.t [(.v 2), (.v 3)]) [("k", 2), ("symmetric", 3)] (.enum (.call 19 1 (.cons (.var 0) (.cons (.var 1) .nil)))) .yes (.tup (.cons (.bin .Add (.ix (.lit (.str "abc")) (.var 2)) (.bi .str (.cons (.var 2) .nil))) (.cons (.var 3) .nil))))) .nil)) }
def c29 : Fnc := { name := "_law_some_word", N := ["pen", "signs", "length", "k"], ar := 3, body := (.cons (.ret (.bi .tuple (.cons (.comp (.v 3) [("k", 3)] (.range1 (.var 2)) .yes (.call 19 1 (.cons (.var 0) (.cons (.var 1) .nil)))) .nil))) .nil) }
def c30 : Fnc := { name := "_law_says", N := ["told", "due"], ar := 2, body := (.cons (.ret (.andV (.cons (.bi .isi (.cons (.var 0) (.cons (.typ "bool") .nil))) (.cons (.cmp .Eq (.var 0) (.var 1)) .nil)))) .nil) }
def c31 : Fnc := { name := "_law_of", N := ["letters", "polys", "k", "poly"], ar := 2, body := (.cons (.ret (.new 6 37 (.cons (.bi .tuple (.cons (.var 0) .nil)) (.cons (.bi .tuple (.cons (.comp (.t [(.v 2), (.v 3)]) [("k", 2), ("poly", 3)] (.enum (.var 1)) .yes (.tup (.cons (.bin .Add (.lit (.str "p")) (.bi .str (.cons (.var 2) .nil))) (.cons (.var 3) .nil)))) .nil)) (.cons (.tup .nil) (.cons (.tup .nil) .nil)))))) .nil) }
def c32 : Fnc := { name := "_law_is_word", N := ["letters", "thing", "signs", "item"], ar := 2, body := (.cons (.asg (.v 2) (.call 26 0 (.cons (.var 0) .nil))) (.cons (.ret (.andV (.cons (.bi .isi (.cons (.var 1) (.cons (.typ "tuple") .nil))) (.cons (.bi .all (.cons (.comp (.v 3) [("item", 3)] (.gen (.var 1)) .yes (.andV (.cons (.call 20 0 (.cons (.var 3) .nil)) (.cons (.cmp .In (.var 3) (.var 2)) .nil)))) .nil)) .nil)))) .nil)) }
def c33 : Fnc := { name := "_law_bad_word", N := ["pen", "letters"], ar := 2, body := (.cons (.ret (.call 19 1 (.cons (.var 0) (.cons (.lst false (.cons (.lit .non) (.cons (.lit (.int 5)) (.cons (.lit (.str "0")) (.cons (.tup (.cons (.bin .Mult (.lit (.int 2)) (.bi .len (.cons (.var 1) .nil))) .nil)) (.cons (.tup (.cons (.neg (.lit (.int 1))) .nil)) (.cons (.tup (.cons (.lit (.bl true)) .nil)) (.cons (.tup (.cons (.lit (.str "0")) .nil)) (.cons (.tup (.cons (.tup (.cons (.lit (.int 0)) .nil)) .nil)) (.cons (.tup (.cons (.lit .non) .nil)) (.cons (.lst false (.cons (.lit (.int 0)) (.cons (.lit (.int 99)) .nil))) .nil))))))))))) .nil)))) .nil) }
def c34 : Fnc := { name := "_law_spoilt_item", N := ["pen", "thing"], ar := 2, body := (.cons (.ife (.tru (.bi .isi (.cons (.var 1) (.cons (.typ "tuple") .nil)))) (.cons (.ret (.call 19 1 (.cons (.var 0) (.cons (.lst false (.cons (.cut (.var 1) .none (.some (.neg (.lit (.int 1))))) (.cons (.bin .Add (.var 1) (.cut (.var 1) .none (.some (.lit (.int 1))))) (.cons (.bin .Add (.var 1) (.tup (.cons (.lit (.int 0)) .nil))) (.cons (.bi .list (.cons (.var 1) .nil)) (.cons (.lit .non) (.cons (.rev (.var 1)) (.cons (.tup (.cons (.var 1) .nil)) .nil)))))))) .nil)))) .nil) .nil) (.cons (.ife (.not (.tru (.call 20 0 (.cons (.var 1) .nil)))) (.cons (.ret (.call 19 1 (.cons (.var 0) (.cons (.lst false (.cons (.lit (.int 5)) (.cons (.tup .nil) (.cons (.lit (.str "x")) (.cons (.lit .non) (.cons (.lit (.bl true)) .nil)))))) .nil)))) .nil) .nil) (.cons (.ret (.call 19 1 (.cons (.var 0) (.cons (.lst false (.cons (.bin .Add (.var 1) (.lit (.int 1))) (.cons (.bin .Sub (.var 1) (.lit (.int 1))) (.cons (.neg (.var 1)) (.cons (.lit .non) (.cons (.tup (.cons (.var 1) (.cons (.lit (.int 1)) .nil))) (.cons (.lit (.bl true)) (.cons (.bin .Add (.bin .Mult (.lit (.int 2)) (.var 1)) (.lit (.int 3))) .nil)))))))) .nil)))) .nil))) }
def c35 : Fnc := { name := "_law_spoilt", N := ["pen", "thing", "path", "here", "lap"], ar := 2, body := (.cons (.par 2 3 (.lst true .nil) (.var 1)) (.cons (.for_ (.v 4) (.range1 (.bin .Add (.lit (.int 1)) (.call 18 1 (.cons (.var 0) (.cons (.lit (.int 6)) .nil))))) (.cons (.ife (.or (.cons (.not (.tru (.bi .isi (.cons (.var 3) (.cons (.typ "tuple") .nil))))) (.cons (.cmp .Eq (.var 3) (.tup .nil)) .nil))) (.cons .brk .nil) .nil) (.cons (.exp (.app (.var 2) (.call 18 1 (.cons (.var 0) (.cons (.bi .len (.cons (.var 3) .nil)) .nil))))) (.cons (.asg (.v 3) (.ix (.var 3) (.ix (.var 2) (.neg (.lit (.int 1)))))) .nil)))) (.cons (.ret (.call 36 1 (.cons (.var 1) (.cons (.var 2) (.cons (.call 34 1 (.cons (.var 0) (.cons (.var 3) .nil))) .nil))))) .nil))) }
def c36 : Fnc := { name := "_law_put", N := ["thing", "path", "item", "k"], ar := 3, body := (.cons (.ife (.cmp .Eq (.var 1) (.lst false .nil)) (.cons (.ret (.var 2)) .nil) .nil) (.cons (.asg (.v 3) (.ix (.var 1) (.lit (.int 0)))) (.cons (.ret (.bin .Add (.bin .Add (.cut (.var 0) .none (.some (.var 3))) (.tup (.cons (.call 36 1 (.cons (.ix (.var 0) (.var 3)) (.cons (.cut (.var 1) (.some (.lit (.int 1))) .none) (.cons (.var 2) .nil)))) .nil))) (.cut (.var 0) (.some (.bin .Add (.var 3) (.lit (.int 1)))) .none))) .nil))) }
def cl : Fnc := { name := "law", N := ["script", "pen", "lap", "letters", "model", "signs", "word", "more", "handed", "k", "long", "values", "value", "odd", "bad", "many", "tries"], ar := 1, body := (.cons (.asg (.v 1) (.call 17 1 (.cons (.var 0) .nil))) (.cons (.for_ (.v 2) (.range1 (.lit (.int 3))) (.cons (.asg (.v 3) (.call 28 1 (.cons (.var 1) .nil))) (.cons (.asg (.t [(.v 4), (.v 5)]) (.tup (.cons (.call 31 0 (.cons (.var 3) (.cons (.lst false (.cons (.tup .nil) .nil)) .nil))) (.cons (.call 26 0 (.cons (.var 3) .nil)) .nil)))) (.cons (.asg (.t [(.v 6), (.v 7)]) (.tup (.cons (.call 29 1 (.cons (.var 1) (.cons (.var 5) (.cons (.call 18 1 (.cons (.var 1) (.cons (.lit (.int 6)) .nil))) .nil)))) (.cons (.call 29 1 (.cons (.var 1) (.cons (.var 5) (.cons (.call 18 1 (.cons (.var 1) (.cons (.lit (.int 4)) .nil))) .nil)))) .nil)))) (.cons (.asg (.v 8) (.call 21 1 (.cons (.var 1) (.cons (.var 6) .nil)))) (.cons (.ife (.or (.cons (.cmp .NotEq (.bi .repr (.cons (.call 12 0 (.cons (.var 4) (.cons (.var 8) .nil))) .nil)) (.bi .repr (.cons (.call 25 0 (.cons (.var 3) (.cons (.var 6) .nil))) .nil))) (.cons (.cmp .NotEq (.call 12 0 (.cons (.var 4) (.cons (.call 12 0 (.cons (.var 4) (.cons (.var 6) .nil))) .nil))) (.var 6)) .nil))) (.cons (.ret (.lit (.bl false))) .nil) .nil) (.cons (.ife (.cmp .NotEq (.call 12 0 (.cons (.var 4) (.cons (.bin .Add (.var 6) (.var 7)) .nil))) (.bin .Add (.call 12 0 (.cons (.var 4) (.cons (.var 7) .nil))) (.call 12 0 (.cons (.var 4) (.cons (.var 6) .nil))))) (.cons (.ret (.lit (.bl false))) .nil) .nil) (.cons (.ife (.cmp .NotEq (.bi .repr (.cons (.call 16 0 (.cons (.var 4) (.cons (.var 8) .nil))) .nil)) (.bi .repr (.cons (.bi .tuple (.cons (.comp (.v 9) [("k", 9)] (.down (.bi .len (.cons (.var 6) .nil)) (.neg (.lit (.int 1))) (.neg (.lit (.int 1)))) .yes (.cut (.var 6) (.some (.var 9)) .none)) .nil)) .nil))) (.cons (.ret (.lit (.bl false))) .nil) .nil) (.cons (.asg (.v 10) (.call 18 1 (.cons (.var 1) (.cons (.lit (.int 4)) .nil)))) (.cons (.ife (.cmp .NotEq (.bi .repr (.cons (.call 14 0 (.cons (.var 4) (.cons (.var 10) .nil))) .nil)) (.bi .repr (.cons (.bi .tuple (.cons (.call 27 0 (.cons (.var 5) (.cons (.var 10) .nil))) .nil)) .nil))) (.cons (.ret (.lit (.bl false))) .nil) .nil) (.cons (.asg (.v 11) (.lst false (.cons (.var 6) (.cons (.bi .list (.cons (.var 6) .nil)) (.cons (.bin .Add (.var 6) (.tup (.cons (.lit (.int 1)) .nil))) (.cons (.bin .Add (.var 6) (.tup (.cons (.bin .Mult (.lit (.int 2)) (.bi .len (.cons (.var 3) .nil))) .nil))) (.cons (.call 35 1 (.cons (.var 1) (.cons (.var 6) .nil))) (.cons (.call 35 1 (.cons (.var 1) (.cons (.var 7) .nil))) (.cons (.lit .non) (.cons (.lit (.int 5)) (.cons (.lit (.str "0")) (.cons (.tup (.cons (.lit (.int 0)) (.cons (.lit (.bl true)) .nil))) (.cons (.tup (.cons (.neg (.lit (.int 1))) .nil)) .nil))))))))))))) (.cons (.ife (.not (.tru (.bi .all (.cons (.comp (.v 12) [("value", 12)] (.gen (.var 11)) .yes (.call 30 0 (.cons (.call 11 0 (.cons (.var 4) (.cons (.var 12) .nil))) (.cons (.call 32 0 (.cons (.var 3) (.cons (.var 12) .nil))) .nil)))) .nil)))) (.cons (.ret (.lit (.bl false))) .nil) .nil) .nil)))))))))))) (.cons (.asg (.t [(.v 13), (.v 14)]) (.tup (.cons (.call 19 1 (.cons (.var 1) (.cons (.lst false (.cons (.lit .non) (.cons (.lit (.int 5)) (.cons (.var 3) .nil)))) .nil))) (.cons (.call 33 1 (.cons (.var 1) (.cons (.var 3) .nil))) .nil)))) (.cons (.asg (.v 15) (.call 19 1 (.cons (.var 1) (.cons (.lst false (.cons (.lit .non) (.cons (.neg (.lit (.int 1))) (.cons (.lit (.int 4)) (.cons (.lit (.bl true)) (.cons (.lit (.str "1")) (.cons (.tup (.cons (.lit (.int 1)) (.cons (.lit (.int 1)) .nil))) .nil))))))) .nil)))) (.cons (.frz [4, 13, 14] (.asg (.v 16) (.lst false (.cons (.tup (.cons (.lam 0 [13, 14]) (.cons (.tup (.cons (.lit (.str "unlike")) (.cons (.lit (.str "model")) .nil))) .nil))) (.cons (.tup (.cons (.lam 1 [4, 14]) (.cons (.tup (.cons (.lit (.str "row")) (.cons (.var 14) .nil))) .nil))) .nil))))) (.cons (.frz [15] (.asg (.v 16) (.bin .Add (.var 16) (.lst false (.cons (.tup (.cons (.lam 2 [13, 15]) (.cons (.tup (.cons (.lit (.str "unlike")) (.cons (.lit (.str "model")) .nil))) .nil))) (.cons (.tup (.cons (.lam 3 [4, 15]) (.cons (.tup (.cons (.lit (.str "number")) (.cons (.lit (.str "length")) (.cons (.var 15) .nil)))) .nil))) .nil)))))) (.cons (.ret (.call 23 2 (.cons (.bin .Add (.var 16) (.lst false (.cons (.tup (.cons (.lam 4 [4, 14]) (.cons (.tup (.cons (.lit (.str "row")) (.cons (.var 14) .nil))) .nil))) (.cons (.tup (.cons (.lam 5 [13, 14]) (.cons (.tup (.cons (.lit (.str "unlike")) (.cons (.lit (.str "model")) .nil))) .nil))) .nil)))) .nil))) .nil))))))) }
def l0 : mE := (.call 12 0 (.cons (.var 0) (.cons (.var 1) .nil)))
def l1 : mE := (.call 12 0 (.cons (.var 0) (.cons (.var 1) .nil)))
def l2 : mE := (.call 14 0 (.cons (.var 0) (.cons (.var 1) .nil)))
def l3 : mE := (.call 14 0 (.cons (.var 0) (.cons (.var 1) .nil)))
def l4 : mE := (.call 16 0 (.cons (.var 0) (.cons (.var 1) .nil)))
def l5 : mE := (.call 11 0 (.cons (.var 0) (.cons (.var 1) .nil)))
def r0 : Fnc := { name := "__init__", N := ["self", "letters", "polys", "tables", "asks"], ar := 5, body := (.cons (.setf (.var 0) "letters" (.call 3 0 (.cons (.var 1) .nil))) (.cons (.setf (.var 0) "polys" (.call 3 0 (.cons (.var 2) .nil))) (.cons (.setf (.var 0) "tables" (.call 3 0 (.cons (.var 3) .nil))) (.cons (.setf (.var 0) "asks" (.call 3 0 (.cons (.var 4) .nil))) .nil)))) }
def S : Src := { base := "FreeError", fns := [(c0, top 9), (c1, top 10), (c2, top 11), (c3, top 12), (c4, top 15), (c5, top 16), (c6, top 17), (c7, top 19), (c8, top 20), (c9, top 22), (c10, top 23), (c11, top 26), (c12, top 27), (c13, top 28), (c14, top 29), (c15, top 30), (c16, top 31), (c17, top 33), (c18, top 34), (c19, top 35), (c20, top 36), (c21, top 37), (c22, top 38), (c23, top 39), (c24, top 40), (c25, top 41), (c26, top 42), (c27, top 43), (c28, top 44), (c29, top 45), (c30, top 46), (c31, top 47), (c32, top 48), (c33, top 49), (c34, top 50), (c35, top 51), (c36, top 52)], lams := [l0, l1, l2, l3, l4, l5], errs := [{ name := "BadNumber", fs := ["what", "number"], st := mth 2 0 }, { name := "BadText", fs := ["line", "column"], st := mth 3 0 }, { name := "BadRow", fs := ["row"], st := mth 4 0 }, { name := "BadTable", fs := ["table"], st := mth 5 0 }, { name := "Unlike", fs := ["what"], st := mth 6 0 }, { name := "TooMany", fs := ["what", "many", "limit"], st := mth 7 0 }], recs := [{ name := "Model", fs := ["letters", "polys", "tables", "asks"], ini := r0, st := mth 14 0 }], ask := [(.o 6, .o 6, true), (.o 6, .b "int", false), (.b "int", .o 6, false), (.o 6, .b "bool", false), (.b "bool", .o 6, false), (.o 6, .b "tuple", false), (.b "tuple", .o 6, false), (.o 6, .b "list", false), (.b "list", .o 6, false), (.o 6, .b "str", false), (.b "str", .o 6, false), (.o 6, .b "dict", false), (.b "dict", .o 6, false), (.b "NoneType", .o 6, false)], exm := [(0, 0, true), (0, 1, false), (0, 2, false), (0, 3, false), (0, 4, false), (0, 5, false), (1, 0, false), (1, 1, true), (1, 2, false), (1, 3, false), (1, 4, false), (1, 5, false), (2, 0, false), (2, 1, false), (2, 2, true), (2, 3, false), (2, 4, false), (2, 5, false), (3, 0, false), (3, 1, false), (3, 2, false), (3, 3, true), (3, 4, false), (3, 5, false), (4, 0, false), (4, 1, false), (4, 2, false), (4, 3, false), (4, 4, true), (4, 5, false), (5, 0, false), (5, 1, false), (5, 2, false), (5, 3, false), (5, 4, false), (5, 5, true)], con := [("MOST_LENGTH", (.int 3))], bn := ["all", "bool", "enumerate", "int", "isinstance", "len", "list", "range", "repr", "str", "tuple"], gcd := false, law := (cl, top 53) }
def lawAt : Nat := 53
def loose0 : List Str := ["__name__", "FreeError", "BadNumber", "BadText", "BadRow", "BadTable", "Unlike", "TooMany", "is_whole", "in_tuples", "need_between", "copied", "Model", "model_key", "need_model", "signs_of", "sign_back", "word_back", "is_word_by", "word_passed", "MOST_LENGTH", "is_word", "turned_word", "all_words", "words_of", "ends_by", "ends_of", "_law_pen", "_law_draw", "_law_pick"]
def loose1 : List Str := ["_law_is_int", "_law_passed", "_law_fault", "_law_are_due", "_law_back", "_law_word_back", "_law_signs", "_law_words", "_law_letters", "_law_some_word", "_law_says", "_law_of", "_law_is_word", "_law_bad_word", "_law_spoilt_item", "_law_spoilt", "_law_put"]
def loose : List Str := loose0 ++ loose1
end K12

set_option Elab.async false
set_option linter.all false
set_option maxRecDepth 100000
set_option maxHeartbeats 0
namespace K12
open PySem DL
theorem tx : S.Tx := ⟨by kernel_rfl, by kernel_rfl, by kernel_rfl, by kernel_rfl⟩
abbrev R : PySem.W.OpenRow := PySem.W.OpenLaw.row PySem.Challenge.rw_freesigns_k12_words_and_turned
abbrev hk : PySem.W.Hook := hookZ 5 S.defs S.tf S.ex
def ob (s : PySem.W.SharedT) : He.AlX := obsZ 5 S.defs S.tf S.ex (HandSHeadRun.getT s)
theorem ob_eq (s : PySem.W.SharedT) : ob s = hk.obs s.abs := obsZ_eq (HandSHeadRun.getT_eq s)
end K12

set_option Elab.async false
set_option linter.all false
set_option maxRecDepth 100000
set_option maxHeartbeats 4000000
namespace K12
open PySem DL L2
abbrev o (n : Nat) : Orc := orc S.txt n
/-- a pure function's answer -/
def PF (n i : Nat) (args : List D) (v : DL.P) : Prop := ∀ G, pureR ((o n).fn i args []) G = .ok (.p v) G
abbrev is (ws : List Int) : List DL.P := ws.map P.int
abbrev F (k : Nat) (c : Fnc) : Prop := S.txt.fns[k]? = some c
theorem drawOk {n : Nat} : DrawOk (o (n + 1)) 18 := ⟨ar_at (F := c18) rfl, fun b m R G h hb h0 hm => by
  rw [fn_at (F := c18) rfl]
  exact draw_ev h hb h0 hm⟩
theorem pick {n : Nat} {b : Int} {R G : Sto} {xs : List DL.P} (h : Pn b R G) (hb : b < 1000000) (h0 : xs ≠ []) (hm : xs.length < 1000000) : ∃ x G', x ∈ xs ∧ (o (n + 2)).fn 19 [.ref 0, .p (.lst xs)] G = .ok (.p x) G' ∧ Pn (b + 1) R G' := by
  rw [fn_at (F := c19) rfl]
  exact pick_ev drawOk h hb h0 hm
theorem draw {n : Nat} {b m : Int} {R G : Sto} (h : Pn b R G) (hb : b < 1000000) (h0 : 0 < m) (hm : m < 1000000) : ∃ k G', (o (n + 1)).fn 18 [.ref 0, .p (.int m)] G = .ok (.p (.int k)) G' ∧ 0 ≤ k ∧ k < m ∧ Pn (b + 1) R G' := drawOk.2 b m R G h hb h0 hm
theorem pen {n : Nat} {ns : List Int} : ∃ f, (o (n + 1)).fn 17 [.scr ns] [] = .ok (.ref 0) [penS ns 0 0 0 f] ∧ Pn 0 [] [penS ns 0 0 0 f] := by
  rw [fn_at (F := c17) rfl]
  exact pen_ev
/-! in_tuples -/
theorem it_int {n : Nat} {i : Int} : PF (n + 1) 1 [.p (.int i)] (.int i) := fun G => by kernel_rfl
theorem ar {n : Nat} (i : Nat) (c : Fnc) (h : S.txt.fns[i]? = some c) : (o n).ar i = c.ar := ar_at h
theorem ar1 {n : Nat} : (o n).ar 1 = 1 := ar 1 c1 rfl
theorem it_row {n : Nat} {ws : List Int} {x : DL.P} (hl : ws.length ≤ 1000) (hx : x = .tup (is ws) ∨ x = .lst (is ws)) : PF (n + 2) 1 [.p x] (.tup (is ws)) := by
  intro G
  have hc : compL (.v 1) (evT (o (n + 1)) .yes) (ev (o (n + 1)) (.call 1 0 (.cons (.var 1) .nil))) (ws.map (D.p ∘ P.int)) ⟨[some (.p x), none], []⟩ [] = some ((ws.map (D.p ∘ P.int)).map id, []) := by
    refine compL_pure fun d hd => ?_
    obtain ⟨i, _, rfl⟩ := List.mem_map.mp hd
    refine ⟨⟨[some (.p x), some (.p (.int i))], []⟩, rfl, rfl, ?_⟩
    simp [-x_call0, x_callP, ar1, it_int (n := n) (i := i) []]
  rw [fn_at (F := c1) rfl, x_fn, c1]
  have hl' : ws.length ≤ 16777216 := by omega
  rcases hx with rfl | rfl
  · have ii : ∀ G, biF (o (n + 1)).ask .isi G [.p (.tup (is ws)), .p (.tup [.ty "tuple", .ty "list"])] = some (.p (.bl true)) := fun G => by kernel_rfl
    simp [ii, truD, wipeR, iterD, hc, hl', mkTup]
  · have ii : ∀ G, biF (o (n + 1)).ask .isi G [.p (.lst (is ws)), .p (.tup [.ty "tuple", .ty "list"])] = some (.p (.bl true)) := fun G => by kernel_rfl
    simp [ii, truD, wipeR, iterD, hc, hl', mkTup]
end K12

set_option Elab.async false
set_option linter.all false
set_option maxRecDepth 100000
set_option maxHeartbeats 4000000
namespace K12
open PySem DL L2
/-! words -/
def okI : DL.P → Bool
  | .non => true
  | .int _ => true
  | .bl _ => true
  | .str _ => true
  | .tup _ => true
  | _ => false
def isIn (sg : List Int) : DL.P → Bool
  | .int i => sg.contains i
  | _ => false
def isW (sg : List Int) : DL.P → Bool
  | .tup xs => xs.all (isIn sg)
  | _ => false
def isI : DL.P → Bool
  | .int _ => true
  | _ => false
theorem whole {n : Nat} {x : DL.P} (h : okI x = true) : PF (n + 1) 0 [.p x] (.bl (isI x)) := fun G => by
  cases x with
  | non => kernel_rfl
  | int i => kernel_rfl
  | bl b => kernel_rfl
  | str s => kernel_rfl
  | tup xs => kernel_rfl
  | _ => cases h
theorem lwhole {n : Nat} {x : DL.P} (h : okI x = true) : PF (n + 1) 20 [.p x] (.bl (isI x)) := fun G => by
  cases x with
  | non => kernel_rfl
  | int i => kernel_rfl
  | bl b => kernel_rfl
  | str s => kernel_rfl
  | tup xs => kernel_rfl
  | _ => cases h
theorem all_bls {xs : List DL.P} {f : DL.P → Bool} {G : Sto} : allD G [.p (.lst (xs.map fun x => .bl (f x)))] = some (.p (.bl (xs.all f))) := by
  have h : ∀ xs : List DL.P, blsD ((xs.map fun x => DL.P.bl (f x)).map D.p) = some (xs.map f) := by
    intro xs
    induction xs with
    | nil => rfl
    | cons x xs ih =>
      simp only [List.map_cons] at ih ⊢
      unfold blsD
      rw [ih]; rfl
  show ((some ((xs.map fun x => DL.P.bl (f x)).map D.p)).bind blsD).map _ = _
  rw [Option.bind_some, h]
  simp [List.all_map]
/-- a value that may stand for a word -/
def okV : DL.P → Bool
  | .tup xs => xs.all okI && decide (xs.length ≤ 1000)
  | .lst _ => true
  | .non => true
  | .int _ => true
  | .str _ => true
  | _ => false
theorem ar0 {n : Nat} : (o n).ar 0 = 1 := ar 0 c0 rfl
theorem ar9 {n : Nat} : (o n).ar 9 = 2 := ar 9 c9 rfl
theorem ar20 {n : Nat} : (o n).ar 20 = 1 := ar 20 c20 rfl
theorem word_by {n : Nat} {sg : List Int} {v : DL.P} (h : okV v = true) : PF (n + 2) 9 [.p (.tup (is sg)), .p v] (.bl (isW sg v)) := by
  intro G
  rw [fn_at (F := c9) rfl, x_fn, c9]
  cases v with
  | tup xs =>
    have h : (xs.all okI && decide (xs.length ≤ 1000)) = true := h
    rw [Bool.and_eq_true, decide_eq_true_eq] at h
    have hl : xs.length ≤ 16777216 := by omega
    have hc : compL (.v 2) (evT (o (n + 1)) .yes) (ev (o (n + 1)) (.andV (.cons (.call 0 0 (.cons (.var 2) .nil)) (.cons (.cmp .In (.var 2) (.var 0)) .nil)))) (xs.map D.p) ⟨[some (.p (.tup (is sg))), some (.p (.tup xs)), none], []⟩ [] = some ((xs.map D.p).map fun d => match d with
        | .p x => .p (.bl (isIn sg x))
        | d => d, []) := by
      refine compL_pure fun d hd => ?_
      obtain ⟨x, hx, rfl⟩ := List.mem_map.mp hd
      refine ⟨⟨[some (.p (.tup (is sg))), some (.p (.tup xs)), some (.p x)], []⟩, rfl, rfl, ?_⟩
      have hw := whole (n := n) (List.all_eq_true.mp h.1 x hx) []
      cases x with
      | int i => simp [-x_call0, x_callP, ar0, hw, isI, isIn, in_tup]
      | non => simp [-x_call0, x_callP, ar0, hw, isI, isIn]
      | bl b => simp [-x_call0, x_callP, ar0, hw, isI, isIn]
      | str s => simp [-x_call0, x_callP, ar0, hw, isI, isIn]
      | tup s => simp [-x_call0, x_callP, ar0, hw, isI, isIn]
      | _ => have := List.all_eq_true.mp h.1 _ hx; cases this
    have hm : ((xs.map D.p).map fun d => match d with
        | .p x => D.p (.bl (isIn sg x))
        | d => d) = (xs.map fun x => DL.P.bl (isIn sg x)).map D.p := by simp [Function.comp_def]
    rw [hm] at hc
    have ii : ∀ G, biF (o (n + 1)).ask .isi G [.p (.tup xs), .p (.ty "tuple")] = some (.p (.bl true)) := fun G => by kernel_rfl
    have ma := all_bls (xs := xs) (f := isIn sg) (G := [])
    simp only [is] at hc
    have mk := mk_lst (xs := xs.map fun x => DL.P.bl (isIn sg x))
    simp only [start0, List.map_cons, List.map_nil, List.length_cons, List.length_nil]
    simp [-x_call0, ii, wipeR, iterD, -List.map_map]
    rw [hc]
    simp [hl, mk, ma, isW, -List.map_map]
  | lst xs => kernel_rfl
  | non => kernel_rfl
  | int i => kernel_rfl
  | str s => kernel_rfl
  | _ => cases h
end K12

set_option Elab.async false
set_option linter.all false
set_option maxRecDepth 100000
set_option maxHeartbeats 4000000
namespace K12
open PySem DL L2
/-- letters, their model, their signs, the turned signs -/
structure Lt (Lp : List DL.P) (M : DL.P) (sg : List Int) (bk : Int → Int) : Prop where
  need : ∀ n, PF (n + 1) 5 [.p M] .non
  signs : ∀ n, PF (n + 2) 6 [.p M] (.tup (is sg))
  lsigns : ∀ n, PF (n + 1) 26 [.p (.lst Lp)] (.lst (is sg))
  model : ∀ n, PF (n + 5) 31 [.p (.lst Lp), .p (.lst [.tup []])] M
  fld : ∀ (n : Nat) (G : Sto), fldD (o n).ob "letters" G (.p M) = some (.p (.tup Lp))
  back : ∀ s ∈ sg, ∀ n, PF (n + 1) 7 [.p (.int s), .p (.tup Lp)] (.int (bk s)) ∧ PF (n + 1) 24 [.p (.lst Lp), .p (.int s)] (.int (bk s))
  bks : ∀ s ∈ sg, bk s ∈ sg ∧ bk (bk s) = s
  sne : sg ≠ []
  slen : sg.length ≤ 6
  sml : ∀ s ∈ sg, 0 ≤ s ∧ s ≤ 5
section
variable {Lp : List DL.P} {M : DL.P} {sg : List Int} {bk : Int → Int}
def Wd (sg : List Int) (ws : List Int) : Prop := (∀ w ∈ ws, w ∈ sg) ∧ ws.length ≤ 200
theorem isW_of {ws : List Int} (h : ∀ w ∈ ws, w ∈ sg) : isW sg (.tup (is ws)) = true := by
  show (is ws).all (isIn sg) = true
  rw [List.all_map, List.all_eq_true]
  intro w hw
  exact List.contains_iff_mem.mpr (h w hw)
theorem okV_is {ws : List Int} (h : ws.length ≤ 1000) : okV (.tup (is ws)) = true := by
  show ((is ws).all okI && decide ((is ws).length ≤ 1000)) = true
  rw [Bool.and_eq_true, decide_eq_true_eq, List.all_map, List.all_eq_true, List.length_map]
  exact ⟨fun _ _ => rfl, h⟩
theorem ar10 {n : Nat} : (o n).ar 10 = 2 := ar 10 c10 rfl
theorem ar6 {n : Nat} : (o n).ar 6 = 1 := ar 6 c6 rfl
theorem ar5 {n : Nat} : (o n).ar 5 = 1 := ar 5 c5 rfl
theorem ar7 {n : Nat} : (o n).ar 7 = 2 := ar 7 c7 rfl
theorem ar8 {n : Nat} : (o n).ar 8 = 2 := ar 8 c8 rfl
theorem ar15 {n : Nat} : (o n).ar 15 = 1 := ar 15 c15 rfl
theorem ar24 {n : Nat} : (o n).ar 24 = 2 := ar 24 c24 rfl
theorem ar26 {n : Nat} : (o n).ar 26 = 1 := ar 26 c26 rfl
theorem passed {n : Nat} {ws : List Int} {x : DL.P} (K : Lt Lp M sg bk) (h : Wd sg ws) (hx : x = .tup (is ws) ∨ x = .lst (is ws)) : PF (n + 4) 10 [.p M, .p x] (.tup (is ws)) := by
  intro G
  have e1 := it_row (n := n + 1) (ws := ws) (x := x) (by have := h.2; omega) hx []
  have e2 := K.signs (n + 1) []
  have e3 := word_by (n := n + 1) (sg := sg) (v := .tup (is ws)) (okV_is (by have := h.2; omega)) []
  rw [isW_of h.1] at e3
  rw [fn_at (F := c10) rfl, x_fn, c10]
  simp [-x_call0, x_callP, ar1, ar6, ar9, e1, e2, e3, truD]
theorem wback {n : Nat} {ws : List Int} (K : Lt Lp M sg bk) (h : Wd sg ws) : PF (n + 2) 8 [.p (.tup (is ws)), .p (.tup Lp)] (.tup (is (ws.reverse.map bk))) := by
  intro G
  have hl : ws.length ≤ 16777216 := by have := h.2; omega
  have hc : compL (.v 2) (evT (o (n + 1)) .yes) (ev (o (n + 1)) (.call 7 0 (.cons (.var 2) (.cons (.var 1) .nil)))) ((is ws.reverse).map D.p) ⟨[some (.p (.tup (is ws))), some (.p (.tup Lp)), none], []⟩ [] = some ((ws.reverse.map fun w => D.p (.int (bk w))), []) := by
    have := compL_pure (p := .v 2) (fc := evT (o (n + 1)) .yes) (fe := ev (o (n + 1)) (.call 7 0 (.cons (.var 2) (.cons (.var 1) .nil)))) (ρ := ⟨[some (.p (.tup (is ws))), some (.p (.tup Lp)), none], []⟩) (G := []) (ds := (is ws.reverse).map D.p) (f := fun d => match d with
      | .p (.int w) => .p (.int (bk w))
      | d => d) fun d hd => ?_
    · rw [this]
      simp [Function.comp_def]
    · obtain ⟨x, hx, rfl⟩ := List.mem_map.mp hd
      obtain ⟨w, hw, rfl⟩ := List.mem_map.mp hx
      have b := (K.back w (h.1 w (by simpa using hw)) n).1 []
      refine ⟨⟨[some (.p (.tup (is ws))), some (.p (.tup Lp)), some (.p (.int w))], []⟩, rfl, rfl, ?_⟩
      simp [-x_call0, x_callP, ar7, b]
  have mk := mk_lst (xs := is (ws.reverse.map bk))
  rw [fn_at (F := c8) rfl, x_fn, c8]
  simp only [start0, List.map_cons, List.map_nil, List.length_cons, List.length_nil]
  have er : (is ws).reverse = is ws.reverse := by rw [is, is, List.map_reverse]
  simp [-x_call0, wipeR, iterD, -List.map_map, er, -List.map_reverse]
  rw [hc]
  have e4 : (ws.reverse.map fun w => D.p (.int (bk w))) = (is (ws.reverse.map bk)).map D.p := by simp [Function.comp_def]
  rw [e4]
  simp [hl, mk, -List.map_map, -List.map_reverse]
theorem lback {n : Nat} {ws : List Int} (K : Lt Lp M sg bk) (h : Wd sg ws) : PF (n + 2) 25 [.p (.lst Lp), .p (.tup (is ws))] (.tup (is (ws.reverse.map bk))) := by
  intro G
  have hl : ws.length ≤ 16777216 := by have := h.2; omega
  have hc : compL (.v 2) (evT (o (n + 1)) .yes) (ev (o (n + 1)) (.call 24 0 (.cons (.var 0) (.cons (.var 2) .nil)))) ((is ws.reverse).map D.p) ⟨[some (.p (.lst Lp)), some (.p (.tup (is ws))), none], []⟩ [] = some ((ws.reverse.map fun w => D.p (.int (bk w))), []) := by
    have := compL_pure (p := .v 2) (fc := evT (o (n + 1)) .yes) (fe := ev (o (n + 1)) (.call 24 0 (.cons (.var 0) (.cons (.var 2) .nil)))) (ρ := ⟨[some (.p (.lst Lp)), some (.p (.tup (is ws))), none], []⟩) (G := []) (ds := (is ws.reverse).map D.p) (f := fun d => match d with
      | .p (.int w) => .p (.int (bk w))
      | d => d) fun d hd => ?_
    · rw [this]
      simp [Function.comp_def]
    · obtain ⟨x, hx, rfl⟩ := List.mem_map.mp hd
      obtain ⟨w, hw, rfl⟩ := List.mem_map.mp hx
      have b := (K.back w (h.1 w (by simpa using hw)) n).2 []
      refine ⟨⟨[some (.p (.lst Lp)), some (.p (.tup (is ws))), some (.p (.int w))], []⟩, rfl, rfl, ?_⟩
      simp [-x_call0, x_callP, ar24, b]
  have mk := mk_lst (xs := is (ws.reverse.map bk))
  rw [fn_at (F := c25) rfl, x_fn, c25]
  simp only [start0, List.map_cons, List.map_nil, List.length_cons, List.length_nil]
  have er : (is ws).reverse = is ws.reverse := by rw [is, is, List.map_reverse]
  simp [-x_call0, wipeR, iterD, -List.map_map, er, -List.map_reverse]
  rw [hc]
  have e4 : (ws.reverse.map fun w => D.p (.int (bk w))) = (is (ws.reverse.map bk)).map D.p := by simp [Function.comp_def]
  rw [e4]
  simp [hl, mk, -List.map_map, -List.map_reverse]
abbrev tn (bk : Int → Int) (ws : List Int) : List Int := ws.reverse.map bk
theorem Wd.tn {ws : List Int} (K : Lt Lp M sg bk) (h : Wd sg ws) : Wd sg (tn bk ws) := by
  refine ⟨fun w hw => ?_, by simpa using h.2⟩
  obtain ⟨v, hv, rfl⟩ := List.mem_map.mp hw
  exact (K.bks v (h.1 v (by simpa using hv))).1
theorem tn_tn {ws : List Int} (K : Lt Lp M sg bk) (h : Wd sg ws) : tn bk (tn bk ws) = ws := by
  simp only [K12.tn, List.reverse_reverse, ← List.map_reverse, List.map_map]
  have : ∀ w ∈ ws, (bk ∘ bk) w = w := fun w hw => (K.bks w (h.1 w hw)).2
  rw [List.map_congr_left this, List.map_id']
theorem turned {n : Nat} {ws : List Int} {x : DL.P} (K : Lt Lp M sg bk) (h : Wd sg ws) (hx : x = .tup (is ws) ∨ x = .lst (is ws)) : PF (n + 5) 12 [.p M, .p x] (.tup (is (tn bk ws))) := by
  intro G
  have e0 := K.need (n + 3) []
  have e1 := passed (n := n) K h hx []
  have e2 := wback (n := n + 2) K h []
  have e3 := K.fld (n + 4) []
  rw [fn_at (F := c12) rfl, x_fn, c12]
  simp [-x_call0, x_callP, ar5, ar8, ar10, e0, e1, e2, e3]
end
end K12

set_option Elab.async false
set_option linter.all false
set_option maxRecDepth 100000
set_option maxHeartbeats 4000000
namespace K12
open PySem DL L2
theorem cut_drop {xs : List DL.P} {i : Int} {G : Sto} (h0 : 0 ≤ i) (h : i ≤ xs.length) : cutD G (some i) none (.p (.tup xs)) = some (.p (.tup (xs.drop i.toNat))) := by
  show some (D.p (.tup (cutL xs (some i) none))) = _
  obtain ⟨k, rfl⟩ := Int.eq_ofNat_of_zero_le h0
  unfold cutL
  rw [HT.sIx_nat, HT.sIx_none, Nat.min_eq_left (by omega), List.take_of_length_le (by simp), Int.toNat_natCast]
def ends (ws : List Int) : List (List Int) := (List.range (ws.length + 1)).map fun k => ws.drop (ws.length - k)
section
variable {Lp : List DL.P} {M : DL.P} {sg : List Int} {bk : Int → Int}
theorem ends_by {n : Nat} {ws : List Int} (hl : ws.length ≤ 200) : PF (n + 1) 15 [.p (.tup (is ws))] (.tup (rr (ends ws))) := by
  intro G
  have ok : okRng ((ws.length : Int) + 1) = true := okRng_of (by omega) (by omega)
  have hc : compL (.v 1) (evT (o n) .yes) (ev (o n) (.cut (.var 0) (.some (.bin .Sub (.bi .len (.cons (.var 0) .nil)) (.var 1))) .none)) (rangeI 0 ((ws.length : Int) + 1).toNat) ⟨[some (.p (.tup (is ws))), none], []⟩ [] = some ((rr (ends ws)).map D.p, []) := by
    have := compL_pure (p := .v 1) (fc := evT (o n) .yes) (fe := ev (o n) (.cut (.var 0) (.some (.bin .Sub (.bi .len (.cons (.var 0) .nil)) (.var 1))) .none)) (ρ := ⟨[some (.p (.tup (is ws))), none], []⟩) (G := []) (ds := rangeI 0 ((ws.length : Int) + 1).toNat) (f := fun d => match d with
      | .p (.int k) => .p (.tup (is (ws.drop (ws.length - k.toNat))))
      | d => d) fun d hd => ?_
    · rw [this]
      unfold rangeI ends
      have e : ((ws.length : Int) + 1).toNat = ws.length + 1 := by omega
      rw [e]
      simp [Function.comp_def]
    · obtain ⟨k, hk, rfl⟩ := List.mem_map.mp hd
      have hk : k < ws.length + 1 := by have := List.mem_range.mp hk; omega
      refine ⟨⟨[some (.p (.tup (is ws))), some (.p (.int (0 + (k : Nat))))], []⟩, rfl, rfl, ?_⟩
      have cd := cut_drop (xs := is ws) (i := (ws.length : Int) - k) (G := []) (by omega) (by simp; omega)
      have e : ((ws.length : Int) - k).toNat = ws.length - k := by omega
      rw [e] at cd
      simp [cd, List.map_drop]
  have hle : (ends ws).length ≤ 16777216 := by unfold ends; simp; omega
  have mk := mk_lst (xs := rr (ends ws))
  rw [fn_at (F := c15) rfl, x_fn, c15]
  simp only [start0, List.map_cons, List.map_nil, List.length_cons, List.length_nil]
  obtain ⟨L, hL⟩ : ∃ L : Int, L = (ws.length : Int) + 1 := ⟨_, rfl⟩
  rw [← hL] at hc ok
  simp [-x_call0, wipeR, ok, -List.map_map, ← hL]
  rw [hc]
  simp [hle, mk, -List.map_map]
theorem ends_of {n : Nat} {ws : List Int} {x : DL.P} (K : Lt Lp M sg bk) (h : Wd sg ws) (hx : x = .tup (is ws) ∨ x = .lst (is ws)) : PF (n + 5) 16 [.p M, .p x] (.tup (rr (ends ws))) := by
  intro G
  have e0 := K.need (n + 3) []
  have e1 := passed (n := n) K h hx []
  have e2 := ends_by (n := n + 3) h.2 []
  rw [fn_at (F := c16) rfl, x_fn, c16]
  simp [-x_call0, x_callP, ar5, ar10, ar15, e0, e1, e2]
/-- the law's own ends -/
theorem lends {n : Nat} {ws : List Int} {v : List (Option D)} {G : Sto} (hl : ws.length ≤ 200) (hv : v[6]? = some (some (.p (.tup (is ws))))) (h9 : 9 < v.length) :
    compL (.v 9) (evT (o n) .yes) (ev (o n) (.cut (.var 6) (.some (.var 9)) .none)) (downI (ws.length : Int) ((ws.length : Int) - -1).toNat) ⟨v, []⟩ G = some ((rr (ends ws)).map D.p, G) := by
  have := compL_pure (p := .v 9) (fc := evT (o n) .yes) (fe := ev (o n) (.cut (.var 6) (.some (.var 9)) .none)) (ρ := ⟨v, []⟩) (G := G) (ds := downI (ws.length : Int) ((ws.length : Int) - -1).toNat) (f := fun d => match d with
      | .p (.int k) => .p (.tup (is (ws.drop k.toNat)))
      | d => d) fun d hd => ?_
  · rw [this]
    unfold downI ends
    have e : ((ws.length : Int) - -1).toNat = ws.length + 1 := by omega
    rw [e]
    simp only [List.map_map, Option.some.injEq, Prod.mk.injEq, and_true]
    refine List.map_congr_left fun k hk => ?_
    have hk := List.mem_range.mp hk
    have e2 : ((ws.length : Int) + (k : Int) * -1).toNat = ws.length - k := by omega
    simp only [Function.comp_def, e2]
  · obtain ⟨k, hk, rfl⟩ := List.mem_map.mp hd
    have hk : k < ws.length + 1 := by have := List.mem_range.mp hk; omega
    refine ⟨⟨v.set 9 (some (.p (.int ((ws.length : Int) + (k : Nat) * (-1))))), []⟩, ?_, rfl, ?_⟩
    · simp [h9]
    · have cd := cut_drop (xs := is ws) (i := (ws.length : Int) + (k : Nat) * (-1)) (G := G) (by omega) (by simp; omega)
      have hv' : (v.set 9 (some (.p (.int ((ws.length : Int) + (k : Nat) * (-1))))))[6]? = some (some (.p (.tup (is ws)))) := by rw [List.getElem?_set_ne (by decide)]; exact hv
      have h9' : (v.set 9 (some (.p (.int ((ws.length : Int) + (k : Nat) * (-1))))))[9]? = some (some (.p (.int ((ws.length : Int) + (k : Nat) * (-1))))) := List.getElem?_set_self h9
      simp only [x_cut, x_var, hv', h9', Option.bind_some, id, x_of, x_bo, x_o1, x_o0, cd, List.map_drop]
/-! words are drawn -/
theorem ar19 {n : Nat} : (o n).ar 19 = 2 := ar 19 c19 rfl
theorem ar18 {n : Nat} : (o n).ar 18 = 2 := ar 18 c18 rfl
theorem some_word {n : Nat} {b m : Int} {R G : Sto} (hs : sg ≠ []) (hsl : sg.length ≤ 6) (h : Pn b R G) (hb : b < 900) (h0 : 0 ≤ m) (hm : m ≤ 6) :
    ∃ ws G', (o (n + 3)).fn 29 [.ref 0, .p (.lst (is sg)), .p (.int m)] G = .ok (.p (.tup (is ws))) G' ∧ (∀ w ∈ ws, w ∈ sg) ∧ ws.length = m.toNat ∧ Pn (b + m) R G' := by
  have ok : okRng m = true := okRng_of h0 (by omega)
  obtain ⟨ys, G', e1, e2, e3, e4⟩ := compL_st (p := .v 3) (fc := evT (o (n + 2)) .yes) (fe := ev (o (n + 2)) (.call 19 1 (.cons (.var 0) (.cons (.var 1) .nil)))) (ρ := ⟨[some (.ref 0), some (.p (.lst (is sg))), some (.p (.int m)), none], []⟩) (I := fun k G => Pn (b + k) R G) (Q := fun d => ∃ w ∈ sg, d = .p (.int w)) (ds := rangeI 0 m.toNat) (k := 0) (G := G) (by simpa using h) fun d hd j G hj hG => by
    have hj : j < m.toNat := by simpa [rangeI] using hj
    obtain ⟨x, G1, hx, p1, p2⟩ := pick (n := n) (xs := is sg) hG (by omega) (by simpa using hs) (by simp; omega)
    obtain ⟨w, hw, rfl⟩ := List.mem_map.mp hx
    obtain ⟨i, hi, rfl⟩ := List.mem_map.mp hd
    refine ⟨⟨[some (.ref 0), some (.p (.lst (is sg))), some (.p (.int m)), some (.p (.int (0 + (i : Nat))))], []⟩, .p (.int w), G1, rfl, rfl, ?_, ⟨w, hw, rfl⟩, ?_⟩
    · simp [ar19, p1]
    · have : b + ((j + 1 : Nat) : Int) = b + (j : Int) + 1 := by omega
      rw [this]; exact p2
  have all : ∀ ys : List D, (∀ y ∈ ys, ∃ w ∈ sg, y = .p (.int w)) → ∃ ws : List Int, ys = (is ws).map D.p ∧ ∀ w ∈ ws, w ∈ sg := by
    intro ys
    induction ys with
    | nil => intro _; exact ⟨[], rfl, by simp⟩
    | cons y ys ih =>
      intro h
      obtain ⟨w, hw, rfl⟩ := h y (by simp)
      obtain ⟨ws, e, h2⟩ := ih fun z hz => h z (by simp [hz])
      refine ⟨w :: ws, by rw [e]; rfl, fun v hv => ?_⟩
      rcases List.mem_cons.mp hv with rfl | hv
      · exact hw
      · exact h2 v hv
  obtain ⟨ws, e5, h5⟩ := all ys e3
  have hr : (rangeI 0 m.toNat).length = m.toNat := by simp [rangeI]
  have hlen : ws.length = m.toNat := by rw [hr, e5] at e2; simpa using e2
  refine ⟨ws, G', ?_, h5, hlen, ?_⟩
  · have mk := mk_lst (xs := is ws)
    have hl : ws.length ≤ 16777216 := by omega
    rw [fn_at (F := c29) rfl, x_fn, c29]
    simp only [start0, List.map_cons, List.map_nil, List.length_cons, List.length_nil]
    rw [e5] at e1
    simp [wipeR, ok, -List.map_map]
    rw [e1]
    simp [hl, mk, -List.map_map]
  · rw [hr] at e4
    have : b + m = b + ((0 + m.toNat : Nat) : Int) := by omega
    rw [this]; exact e4
end
end K12

set_option Elab.async false
set_option linter.all false
set_option maxRecDepth 100000
set_option maxHeartbeats 4000000
namespace K12
open PySem DL L2
def resP : Res D → Option DL.P
  | .ok d G => freeze G d
  | _ => none
theorem pf_of {n i : Nat} {args : List D} {v : DL.P} (h : resP ((o n).fn i args []) = some v) : PF n i args v := by
  intro G
  cases e : (o n).fn i args [] with
  | ok d G2 =>
    rw [e] at h
    have h : freeze G2 d = some v := h
    unfold pureR
    simp only [h]
  | exc x G2 => rw [e] at h; cases h
  | stuck => rw [e] at h; cases h
def rowsB : List (List Bool) := [[true], [true, true], [false], [false], [false, false], [false, false], [true, false], [false, true], [true, true, false]]
def rowsP : List DL.P := rowsB.map fun bs => .lst (bs.map P.bl)
def Lp (bs : List Bool) : List DL.P := (["a0", "b1", "c2"].zip bs).map fun q => .tup [.str q.1, .bl q.2]
def sgAt : Int → List Bool → List Int
  | _, [] => []
  | k, true :: r => 2 * k :: sgAt (k + 1) r
  | k, false :: r => 2 * k :: (2 * k + 1) :: sgAt (k + 1) r
def sgOf (bs : List Bool) : List Int := sgAt 0 bs
def bkOf (bs : List Bool) (s : Int) : Int := if bs.getD (s / 2).toNat false then s else if s % 2 = 0 then s + 1 else s - 1
def MOf (bs : List Bool) : DL.P := .obj 6 [("letters", .tup (Lp bs)), ("polys", .tup [.tup [.str "p0", .tup []]]), ("tables", .tup []), ("asks", .tup [])]
def isIntP : Option DL.P → Int → Bool
  | some (.int i), j => decide (i = j)
  | _, _ => false
theorem isIntP_eq {a : Option DL.P} {j : Int} (h : isIntP a j = true) : a = some (.int j) := by
  unfold isIntP at h
  split at h
  · rw [of_decide_eq_true h]
  · cases h
def bkC (n : Nat) (bs : List Bool) : Bool := (sgOf bs).all fun s => isIntP (resP ((o (n + 1)).fn 7 [.p (.int s), .p (.tup (Lp bs))] [])) (bkOf bs s) && (isIntP (resP ((o (n + 1)).fn 24 [.p (.lst (Lp bs)), .p (.int s)] [])) (bkOf bs s) && ((sgOf bs).contains (bkOf bs s) && (decide (bkOf bs (bkOf bs s) = s) && (decide (0 ≤ s) && decide (s ≤ 5)))))
theorem lt_mk {bs : List Bool} (h1 : ∀ n, resP ((o (n + 1)).fn 5 [.p (MOf bs)] []) = some .non) (h2 : ∀ n, resP ((o (n + 2)).fn 6 [.p (MOf bs)] []) = some (.tup (is (sgOf bs)))) (h3 : ∀ n, resP ((o (n + 1)).fn 26 [.p (.lst (Lp bs))] []) = some (.lst (is (sgOf bs)))) (h4 : ∀ n, resP ((o (n + 5)).fn 31 [.p (.lst (Lp bs)), .p (.lst [.tup []])] []) = some (MOf bs))
    (h5 : ∀ (n : Nat) (G : Sto), fldD (o n).ob "letters" G (.p (MOf bs)) = some (.p (.tup (Lp bs)))) (h6 : ∀ n, bkC n bs = true) (h7 : sgOf bs ≠ []) (h8 : (sgOf bs).length ≤ 6) : Lt (Lp bs) (MOf bs) (sgOf bs) (bkOf bs) := by
  have key : ∀ s ∈ sgOf bs, ∀ n, _ := fun s hs n => List.all_eq_true.mp (h6 n) s hs
  simp only [Bool.and_eq_true, decide_eq_true_eq] at key
  exact ⟨fun n => pf_of (h1 n), fun n => pf_of (h2 n), fun n => pf_of (h3 n), fun n => pf_of (h4 n), h5, fun s hs n => ⟨pf_of (isIntP_eq (key s hs n).1), pf_of (isIntP_eq (key s hs n).2.1)⟩, fun s hs => ⟨List.contains_iff_mem.mp (key s hs 0).2.2.1, (key s hs 0).2.2.2.1⟩, h7, h8, fun s hs => (key s hs 0).2.2.2.2⟩
theorem lt_of {bs : List Bool} (h : bs ∈ rowsB) : Lt (Lp bs) (MOf bs) (sgOf bs) (bkOf bs) := by
  simp only [rowsB, List.mem_cons, List.not_mem_nil, or_false] at h
  rcases h with rfl | rfl | rfl | rfl | rfl | rfl | rfl | rfl | rfl
  all_goals exact lt_mk (fun n => by kernel_rfl) (fun n => by kernel_rfl) (fun n => by kernel_rfl) (fun n => by kernel_rfl) (fun n G => by kernel_rfl) (fun n => by kernel_rfl) (by decide) (by decide)
theorem letters {n : Nat} {b : Int} {R G : Sto} (h : Pn b R G) (hb : b < 900) : ∃ bs G', bs ∈ rowsB ∧ (o (n + 3)).fn 28 [.ref 0] G = .ok (.p (.lst (Lp bs))) G' ∧ Pn (b + 1) R G' := by
  obtain ⟨x, G', hx, e, p⟩ := pick (n := n) (xs := rowsP) h (by omega) (by decide) (by decide)
  obtain ⟨bs, hbs, rfl⟩ := List.mem_map.mp hx
  refine ⟨bs, G', hbs, ?_, p⟩
  have hb := hbs
  simp only [rowsB, List.mem_cons, List.not_mem_nil, or_false] at hb
  simp only [rowsP, rowsB, List.map_cons, List.map_nil] at e
  rw [fn_at (F := c28) rfl, x_fn, c28]
  rcases hb with rfl | rfl | rfl | rfl | rfl | rfl | rfl | rfl | rfl
  all_goals
    simp only [List.map_cons, List.map_nil] at e
    simp [ar19, e, mkLst, iterD, wipeR]
    rfl
end K12

set_option Elab.async false
set_option linter.all false
set_option maxRecDepth 100000
set_option maxHeartbeats 4000000
namespace K12
open PySem DL L2
def allW (sg : List Int) : Nat → List (List Int)
  | 0 => [[]]
  | k + 1 => (allW sg k).flatMap fun w => sg.map fun s => w ++ [s]
theorem words_of {n : Nat} {bs : List Bool} {k : Int} (h : bs ∈ rowsB) (h0 : 0 ≤ k) (h4 : k < 4) : PF (n + 4) 14 [.p (MOf bs), .p (.int k)] (.tup (rr (allW (sgOf bs) k.toNat))) ∧ PF (n + 1) 27 [.p (.lst (is (sgOf bs))), .p (.int k)] (.lst (rr (allW (sgOf bs) k.toNat))) := by
  simp only [rowsB, List.mem_cons, List.not_mem_nil, or_false] at h
  obtain rfl | rfl | rfl | rfl : k = 0 ∨ k = 1 ∨ k = 2 ∨ k = 3 := by omega
  all_goals rcases h with rfl | rfl | rfl | rfl | rfl | rfl | rfl | rfl | rfl
  all_goals exact ⟨pf_of (by kernel_rfl), pf_of (by kernel_rfl)⟩
def shortB (bs : List Bool) (k : Nat) : Bool := (allW (sgOf bs) k).all fun ws => decide (ws.length ≤ 3) && ws.all fun w => decide (w.natAbs < 2 ^ 3)
theorem words_rep {bs : List Bool} {k : Int} {G : Sto} (h : bs ∈ rowsB) (h0 : 0 ≤ k) (h4 : k < 4) : reprD G [.p (.tup (rr (allW (sgOf bs) k.toNat)))] = some (.p (.str (PyData.tuple (rd (allW (sgOf bs) k.toNat))).shown)) := by
  have hs : shortB bs k.toNat = true ∧ (allW (sgOf bs) k.toNat).length ≤ 64 := by
    simp only [rowsB, List.mem_cons, List.not_mem_nil, or_false] at h
    obtain rfl | rfl | rfl | rfl : k = 0 ∨ k = 1 ∨ k = 2 ∨ k = 3 := by omega
    all_goals rcases h with rfl | rfl | rfl | rfl | rfl | rfl | rfl | rfl | rfl
    all_goals exact ⟨by decide +kernel, by decide +kernel⟩
  refine rep_rows (k := 3) (m := 3) (fun ws hw => ?_) (by decide) (by decide) (by omega)
  have := List.all_eq_true.mp hs.1 ws hw
  rw [Bool.and_eq_true, decide_eq_true_eq, List.all_eq_true] at this
  exact ⟨fun w hw => of_decide_eq_true (this.2 w hw), this.1⟩
/-! spoilt words -/
theorem ar36 {n : Nat} : (o n).ar 36 = 3 := ar 36 c36 rfl
theorem ar34 {n : Nat} : (o n).ar 34 = 2 := ar 34 c34 rfl
theorem put0 {n : Nat} {t x : DL.P} {G : Sto} : (o (n + 1)).fn 36 [.p t, .p (.lst []), .p x] G = .ok (.p x) G := by kernel_rfl
def noneItems : List DL.P := [.tup [], .tup [], .tup [.int 0], .lst [], .non, .tup [], .tup [.tup []]]
theorem item0 {n : Nat} {b : Int} {R G : Sto} (h : Pn b R G) (hb : b < 900) : ∃ x G', x ∈ noneItems ∧ (o (n + 3)).fn 34 [.ref 0, .p (.tup [])] G = .ok (.p x) G' ∧ Pn (b + 1) R G' := by
  obtain ⟨x, G', hx, e, p⟩ := pick (n := n) (xs := noneItems) h (by omega) (by decide) (by decide)
  refine ⟨x, G', hx, ?_, p⟩
  simp only [noneItems] at e
  have ii : ∀ G, biF (o (n + 2)).ask .isi G [.p (.tup []), .p (.ty "tuple")] = some (.p (.bl true)) := fun G => by kernel_rfl
  have c1 : ∀ G, cutD G none (some (-1)) (.p (.tup [])) = some (.p (.tup [])) := fun G => by kernel_rfl
  have c2 : ∀ G, cutD G none (some 1) (.p (.tup [])) = some (.p (.tup [])) := fun G => by kernel_rfl
  have a1 : ∀ G, binD .Add G (.p (.tup [])) (.p (.tup [])) = some (.p (.tup [])) := fun G => by kernel_rfl
  have a2 : ∀ G, binD .Add G (.p (.tup [])) (.p (.tup [.int 0])) = some (.p (.tup [.int 0])) := fun G => by kernel_rfl
  rw [fn_at (F := c34) rfl, x_fn, c34]
  simp [ar19, ii, truD, c1, c2, a1, a2, mkTup, mkLst, e]
def intItems (w : Int) : List DL.P := [.int (w + 1), .int (w - 1), .int (-w), .non, .tup [.int w, .int 1], .bl true, .int (2 * w + 3)]
theorem ar20' {n : Nat} : (o n).ar 20 = 1 := ar20
theorem itemI {n : Nat} {b w : Int} {R G : Sto} (h : Pn b R G) (hb : b < 900) (hw : 0 ≤ w ∧ w ≤ 5) : ∃ x G', x ∈ intItems w ∧ (o (n + 3)).fn 34 [.ref 0, .p (.int w)] G = .ok (.p x) G' ∧ Pn (b + 1) R G' := by
  obtain ⟨x, G', hx, e, p⟩ := pick (n := n) (xs := intItems w) h (by omega) (by simp [intItems]) (by simp [intItems])
  refine ⟨x, G', hx, ?_, p⟩
  simp only [intItems] at e
  have ii : ∀ G, biF (o (n + 2)).ask .isi G [.p (.int w), .p (.ty "tuple")] = some (.p (.bl false)) := fun G => by kernel_rfl
  have lw : ∀ G, _ := lwhole (n := n + 1) (x := .int w) rfl
  have m2 : mulOk 2 w = true := pmul_ok (by decide) (by omega)
  rw [fn_at (F := c34) rfl, x_fn, c34]
  simp [-x_call0, x_callP, ar19, ar20, ii, truD, lw, isI, m2, mkTup, mkLst, e]
/-- a word with one item put anew -/
def putW (ws : List Int) (k : Nat) (x : DL.P) : DL.P := .tup ((is ws).take k ++ [x] ++ (is ws).drop (k + 1))
theorem add_tups {a b : List DL.P} {G : Sto} (h : a.length + b.length ≤ 16777216) : binD .Add G (.p (.tup a)) (.p (.tup b)) = some (.p (.tup (a ++ b))) := by
  show (if a.length + b.length ≤ lim then some (D.p (.tup (a ++ b))) else none) = _
  rw [if_pos (by show _ ≤ 16777216; exact h)]
theorem cut_take {xs : List DL.P} {i : Int} {G : Sto} (h0 : 0 ≤ i) (h : i ≤ xs.length) : cutD G none (some i) (.p (.tup xs)) = some (.p (.tup (xs.take i.toNat))) := by
  show some (D.p (.tup (cutL xs none (some i)))) = _
  obtain ⟨k, rfl⟩ := Int.eq_ofNat_of_zero_le h0
  unfold cutL
  rw [HT.sIx_nat, HT.sIx_none, Nat.min_eq_left (by omega), List.drop_zero, Nat.sub_zero, Int.toNat_natCast]
theorem putK {n : Nat} {ws : List Int} {k m : Nat} {x : DL.P} {G : Sto} (hk : k < ws.length) (hl : ws.length ≤ 200) (hG : G[m]? = some (.lst [.p (.int k)])) : (o (n + 2)).fn 36 [.p (.tup (is ws)), .ref m, .p x] G = .ok (.p (putW ws k x)) G := by
  have e0 : cmpA .Eq G (.ref m) (.p (.lst [])) = some (.p (.bl false)) := by
    unfold cmpA cmpD cmpB eqD eqS pyD
    simp only [hG]
    rfl
  have e1 : ixD G (.ref m) (.p (.int 0)) = some (.p (.int k)) := by
    unfold ixD dgetD
    simp only [hG]
    unfold atD rowL
    simp only [hG]
    rfl
  have e2 : atI (is ws) (k : Int) = some (.int ws[k]) := by
    rw [atI_nat (by omega) (by simp; omega), Int.toNat_natCast, is, List.getElem?_map, List.getElem?_eq_getElem hk]
    rfl
  have e3 : cutD G (some 1) none (.ref m) = some (.p (.lst [])) := by
    unfold cutD rowL
    simp only [hG]
    rfl
  have t1 := cut_take (xs := is ws) (i := (k : Int)) (G := G) (by omega) (by simp; omega)
  have t2 := cut_drop (xs := is ws) (i := (k : Int) + 1) (G := G) (by omega) (by simp; omega)
  have t3 : ((k : Int) + 1).toNat = k + 1 := by omega
  rw [t3] at t2
  have p0 := put0 (n := n) (t := .int ws[k]) (x := x) (G := G)
  rw [fn_at (F := c36) rfl, x_fn, c36]
  have a1 := add_tups (a := (is ws).take k) (b := [x]) (G := G) (by simp; omega)
  have a2 := add_tups (a := (is ws).take k ++ [x]) (b := (is ws).drop (k + 1)) (G := G) (by simp; omega)
  simp only [is] at e2 t1 t2 p0 a1 a2
  simp [-x_call0, x_callP, ar36, e0, e1, e2, e3, t1, t2, p0, mkTup, mkLst, a1, a2, putW, -List.map_take, -List.map_drop]
end K12

set_option Elab.async false
set_option linter.all false
set_option maxRecDepth 100000
set_option maxHeartbeats 4000000
namespace K12
open PySem DL L2
def sb : mSs := (.cons (.ife (.or (.cons (.not (.tru (.bi .isi (.cons (.var 3) (.cons (.typ "tuple") .nil))))) (.cons (.cmp .Eq (.var 3) (.tup .nil)) .nil))) (.cons .brk .nil) .nil) (.cons (.exp (.app (.var 2) (.call 18 1 (.cons (.var 0) (.cons (.bi .len (.cons (.var 3) .nil)) .nil))))) (.cons (.asg (.v 3) (.ix (.var 3) (.ix (.var 2) (.neg (.lit (.int 1)))))) .nil)))
theorem pn_look {b : Int} {R G : Sto} {x : MO} (h : Pn b (R ++ [x]) G) : G[R.length + 1]? = some x := by
  obtain ⟨_, _, _, _, _, rfl, _⟩ := h
  simp
theorem pn_set {b : Int} {R G : Sto} {x y : MO} (h : Pn b (R ++ [x]) G) : Pn b (R ++ [y]) (G.set (R.length + 1) y) := by
  obtain ⟨ns, at_, dg, c, f, rfl, h⟩ := h
  exact ⟨ns, at_, dg, c, f, by simp, h⟩
theorem pn_new {b : Int} {R G : Sto} {x : MO} (h : Pn b R G) : G.length = R.length + 1 ∧ Pn b (R ++ [x]) (G ++ [x]) := by
  refine ⟨?_, h.more⟩
  obtain ⟨_, _, _, _, _, rfl, _⟩ := h
  rfl
abbrev sr (ws : List Int) (m : Nat) (here : DL.P) (l : Option D) : Ro := ⟨[some (.ref 0), some (.p (.tup (is ws))), some (.ref m), some (.p here), l], []⟩
theorem lap_int {n : Nat} {ws : List Int} {m : Nat} {w : Int} {l : Option D} {G : Sto} : evSs (o (n + 1)) sb (sr ws m (.int w) l) G = .bk (sr ws m (.int w) l) G := by kernel_rfl
theorem lap_nil {n : Nat} {m : Nat} {l : Option D} {G : Sto} : evSs (o (n + 1)) sb (sr [] m (.tup []) l) G = .bk (sr [] m (.tup []) l) G := by kernel_rfl
theorem lap_one {n : Nat} {b : Int} {ws : List Int} {l : Option D} {R G : Sto} (h : Pn b (R ++ [.lst []]) G) (hb : b < 900) (hw : ws ≠ []) (hl : ws.length ≤ 200) : ∃ (k : Nat) (hk : k < ws.length) (G' : Sto), evSs (o (n + 1)) sb (sr ws (R.length + 1) (.tup (is ws)) l) G = .nx (sr ws (R.length + 1) (.int ws[k]) l) G' ∧ Pn (b + 1) (R ++ [.lst [.p (.int k)]]) G' := by
  have hp : 0 < ws.length := List.length_pos_iff.mpr hw
  obtain ⟨i, G1, e, i0, i1, p⟩ := draw (n := n) (m := ws.length) h (by omega) (by omega) (by omega)
  obtain ⟨k, rfl⟩ := Int.eq_ofNat_of_zero_le i0
  have hk : k < ws.length := by omega
  refine ⟨k, hk, _, ?_, pn_set (y := .lst [.p (.int k)]) p⟩
  have lk := pn_look p
  have lk0 := pn_look h
  have p2 := pn_set (y := .lst [.p (.int k)]) p
  have lk2 := pn_look p2
  have ii : ∀ G, biF (o (n + 1)).ask .isi G [.p (.tup (is ws)), .p (.ty "tuple")] = some (.p (.bl true)) := fun G => by kernel_rfl
  have q0 := eq_tupsA (ws := ws) (vs := []) (G := G)
  have hd : decide (ws = []) = false := decide_eq_false hw
  rw [hd] at q0
  have il : isLst G (.ref (R.length + 1)) = true := by unfold isLst; simp only [lk0]
  have ap : appD G1 (.ref (R.length + 1)) (.p (.int k)) = some (G1.set (R.length + 1) (.lst [.p (.int k)])) := by
    unfold appD
    simp only [lk]
    rfl
  have x1 : ixD (G1.set (R.length + 1) (.lst [.p (.int k)])) (.ref (R.length + 1)) (.p (.int (-1))) = some (.p (.int k)) := by
    unfold ixD dgetD
    simp only [lk2]
    unfold atD rowL
    simp only [lk2]
    rfl
  have x2 : atI (is ws) (k : Int) = some (.int ws[k]) := by
    rw [atI_nat (by omega) (by simp; omega), Int.toNat_natCast, is, List.getElem?_map, List.getElem?_eq_getElem hk]
    rfl
  simp only [is, List.map_nil] at q0
  unfold sb
  simp [ii, truD, q0, mkTup, ar18, e, il, ap, x1, x2]
theorem put_nil {n : Nat} {t x : DL.P} {m : Nat} {G : Sto} (hG : G[m]? = some (.lst [])) : (o (n + 1)).fn 36 [.p t, .ref m, .p x] G = .ok (.p x) G := by
  have e0 : cmpA .Eq G (.ref m) (.p (.lst [])) = some (.p (.bl true)) := by
    unfold cmpA cmpD cmpB eqD eqS pyD
    simp only [hG]
    rfl
  rw [fn_at (F := c36) rfl, x_fn, c36]
  simp [e0, mkLst]
theorem ar35 {n : Nat} : (o n).ar 35 = 2 := ar 35 c35 rfl
theorem okV_put {ws : List Int} {k : Nat} {x : DL.P} (hl : ws.length ≤ 200) (hx : okI x = true) : okV (putW ws k x) = true := by
  show (((is ws).take k ++ [x] ++ (is ws).drop (k + 1)).all okI && decide (((is ws).take k ++ [x] ++ (is ws).drop (k + 1)).length ≤ 1000)) = true
  rw [Bool.and_eq_true, decide_eq_true_eq, List.all_eq_true]
  refine ⟨fun y hy => ?_, by simp; omega⟩
  simp only [List.mem_append, List.mem_singleton] at hy
  rcases hy with (hy | rfl) | hy
  · obtain ⟨w, _, rfl⟩ := List.mem_map.mp (List.mem_of_mem_take hy); rfl
  · exact hx
  · obtain ⟨w, _, rfl⟩ := List.mem_map.mp (List.mem_of_mem_drop hy); rfl
theorem spoilt {n : Nat} {b : Int} {ws : List Int} {R G : Sto} (h : Pn b R G) (hb : b < 800) (hl : ws.length ≤ 200) (hs : ∀ w ∈ ws, 0 ≤ w ∧ w ≤ 5) : ∃ v R' G', (o (n + 4)).fn 35 [.ref 0, .p (.tup (is ws))] G = .ok (.p v) G' ∧ okV v = true ∧ Pn (b + 4) R' G' := by
  obtain ⟨hm, h1⟩ := pn_new (x := .lst []) h
  obtain ⟨L, G1, e1, L0, L1, p1⟩ := draw (n := n + 2) (m := 6) h1 (by omega) (by decide) (by decide)
  have ok : okRng (1 + L) = true := okRng_of (by omega) (by omega)
  obtain ⟨q, hq⟩ : ∃ q : Nat, (1 + L).toNat = q + 1 := ⟨L.toNat, by omega⟩
  have hr : rangeI 0 (1 + L).toNat = .p (.int 0) :: ((List.range q).map fun i => D.p (.int (0 + ((i + 1 : Nat) : Int)))) := by
    unfold rangeI
    rw [hq, List.range_succ_eq_map]
    simp
  obtain ⟨J, hJ⟩ : ∃ J : Int, J = 1 + L := ⟨_, rfl⟩
  rw [← hJ] at ok hr
  rw [fn_at (F := c35) rfl, x_fn]
  by_cases hw : ws = []
  · subst hw
    obtain ⟨x, G2, hx, e2, p2⟩ := item0 (n := n) p1 (by omega)
    have lk := pn_look p2
    have pu := put_nil (n := n + 2) (t := .tup []) (x := x) lk
    have lp : forL (.v 4) (evSs (o (n + 3)) sb) (rangeI 0 J.toNat) (sr [] (R.length + 1) (.tup []) none) G1 = .nx (sr [] (R.length + 1) (.tup []) (some (.p (.int 0)))) G1 := by
      rw [hr, forL_cons]
      have := lap_nil (n := n + 2) (m := R.length + 1) (l := some (.p (.int 0))) (G := G1)
      simp only [x_b1, x_set]
      simp only [sr, is, List.map_nil] at this ⊢
      simp [this]
    refine ⟨x, _, G2, ?_, ?_, p2.mono (by omega)⟩
    · simp only [sr, sb, is, List.map_nil] at lp
      rw [c35]
      simp [ar18, ar34, ar36, hm, e1, ← hJ, ok, lp, e2, pu]
    · simp only [noneItems, List.mem_cons, List.not_mem_nil, or_false] at hx
      rcases hx with rfl | rfl | rfl | rfl | rfl | rfl | rfl <;> rfl
  · obtain ⟨k, hk, G2, e2, p2⟩ := lap_one (n := n + 2) (l := some (.p (.int 0))) p1 (by omega) hw hl
    have hwk := hs ws[k] (List.getElem_mem hk)
    obtain ⟨x, G3, hx, e3, p3⟩ := itemI (n := n) p2 (by omega) hwk
    have lk := pn_look p3
    have pu := putK (n := n + 1) (x := x) hk hl lk
    have lp : ∃ l, forL (.v 4) (evSs (o (n + 3)) sb) (rangeI 0 J.toNat) (sr ws (R.length + 1) (.tup (is ws)) none) G1 = .nx (sr ws (R.length + 1) (.int ws[k]) l) G2 := by
      rw [hr, forL_cons]
      simp only [sr] at e2 ⊢
      simp only [x_b1, x_set]
      cases q with
      | zero => exact ⟨some (.p (.int 0)), by simp [e2]⟩
      | succ q =>
        have := lap_int (n := n + 2) (ws := ws) (m := R.length + 1) (w := ws[k]) (l := some (.p (.int 1))) (G := G2)
        simp only [sr] at this
        refine ⟨some (.p (.int 1)), ?_⟩
        rw [List.range_succ_eq_map]
        simp [e2, forL_cons, this]
    obtain ⟨l, lp⟩ := lp
    refine ⟨putW ws k x, _, G3, ?_, okV_put hl ?_, p3.mono (by omega)⟩
    · simp only [sr, sb] at lp
      rw [c35]
      simp [ar18, ar34, ar36, hm, e1, ← hJ, ok, lp, e3, pu]
    · simp only [intItems, List.mem_cons, List.not_mem_nil, or_false] at hx
      rcases hx with rfl | rfl | rfl | rfl | rfl | rfl | rfl <;> rfl
end K12

set_option Elab.async false
set_option linter.all false
set_option maxRecDepth 100000
set_option maxHeartbeats 4000000
namespace K12
open PySem DL L2
theorem lis_word {n : Nat} {Lp : List DL.P} {M : DL.P} {sg : List Int} {bk : Int → Int} {v : DL.P} (K : Lt Lp M sg bk) (h : okV v = true) : PF (n + 2) 32 [.p (.lst Lp), .p v] (.bl (isW sg v)) := by
  intro G
  have ls := K.lsigns n []
  rw [fn_at (F := c32) rfl, x_fn, c32]
  cases v with
  | tup xs =>
    have h : (xs.all okI && decide (xs.length ≤ 1000)) = true := h
    rw [Bool.and_eq_true, decide_eq_true_eq] at h
    have hl : xs.length ≤ 16777216 := by omega
    have hc : compL (.v 3) (evT (o (n + 1)) .yes) (ev (o (n + 1)) (.andV (.cons (.call 20 0 (.cons (.var 3) .nil)) (.cons (.cmp .In (.var 3) (.var 2)) .nil)))) (xs.map D.p) ⟨[some (.p (.lst Lp)), some (.p (.tup xs)), some (.p (.lst (is sg))), none], []⟩ [] = some ((xs.map D.p).map fun d => match d with
        | .p x => .p (.bl (isIn sg x))
        | d => d, []) := by
      refine compL_pure fun d hd => ?_
      obtain ⟨x, hx, rfl⟩ := List.mem_map.mp hd
      refine ⟨⟨[some (.p (.lst Lp)), some (.p (.tup xs)), some (.p (.lst (is sg))), some (.p x)], []⟩, rfl, rfl, ?_⟩
      have hw := lwhole (n := n) (List.all_eq_true.mp h.1 x hx) []
      cases x with
      | int i => simp [-x_call0, x_callP, ar20, hw, isI, isIn, in_lst]
      | non => simp [-x_call0, x_callP, ar20, hw, isI, isIn]
      | bl b => simp [-x_call0, x_callP, ar20, hw, isI, isIn]
      | str s => simp [-x_call0, x_callP, ar20, hw, isI, isIn]
      | tup s => simp [-x_call0, x_callP, ar20, hw, isI, isIn]
      | _ => have := List.all_eq_true.mp h.1 _ hx; cases this
    have hm : ((xs.map D.p).map fun d => match d with
        | .p x => D.p (.bl (isIn sg x))
        | d => d) = (xs.map fun x => DL.P.bl (isIn sg x)).map D.p := by simp [Function.comp_def]
    rw [hm] at hc
    have ii : ∀ G, biF (o (n + 1)).ask .isi G [.p (.tup xs), .p (.ty "tuple")] = some (.p (.bl true)) := fun G => by kernel_rfl
    have ma := all_bls (xs := xs) (f := isIn sg) (G := [])
    simp only [is] at hc
    have mk := mk_lst (xs := xs.map fun x => DL.P.bl (isIn sg x))
    simp only [start0, List.map_cons, List.map_nil, List.length_cons, List.length_nil]
    simp [-x_call0, x_callP, ar26, ls, ii, wipeR, iterD, -List.map_map]
    rw [hc]
    simp [hl, mk, ma, isW, -List.map_map]
  | lst xs =>
    have ii : ∀ G, biF (o (n + 1)).ask .isi G [.p (.lst xs), .p (.ty "tuple")] = some (.p (.bl false)) := fun G => by kernel_rfl
    simp [-x_call0, x_callP, ar26, ls, ii, isW]
  | non =>
    have ii : ∀ G, biF (o (n + 1)).ask .isi G [.p .non, .p (.ty "tuple")] = some (.p (.bl false)) := fun G => by kernel_rfl
    simp [-x_call0, x_callP, ar26, ls, ii, isW]
  | int i =>
    have ii : ∀ G, biF (o (n + 1)).ask .isi G [.p (.int i), .p (.ty "tuple")] = some (.p (.bl false)) := fun G => by kernel_rfl
    simp [-x_call0, x_callP, ar26, ls, ii, isW]
  | str s =>
    have ii : ∀ G, biF (o (n + 1)).ask .isi G [.p (.str s), .p (.ty "tuple")] = some (.p (.bl false)) := fun G => by kernel_rfl
    simp [-x_call0, x_callP, ar26, ls, ii, isW]
  | _ => cases h

section
variable {Lp : List DL.P} {M : DL.P} {sg : List Int} {bk : Int → Int}
theorem is_word {n : Nat} {v : DL.P} (K : Lt Lp M sg bk) (h : okV v = true) : PF (n + 4) 11 [.p M, .p v] (.bl (isW sg v)) := by
  intro G
  have e0 := K.need (n + 2) []
  have e1 := K.signs (n + 1) []
  have e2 := word_by (n := n + 1) (sg := sg) h []
  rw [fn_at (F := c11) rfl, x_fn, c11]
  simp [-x_call0, x_callP, ar5, ar6, ar9, e0, e1, e2]
theorem says {n : Nat} {a : Bool} : PF (n + 1) 30 [.p (.bl a), .p (.bl a)] (.bl true) := fun G => by cases a <;> kernel_rfl
theorem tn_append {ws vs : List Int} : tn bk (ws ++ vs) = tn bk vs ++ tn bk ws := by simp [tn]
theorem ar21 {n : Nat} : (o n).ar 21 = 2 := ar 21 c21 rfl
theorem handed {n : Nat} {b : Int} {ws : List Int} {R G : Sto} (h : Pn b R G) (hb : b < 900) : ∃ x G', (x = .tup (is ws) ∨ x = .lst (is ws)) ∧ (o (n + 3)).fn 21 [.ref 0, .p (.tup (is ws))] G = .ok (.p x) G' ∧ Pn (b + 1) R G' := by
  obtain ⟨x, G', hx, e, p⟩ := pick (n := n) (xs := [.tup (is ws), .lst (is ws)]) h (by omega) (by simp) (by simp)
  refine ⟨x, G', by simpa using hx, ?_, p⟩
  rw [fn_at (F := c21) rfl, x_fn, c21]
  simp [ar19, e, mkLst]
end
end K12

set_option Elab.async false
set_option linter.all false
set_option maxRecDepth 100000
set_option maxHeartbeats 4000000
namespace K12
open PySem DL L2
def tD : mSs := (.cons (.asg (.v 11) (.lst false (.cons (.var 6) (.cons (.bi .list (.cons (.var 6) .nil)) (.cons (.bin .Add (.var 6) (.tup (.cons (.lit (.int 1)) .nil))) (.cons (.bin .Add (.var 6) (.tup (.cons (.bin .Mult (.lit (.int 2)) (.bi .len (.cons (.var 3) .nil))) .nil))) (.cons (.call 35 1 (.cons (.var 1) (.cons (.var 6) .nil))) (.cons (.call 35 1 (.cons (.var 1) (.cons (.var 7) .nil))) (.cons (.lit .non) (.cons (.lit (.int 5)) (.cons (.lit (.str "0")) (.cons (.tup (.cons (.lit (.int 0)) (.cons (.lit (.bl true)) .nil))) (.cons (.tup (.cons (.neg (.lit (.int 1))) .nil)) .nil))))))))))))) (.cons (.ife (.not (.tru (.bi .all (.cons (.comp (.v 12) [("value", 12)] (.gen (.var 11)) .yes (.call 30 0 (.cons (.call 11 0 (.cons (.var 4) (.cons (.var 12) .nil))) (.cons (.call 32 0 (.cons (.var 3) (.cons (.var 12) .nil))) .nil)))) .nil)))) (.cons (.ret (.lit (.bl false))) .nil) .nil) .nil))
def tC : mSs := (.cons (.asg (.v 10) (.call 18 1 (.cons (.var 1) (.cons (.lit (.int 4)) .nil)))) (.cons (.ife (.cmp .NotEq (.bi .repr (.cons (.call 14 0 (.cons (.var 4) (.cons (.var 10) .nil))) .nil)) (.bi .repr (.cons (.bi .tuple (.cons (.call 27 0 (.cons (.var 5) (.cons (.var 10) .nil))) .nil)) .nil))) (.cons (.ret (.lit (.bl false))) .nil) .nil) tD))
def tB : mSs := (.cons (.ife (.or (.cons (.cmp .NotEq (.bi .repr (.cons (.call 12 0 (.cons (.var 4) (.cons (.var 8) .nil))) .nil)) (.bi .repr (.cons (.call 25 0 (.cons (.var 3) (.cons (.var 6) .nil))) .nil))) (.cons (.cmp .NotEq (.call 12 0 (.cons (.var 4) (.cons (.call 12 0 (.cons (.var 4) (.cons (.var 6) .nil))) .nil))) (.var 6)) .nil))) (.cons (.ret (.lit (.bl false))) .nil) .nil) (.cons (.ife (.cmp .NotEq (.call 12 0 (.cons (.var 4) (.cons (.bin .Add (.var 6) (.var 7)) .nil))) (.bin .Add (.call 12 0 (.cons (.var 4) (.cons (.var 7) .nil))) (.call 12 0 (.cons (.var 4) (.cons (.var 6) .nil))))) (.cons (.ret (.lit (.bl false))) .nil) .nil) (.cons (.ife (.cmp .NotEq (.bi .repr (.cons (.call 16 0 (.cons (.var 4) (.cons (.var 8) .nil))) .nil)) (.bi .repr (.cons (.bi .tuple (.cons (.comp (.v 9) [("k", 9)] (.down (.bi .len (.cons (.var 6) .nil)) (.neg (.lit (.int 1))) (.neg (.lit (.int 1)))) .yes (.cut (.var 6) (.some (.var 9)) .none)) .nil)) .nil))) (.cons (.ret (.lit (.bl false))) .nil) .nil) tC)))
def tA : mSs := (.cons (.asg (.v 3) (.call 28 1 (.cons (.var 1) .nil))) (.cons (.asg (.t [(.v 4), (.v 5)]) (.tup (.cons (.call 31 0 (.cons (.var 3) (.cons (.lst false (.cons (.tup .nil) .nil)) .nil))) (.cons (.call 26 0 (.cons (.var 3) .nil)) .nil)))) (.cons (.asg (.t [(.v 6), (.v 7)]) (.tup (.cons (.call 29 1 (.cons (.var 1) (.cons (.var 5) (.cons (.call 18 1 (.cons (.var 1) (.cons (.lit (.int 6)) .nil))) .nil)))) (.cons (.call 29 1 (.cons (.var 1) (.cons (.var 5) (.cons (.call 18 1 (.cons (.var 1) (.cons (.lit (.int 4)) .nil))) .nil)))) .nil)))) (.cons (.asg (.v 8) (.call 21 1 (.cons (.var 1) (.cons (.var 6) .nil)))) tB))))
abbrev lr (s : List Int) (x2 x3 x4 x5 x6 x7 x8 x10 x11 : Option D) : Ro := ⟨[some (.scr s), some (.ref 0), x2, x3, x4, x5, x6, x7, x8, none, x10, x11, none, none, none, none, none], []⟩
section
variable {n : Nat} {bs : List Bool} {s ws vs : List Int} {x2 : Option D}
theorem Wd.sml (h : Wd (sgOf bs) ws) (K : Lt (Lp bs) (MOf bs) (sgOf bs) (bkOf bs)) : ∀ w ∈ ws, 0 ≤ w ∧ w ≤ 5 := fun w hw => K.sml w (h.1 w hw)
theorem sml_of (h : ∀ w ∈ ws, 0 ≤ w ∧ w ≤ 5) : Sml 3 ws := fun w hw => by have := h w hw; omega
theorem okV_tup {xs : List DL.P} (h : xs.all okI = true) (hl : xs.length ≤ 1000) : okV (.tup xs) = true := by
  show (xs.all okI && decide (xs.length ≤ 1000)) = true
  rw [h, decide_eq_true hl]; rfl
theorem is_okI : (is ws).all okI = true := by rw [List.all_map, List.all_eq_true]; exact fun _ _ => rfl
theorem lap_D {b : Int} {R G : Sto} {x8 x10 x11 : Option D} (hbs : bs ∈ rowsB) (hw : Wd (sgOf bs) ws) (hv : Wd (sgOf bs) vs) (h : Pn b R G) (hb : b < 700) (hl : ws.length ≤ 100) (hl2 : vs.length ≤ 100) : ∃ y11 R' G', evSs (o (n + 7)) tD (lr s x2 (some (.p (.lst (Lp bs)))) (some (.p (MOf bs))) (some (.p (.lst (is (sgOf bs))))) (some (.p (.tup (is ws)))) (some (.p (.tup (is vs)))) x8 x10 x11) G = .nx (lr s x2 (some (.p (.lst (Lp bs)))) (some (.p (MOf bs))) (some (.p (.lst (is (sgOf bs))))) (some (.p (.tup (is ws)))) (some (.p (.tup (is vs)))) x8 x10 y11) G' ∧ Pn (b + 8) R' G' := by
  have K := lt_of hbs
  obtain ⟨v1, R1, G1, e1, k1, p1⟩ := spoilt (n := n + 3) h (by omega) (by omega) (hw.sml K)
  obtain ⟨v2, R2, G2, e2, k2, p2⟩ := spoilt (n := n + 3) p1 (by omega) (by omega) (hv.sml K)
  have ml : mulOk 2 ((Lp bs).length : Int) = true := pmul_ok (by decide) (by
    have : (Lp bs).length ≤ 3 := by unfold Lp; simp; omega
    omega)
  obtain ⟨w, hw0⟩ : ∃ w : Int, w = 2 * ((Lp bs).length : Int) := ⟨_, rfl⟩
  let vals : List DL.P := [.tup (is ws), .lst (is ws), .tup (is ws ++ [.int 1]), .tup (is ws ++ [.int w]), v1, v2, .non, .int 5, .str "0", .tup [.int 0, .bl true], .tup [.int (-1)]]
  have ok : ∀ v ∈ vals, okV v = true := by
    intro v hv
    simp only [vals, List.mem_cons, List.not_mem_nil, or_false] at hv
    rcases hv with rfl | rfl | rfl | rfl | rfl | rfl | rfl | rfl | rfl | rfl | rfl
    · exact okV_is (by omega)
    · rfl
    · exact okV_tup (by rw [List.all_append, is_okI]; rfl) (by simp; omega)
    · exact okV_tup (by rw [List.all_append, is_okI]; rfl) (by simp; omega)
    · exact k1
    · exact k2
    · rfl
    · rfl
    · rfl
    · rfl
    · rfl
  have a1 := add_tups (a := is ws) (b := [.int 1]) (G := G) (by simp; omega)
  have a2 := add_tups (a := is ws) (b := [.int w]) (G := G) (by simp; omega)
  have hc : ∀ v12 : List (Option D), v12[3]? = some (some (.p (.lst (Lp bs)))) → v12[4]? = some (some (.p (MOf bs))) → 12 < v12.length → compL (.v 12) (evT (o (n + 7)) .yes) (ev (o (n + 7)) (.call 30 0 (.cons (.call 11 0 (.cons (.var 4) (.cons (.var 12) .nil))) (.cons (.call 32 0 (.cons (.var 3) (.cons (.var 12) .nil))) .nil)))) (vals.map D.p) ⟨v12, []⟩ G2 = some ((vals.map fun _ => DL.P.bl true).map D.p, G2) := by
    intro v12 h3 h4 h12
    have := compL_pure (p := .v 12) (fc := evT (o (n + 7)) .yes) (fe := ev (o (n + 7)) (.call 30 0 (.cons (.call 11 0 (.cons (.var 4) (.cons (.var 12) .nil))) (.cons (.call 32 0 (.cons (.var 3) (.cons (.var 12) .nil))) .nil)))) (ρ := ⟨v12, []⟩) (G := G2) (ds := vals.map D.p) (f := fun _ => D.p (.bl true)) fun d hd => ?_
    · rw [this]; simp
    · obtain ⟨v, hv, rfl⟩ := List.mem_map.mp hd
      refine ⟨⟨v12.set 12 (some (.p v)), []⟩, by simp [h12], rfl, ?_⟩
      have g3 : (v12.set 12 (some (.p v)))[3]? = some (some (.p (.lst (Lp bs)))) := by rw [List.getElem?_set_ne (by decide)]; exact h3
      have g4 : (v12.set 12 (some (.p v)))[4]? = some (some (.p (MOf bs))) := by rw [List.getElem?_set_ne (by decide)]; exact h4
      have g12 : (v12.set 12 (some (.p v)))[12]? = some (some (.p v)) := List.getElem?_set_self h12
      have q1 := is_word (n := n + 3) K (ok v hv) G2
      have q2 := lis_word (n := n + 5) K (ok v hv) G2
      have q3 := says (n := n + 6) (a := isW (sgOf bs) v) G2
      have r11 : (o (n + 7)).ar 11 = 2 := ar 11 c11 rfl
      have r32 : (o (n + 7)).ar 32 = 2 := ar 32 c32 rfl
      have r30 : (o (n + 7)).ar 30 = 2 := ar 30 c30 rfl
      simp only [x_callP, x_es, x_es0, x_var, g3, g4, g12, Option.bind_some, id, x_of, x_bo, List.length_cons, List.length_nil, List.all_cons, List.all_nil, x_pa, r11, r32, r30, and_self, if_true, q1, q2, q3, Bool.and_self]
  have al := all_bls (xs := vals) (f := fun _ => true) (G := G2)
  have al2 : vals.all (fun _ => true) = true := by simp
  rw [al2] at al
  have mk := mk_lst (xs := vals.map fun _ => DL.P.bl true)
  have hc' := hc [some (.scr s), some (.ref 0), x2, some (.p (.lst (Lp bs))), some (.p (MOf bs)), some (.p (.lst (is (sgOf bs)))), some (.p (.tup (is ws))), some (.p (.tup (is vs))), x8, none, x10, some (.p (.lst vals)), none, none, none, none, none] rfl rfl (by simp)
  refine ⟨some (.p (.lst vals)), R2, G2, ?_, p2.mono (by omega)⟩
  unfold tD
  simp only [is] at a1 a2 e1 e2
  have mv : mkLst [D.p (.tup (is ws)), D.p (.lst (is ws)), D.p (.tup (is ws ++ [.int 1])), D.p (.tup (is ws ++ [.int w])), D.p v1, D.p v2, D.p .non, D.p (.int 5), D.p (.str "0"), D.p (.tup [.int 0, .bl true]), D.p (.tup [.int (-1)])] = .p (.lst vals) := mk_lst (xs := vals)
  simp only [is] at mv
  generalize hvv : vals = vals' at hc' al mk mv ⊢
  have vl : vals'.length ≤ 16777216 := by rw [← hvv]; simp [vals]
  simp [-x_call0, a1, a2, e1, e2, ml, ← hw0, ar35, mkTup, mv, wipeR, iterD, -List.map_map]
  rw [hc']
  simp [vl, mk, al, truD, -List.map_map]
theorem ar14 : (o n).ar 14 = 2 := ar 14 c14 rfl
theorem ar27 : (o n).ar 27 = 2 := ar 27 c27 rfl
theorem ar12 : (o n).ar 12 = 2 := ar 12 c12 rfl
theorem ar16 : (o n).ar 16 = 2 := ar 16 c16 rfl
theorem ar25 : (o n).ar 25 = 2 := ar 25 c25 rfl
theorem ar28 : (o n).ar 28 = 1 := ar 28 c28 rfl
theorem ar29 : (o n).ar 29 = 3 := ar 29 c29 rfl
theorem ar31 : (o n).ar 31 = 2 := ar 31 c31 rfl
theorem lap_C {b : Int} {R G : Sto} {x8 x10 x11 : Option D} (hbs : bs ∈ rowsB) (hw : Wd (sgOf bs) ws) (hv : Wd (sgOf bs) vs) (h : Pn b R G) (hb : b < 600) (hl : ws.length ≤ 100) (hl2 : vs.length ≤ 100) : ∃ y10 y11 R' G', evSs (o (n + 7)) tC (lr s x2 (some (.p (.lst (Lp bs)))) (some (.p (MOf bs))) (some (.p (.lst (is (sgOf bs))))) (some (.p (.tup (is ws)))) (some (.p (.tup (is vs)))) x8 x10 x11) G = .nx (lr s x2 (some (.p (.lst (Lp bs)))) (some (.p (MOf bs))) (some (.p (.lst (is (sgOf bs))))) (some (.p (.tup (is ws)))) (some (.p (.tup (is vs)))) x8 y10 y11) G' ∧ Pn (b + 9) R' G' := by
  obtain ⟨k, G1, e1, k0, k4, p1⟩ := draw (n := n + 6) (m := 4) h (by omega) (by decide) (by decide)
  obtain ⟨y11, R2, G2, e2, p2⟩ := lap_D (n := n) (s := s) (x2 := x2) (x8 := x8) (x10 := some (.p (.int k))) (x11 := x11) hbs hw hv p1 (by omega) hl hl2
  refine ⟨some (.p (.int k)), y11, R2, G2, ?_, p2.mono (by omega)⟩
  have q1 := (words_of (n := n + 3) hbs k0 k4).1 G1
  have q2 := (words_of (n := n + 6) hbs k0 k4).2 G1
  have q3 := words_rep (G := G1) hbs k0 k4
  rw [← e2]
  unfold tC
  simp [-x_call0, x_callP, ar18, e1, ar14, ar27, q1, q2, q3, -List.map_map]
theorem lap_B {b : Int} {R G : Sto} {x : DL.P} {x10 x11 : Option D} (hbs : bs ∈ rowsB) (hw : Wd (sgOf bs) ws) (hv : Wd (sgOf bs) vs) (hx : x = .tup (is ws) ∨ x = .lst (is ws)) (h : Pn b R G) (hb : b < 600) (hl : ws.length ≤ 6) (hl2 : vs.length ≤ 6) : ∃ y10 y11 R' G', evSs (o (n + 7)) tB (lr s x2 (some (.p (.lst (Lp bs)))) (some (.p (MOf bs))) (some (.p (.lst (is (sgOf bs))))) (some (.p (.tup (is ws)))) (some (.p (.tup (is vs)))) (some (.p x)) x10 x11) G = .nx (lr s x2 (some (.p (.lst (Lp bs)))) (some (.p (MOf bs))) (some (.p (.lst (is (sgOf bs))))) (some (.p (.tup (is ws)))) (some (.p (.tup (is vs)))) (some (.p x)) y10 y11) G' ∧ Pn (b + 9) R' G' := by
  have K := lt_of hbs
  obtain ⟨y10, y11, R2, G2, e2, p2⟩ := lap_C (n := n) (s := s) (x2 := x2) (x8 := some (.p x)) (x10 := x10) (x11 := x11) hbs hw hv h hb (by omega) (by omega)
  refine ⟨y10, y11, R2, G2, ?_, p2⟩
  have hwv : Wd (sgOf bs) (ws ++ vs) := ⟨fun w hh => by
    rcases List.mem_append.mp hh with z | z
    · exact hw.1 w z
    · exact hv.1 w z, by rw [List.length_append]; omega⟩
  have t1 := turned (n := n + 2) K hw hx G
  have t2 := lback (n := n + 5) K hw G
  have t3 := turned (n := n + 2) K hw (.inl rfl) G
  have t4 := turned (n := n + 2) K (hw.tn K) (.inl rfl) G
  rw [tn_tn K hw] at t4
  have t5 := turned (n := n + 2) K hwv (.inl rfl) G
  have t6 := turned (n := n + 2) K hv (.inl rfl) G
  have tl : (3 + 1) * (tn (bkOf bs) ws).length ≤ 8000 := by simp [tn]; omega
  have r1 := rep_ints (G := G) (sml_of ((hw.tn K).sml K)) (by decide) (by decide) tl
  have a1 := add_tups (a := is ws) (b := is vs) (G := G) (by simp; omega)
  have a2 := add_tups (a := is (tn (bkOf bs) vs)) (b := is (tn (bkOf bs) ws)) (G := G) (by simp [tn]; omega)
  have ia : ∀ u v : List Int, is u ++ is v = is (u ++ v) := fun u v => by simp [is]
  rw [ia] at a1 a2
  rw [← tn_append] at a2
  have n1 := ne_tups (ws := ws) (vs := ws) (G := G)
  have n2 := ne_tups (ws := tn (bkOf bs) (ws ++ vs)) (vs := tn (bkOf bs) (ws ++ vs)) (G := G)
  have f1 := ends_of (n := n + 2) K hw hx G
  have okl : okRng (ws.length : Int) = true := okRng_of (by omega) (by omega)
  have f2 := lends (n := n + 7) (ws := ws) (v := (lr s x2 (some (.p (.lst (Lp bs)))) (some (.p (MOf bs))) (some (.p (.lst (is (sgOf bs))))) (some (.p (.tup (is ws)))) (some (.p (.tup (is vs)))) (some (.p x)) x10 x11).v) (G := G) (by omega) rfl (by simp)
  have f3 : (ends ws).length ≤ 16777216 := by unfold ends; simp; omega
  have f4 := mk_lst (xs := rr (ends ws))
  have f5 := rep_rows (k := 3) (m := 6) (wss := ends ws) (G := G) (fun us hu => by
    obtain ⟨k, _, rfl⟩ := List.mem_map.mp hu
    exact ⟨fun w hh => sml_of (hw.sml K) w (List.mem_of_mem_drop hh), by simp; omega⟩) (by decide) (by decide) (by unfold ends; simp; omega)
  rw [← e2]
  have t2 : pureR ((o (n + 7)).fn 25 [.p (.lst (Lp bs)), .p (.tup (is ws))] []) G = .ok (.p (.tup (is (tn (bkOf bs) ws)))) G := t2
  obtain ⟨T3, hT3⟩ : ∃ T, T = tn (bkOf bs) (ws ++ vs) := ⟨_, rfl⟩
  obtain ⟨T1, hT1⟩ : ∃ T, T = tn (bkOf bs) ws := ⟨_, rfl⟩
  obtain ⟨T2, hT2⟩ : ∃ T, T = tn (bkOf bs) vs := ⟨_, rfl⟩
  obtain ⟨W3, hW3⟩ : ∃ T, T = ws ++ vs := ⟨_, rfl⟩
  obtain ⟨E, hE⟩ : ∃ T, T = ends ws := ⟨_, rfl⟩
  obtain ⟨len, hlen⟩ : ∃ T : Int, T = (ws.length : Int) := ⟨_, rfl⟩
  rw [← hT3] at a2 n2 t5
  rw [← hT1] at t1 t2 t3 t4 r1 a2
  rw [← hT2] at t6 a2
  rw [← hW3] at a1 t5
  rw [← hE] at f1 f2 f3 f4 f5
  rw [← hlen] at f2 okl
  simp only [decide_true, Bool.not_true] at n1 n2
  have ok1 : okRng (-1) = true := rfl
  unfold tB
  simp only [lr] at f2
  rw [show len - -1 = len + 1 by omega] at f2
  simp only [is] at t1 t2 t3 t4 t5 t6 a1 a2 n1 n2 r1 f1
  have us : ∀ G : Sto, unD .USub G (.p (.int 1)) = some (.p (.int (-1))) := fun _ => rfl
  simp [-x_call0, x_callP, ar12, ar25, ar16, t1, t2, t3, t4, t5, t6, a1, a2, n1, n2, r1, f1, ← hlen, okl, ok1, wipeR, f5, -List.map_map]
  rw [f2]
  simp [f3, f4, f5, -List.map_map]
theorem lap_A {b : Int} {R G : Sto} {x3 x4 x5 x6 x7 x8 x10 x11 : Option D} (h : Pn b R G) (hb : b < 500) : ∃ bs y5 y6 y7 y8 y10 y11 R' G', bs ∈ rowsB ∧ evSs (o (n + 7)) tA (lr s x2 x3 x4 x5 x6 x7 x8 x10 x11) G = .nx (lr s x2 (some (.p (.lst (Lp bs)))) (some (.p (MOf bs))) y5 y6 y7 y8 y10 y11) G' ∧ Pn (b + 50) R' G' := by
  obtain ⟨bs, G1, hbs, e1, p1⟩ := letters (n := n + 4) h (by omega)
  have K := lt_of hbs
  have q1 := K.model (n + 2) G1
  have q2 := K.lsigns (n + 6) G1
  obtain ⟨a, G2, e2, a0, a1, p2⟩ := draw (n := n + 6) (m := 6) p1 (by omega) (by decide) (by decide)
  obtain ⟨ws, G3, e3, w1, w2, p3⟩ := some_word (n := n + 4) K.sne K.slen p2 (by omega) a0 (by omega)
  obtain ⟨c, G4, e4, c0, c1, p4⟩ := draw (n := n + 6) (m := 4) p3 (by omega) (by decide) (by decide)
  obtain ⟨vs, G5, e5, v1, v2, p5⟩ := some_word (n := n + 4) K.sne K.slen p4 (by omega) c0 (by omega)
  obtain ⟨x, G6, hx, e6, p6⟩ := handed (n := n + 4) (ws := ws) p5 (by omega)
  have hw : Wd (sgOf bs) ws := ⟨w1, by omega⟩
  have hv : Wd (sgOf bs) vs := ⟨v1, by omega⟩
  obtain ⟨y10, y11, R7, G7, e7, p7⟩ := lap_B (n := n) (s := s) (x2 := x2) (x10 := x10) (x11 := x11) hbs hw hv hx p6 (by omega) (by omega) (by omega)
  refine ⟨bs, some (.p (.lst (is (sgOf bs)))), some (.p (.tup (is ws))), some (.p (.tup (is vs))), some (.p x), y10, y11, R7, G7, hbs, ?_, p7.mono (by omega)⟩
  rw [← e7]
  unfold tA
  simp [-x_call0, x_callP, ar28, ar31, ar26, ar18, ar29, ar21, e1, e2, e3, e4, e5, e6, q1, q2, mkTup, mkLst, -List.map_map]
end
end K12

set_option Elab.async false
set_option linter.all false
set_option maxRecDepth 100000
set_option maxHeartbeats 4000000
namespace K12
open PySem DL L2
def lawT : mSs := (.cons (.frz [4, 13, 14] (.asg (.v 16) (.lst false (.cons (.tup (.cons (.lam 0 [13, 14]) (.cons (.tup (.cons (.lit (.str "unlike")) (.cons (.lit (.str "model")) .nil))) .nil))) (.cons (.tup (.cons (.lam 1 [4, 14]) (.cons (.tup (.cons (.lit (.str "row")) (.cons (.var 14) .nil))) .nil))) .nil))))) (.cons (.frz [15] (.asg (.v 16) (.bin .Add (.var 16) (.lst false (.cons (.tup (.cons (.lam 2 [13, 15]) (.cons (.tup (.cons (.lit (.str "unlike")) (.cons (.lit (.str "model")) .nil))) .nil))) (.cons (.tup (.cons (.lam 3 [4, 15]) (.cons (.tup (.cons (.lit (.str "number")) (.cons (.lit (.str "length")) (.cons (.var 15) .nil)))) .nil))) .nil)))))) (.cons (.ret (.call 23 2 (.cons (.bin .Add (.var 16) (.lst false (.cons (.tup (.cons (.lam 4 [4, 14]) (.cons (.tup (.cons (.lit (.str "row")) (.cons (.var 14) .nil))) .nil))) (.cons (.tup (.cons (.lam 5 [13, 14]) (.cons (.tup (.cons (.lit (.str "unlike")) (.cons (.lit (.str "model")) .nil))) .nil))) .nil)))) .nil))) .nil)))
def lawB : mSs := (.cons (.asg (.v 1) (.call 17 1 (.cons (.var 0) .nil))) (.cons (.for_ (.v 2) (.range1 (.lit (.int 3))) tA) (.cons (.asg (.t [(.v 13), (.v 14)]) (.tup (.cons (.call 19 1 (.cons (.var 1) (.cons (.lst false (.cons (.lit .non) (.cons (.lit (.int 5)) (.cons (.var 3) .nil)))) .nil))) (.cons (.call 33 1 (.cons (.var 1) (.cons (.var 3) .nil))) .nil)))) (.cons (.asg (.v 15) (.call 19 1 (.cons (.var 1) (.cons (.lst false (.cons (.lit .non) (.cons (.neg (.lit (.int 1))) (.cons (.lit (.int 4)) (.cons (.lit (.bl true)) (.cons (.lit (.str "1")) (.cons (.tup (.cons (.lit (.int 1)) (.cons (.lit (.int 1)) .nil))) .nil))))))) .nil)))) lawT))))
theorem body_eq : cl.body = lawB := rfl
def bads (bs : List Bool) : List DL.P := [.non, .int 5, .str "0", .tup [.int (2 * ((Lp bs).length : Nat))], .tup [.int (-1)], .tup [.bl true], .tup [.str "0"], .tup [.tup [.int 0]], .tup [.non], .lst [.int 0, .int 99]]
def odds (bs : List Bool) : List DL.P := [.non, .int 5, .lst (Lp bs)]
def manys : List DL.P := [.non, .int (-1), .int 4, .bl true, .str "1", .tup [.int 1, .int 1]]
def isT : Res D → Bool
  | .ok (.p (.bl true)) _ => true
  | _ => false
theorem isT_res {r : Res D} (h : isT r = true) : ∃ G', r = .ok (.p (.bl true)) G' := by
  unfold isT at h
  split at h
  · exact ⟨_, rfl⟩
  · exact absurd h (by decide)
abbrev tr (s : List Int) (x2 x3 x4 x5 x6 x7 x8 x10 x11 : Option D) (a b c : DL.P) : Ro := ⟨[some (.scr s), some (.ref 0), x2, x3, x4, x5, x6, x7, x8, none, x10, x11, none, some (.p a), some (.p b), some (.p c), none], []⟩
def ttext : mE := (.cmp .Eq (.bi .repr (.cons (.call 22 1 (.cons (.var 1) .nil)) .nil)) (.bi .repr (.cons (.var 2) .nil)))
def itm (l : Nat) (cs : List DL.P) (due : DL.P) : D := .tup [.lam l cs, .p due]
def isB : Res D → Bool
  | .ok (.p (.bl true)) [] => true
  | _ => false
theorem isB_eq {r : Res D} (h : isB r = true) : r = .ok (.p (.bl true)) [] := by
  unfold isB at h
  split at h
  · rfl
  · cases h
def okIt (l : Nat) (cs : List DL.P) (due : DL.P) : Prop := ∀ T : Option D, isB (ev (o 59) ttext ⟨[T, some (.lam l cs), some (.p due)], []⟩ []) = true
abbrev UU : DL.P := .tup [.str "unlike", .str "model"]
theorem it_odd {bs : List Bool} {a b : DL.P} (ha : a ∈ odds bs) : okIt 0 [a, b] UU ∧ okIt 2 [a, b] UU ∧ okIt 5 [a, b] UU := by
  simp only [odds, List.mem_cons, List.not_mem_nil, or_false] at ha
  rcases ha with rfl | rfl | rfl <;> exact ⟨fun T => by kernel_rfl, fun T => by kernel_rfl, fun T => by kernel_rfl⟩
theorem it_bad {bs : List Bool} {b : DL.P} (hbs : bs ∈ rowsB) (hb : b ∈ bads bs) : okIt 1 [MOf bs, b] (.tup [.str "row", b]) ∧ okIt 4 [MOf bs, b] (.tup [.str "row", b]) := by
  simp only [rowsB, List.mem_cons, List.not_mem_nil, or_false] at hbs
  simp only [bads, List.mem_cons, List.not_mem_nil, or_false] at hb
  rcases hbs with rfl | rfl | rfl | rfl | rfl | rfl | rfl | rfl | rfl <;> rcases hb with rfl | rfl | rfl | rfl | rfl | rfl | rfl | rfl | rfl | rfl <;> exact ⟨fun T => by kernel_rfl, fun T => by kernel_rfl⟩
theorem it_many {bs : List Bool} {c : DL.P} (hbs : bs ∈ rowsB) (hc : c ∈ manys) : okIt 3 [MOf bs, c] (.tup [.str "number", .str "length", c]) := by
  simp only [rowsB, List.mem_cons, List.not_mem_nil, or_false] at hbs
  simp only [manys, List.mem_cons, List.not_mem_nil, or_false] at hc
  rcases hbs with rfl | rfl | rfl | rfl | rfl | rfl | rfl | rfl | rfl <;> rcases hc with rfl | rfl | rfl | rfl | rfl | rfl <;> exact fun T => by kernel_rfl
def TRs (M a b c : DL.P) : List D := [itm 0 [a, b] UU, itm 1 [M, b] (.tup [.str "row", b]), itm 2 [a, c] UU, itm 3 [M, c] (.tup [.str "number", .str "length", c]), itm 4 [M, b] (.tup [.str "row", b]), itm 5 [a, b] UU]
theorem due_ev {bs : List Bool} {a b c : DL.P} (hbs : bs ∈ rowsB) (ha : a ∈ odds bs) (hb : b ∈ bads bs) (hc : c ∈ manys) : (o 60).fn 23 [.lst (TRs (MOf bs) a b c)] [] = .ok (.p (.bl true)) [] := by
  have cc : compL (.t [.v 1, .v 2]) (evT (o 59) .yes) (ev (o 59) ttext) (TRs (MOf bs) a b c) ⟨[some (.lst (TRs (MOf bs) a b c)), none, none], []⟩ [] = some ((TRs (MOf bs) a b c).map fun _ => D.p (.bl true), []) := by
    refine compL_pure fun d hd => ?_
    have fin : ∀ l cs due, d = itm l cs due → okIt l cs due → ∃ ρ1, bindP (.t [.v 1, .v 2]) d ⟨[some (.lst (TRs (MOf bs) a b c)), none, none], []⟩ = some ρ1 ∧ evT (o 59) .yes ρ1 [] = .ok true [] ∧ ev (o 59) ttext ρ1 [] = .ok (.p (.bl true)) [] := by
      rintro l cs due rfl h
      exact ⟨_, rfl, rfl, isB_eq (h _)⟩
    simp only [TRs, List.mem_cons, List.not_mem_nil, or_false] at hd
    rcases hd with rfl | rfl | rfl | rfl | rfl | rfl
    · exact fin _ _ _ rfl (it_odd ha).1
    · exact fin _ _ _ rfl (it_bad hbs hb).1
    · exact fin _ _ _ rfl (it_odd ha).2.1
    · exact fin _ _ _ rfl (it_many hbs hc)
    · exact fin _ _ _ rfl (it_bad hbs hb).2
    · exact fin _ _ _ rfl (it_odd ha).2.2
  rw [fn_at (F := c23) rfl, x_fn, c23]
  unfold ttext at cc
  simp only [start0, List.map_cons, List.map_nil, List.length_cons, List.length_nil]
  simp [wipeR, iterD]
  rw [cc]
  rfl
theorem tail_ev {s : List Int} {x2 x3 x5 x6 x7 x8 x10 x11 : Option D} {G : Sto} {bs : List Bool} {a b c : DL.P} (hbs : bs ∈ rowsB) (ha : a ∈ odds bs) (hb : b ∈ bads bs) (hc : c ∈ manys) : (evSs (o 60) lawT (tr s x2 x3 (some (.p (MOf bs))) x5 x6 x7 x8 x10 x11 a b c) G).res [] = .ok (.p (.bl true)) [] := by
  have d := due_ev hbs ha hb hc
  simp only [TRs, itm] at d
  have ar23 : (o 60).ar 23 = 1 := ar 23 c23 rfl
  unfold lawT
  have m1 : ∀ (l : Nat) (cs : List DL.P) (x : DL.P), mkTup [D.lam l cs, .p x] = .tup [.lam l cs, .p x] := fun _ _ _ => rfl
  have m2 : ∀ x y : DL.P, mkTup [D.p x, .p y] = .p (.tup [x, y]) := fun _ _ => rfl
  have m3 : ∀ x y z : DL.P, mkTup [D.p x, .p y, .p z] = .p (.tup [x, y, z]) := fun _ _ _ => rfl
  have m4 : ∀ x y : List D, mkLst [D.tup x, .tup y] = .lst [.tup x, .tup y] := fun _ _ => rfl
  have b1 : ∀ (G : Sto) (p q r t : List D), binD .Add G (.lst [.tup p, .tup q]) (.lst [.tup r, .tup t]) = some (.lst [.tup p, .tup q, .tup r, .tup t]) := fun _ _ _ _ _ => rfl
  have b2 : ∀ (G : Sto) (p q r t u v : List D), binD .Add G (.lst [.tup p, .tup q, .tup r, .tup t]) (.lst [.tup u, .tup v]) = some (.lst [.tup p, .tup q, .tup r, .tup t, .tup u, .tup v]) := fun _ _ _ _ _ _ _ => rfl
  simp [capD, m1, m2, m3, m4, b1, b2, resAs, resA, noRef, noRefs, ar23, d, SR.res]

theorem ar33 {n : Nat} : (o n).ar 33 = 2 := ar 33 c33 rfl
theorem ar17 {n : Nat} : (o n).ar 17 = 1 := ar 17 c17 rfl
theorem bad_ev {n : Nat} {bs : List Bool} {b : Int} {R G : Sto} (h : Pn b R G) (hb : b < 900) : ∃ x G', x ∈ bads bs ∧ (o (n + 3)).fn 33 [.ref 0, .p (.lst (Lp bs))] G = .ok (.p x) G' ∧ Pn (b + 1) R G' := by
  obtain ⟨x, G', hx, e, p⟩ := pick (n := n) (xs := bads bs) h (by omega) (by simp [bads]) (by simp [bads])
  refine ⟨x, G', hx, ?_, p⟩
  have ml : mulOk 2 ((Lp bs).length : Int) = true := pmul_ok (by decide) (by
    have : (Lp bs).length ≤ 3 := by unfold Lp; simp; omega
    omega)
  obtain ⟨w, hw⟩ : ∃ w : Int, w = 2 * ((Lp bs).length : Int) := ⟨_, rfl⟩
  simp only [bads, ← hw] at e
  rw [fn_at (F := c33) rfl, x_fn, c33]
  simp [ar19, ml, ← hw, mkTup, mkLst, e]
theorem laps {n : Nat} {s : List Int} : ∀ (ds : List D) (b : Int) (bs : List Bool) (x2 x5 x6 x7 x8 x10 x11 : Option D) (R G : Sto), bs ∈ rowsB → Pn b R G → b + 50 * ds.length < 400 → ∃ bs' y2 y5 y6 y7 y8 y10 y11 R' G', bs' ∈ rowsB ∧ forL (.v 2) (evSs (o (n + 7)) tA) ds (lr s x2 (some (.p (.lst (Lp bs)))) (some (.p (MOf bs))) x5 x6 x7 x8 x10 x11) G = .nx (lr s y2 (some (.p (.lst (Lp bs')))) (some (.p (MOf bs'))) y5 y6 y7 y8 y10 y11) G' ∧ Pn (b + 50 * ds.length) R' G'
  | [], b, bs, x2, x5, x6, x7, x8, x10, x11, R, G, hbs, h, hk => ⟨bs, x2, x5, x6, x7, x8, x10, x11, R, G, hbs, by simp, by simpa using h⟩
  | d :: ds, b, bs, x2, x5, x6, x7, x8, x10, x11, R, G, hbs, h, hk => by
    simp only [List.length_cons] at hk
    obtain ⟨bs1, y5, y6, y7, y8, y10, y11, R1, G1, hbs1, e, p⟩ := lap_A (n := n) (s := s) (x2 := some d) (x3 := some (.p (.lst (Lp bs)))) (x4 := some (.p (MOf bs))) (x5 := x5) (x6 := x6) (x7 := x7) (x8 := x8) (x10 := x10) (x11 := x11) h (by omega)
    obtain ⟨bs2, z2, z5, z6, z7, z8, z10, z11, R2, G2, hbs2, e', p'⟩ := laps (n := n) (s := s) ds (b + 50) bs1 (some d) y5 y6 y7 y8 y10 y11 R1 G1 hbs1 p (by omega)
    refine ⟨bs2, z2, z5, z6, z7, z8, z10, z11, R2, G2, hbs2, ?_, p'.mono (by simp only [List.length_cons]; omega)⟩
    rw [forL_cons]
    have bb : bindP (.v 2) d (lr s x2 (some (.p (.lst (Lp bs)))) (some (.p (MOf bs))) x5 x6 x7 x8 x10 x11) = some (lr s (some d) (some (.p (.lst (Lp bs)))) (some (.p (MOf bs))) x5 x6 x7 x8 x10 x11) := rfl
    simp only [bb, e, e']
theorem all_laps {n : Nat} {s : List Int} {R G : Sto} (h : Pn 0 R G) : ∃ bs y2 y5 y6 y7 y8 y10 y11 R' G', bs ∈ rowsB ∧ forL (.v 2) (evSs (o (n + 7)) tA) (rangeI 0 3) (lr s none none none none none none none none none) G = .nx (lr s y2 (some (.p (.lst (Lp bs)))) (some (.p (MOf bs))) y5 y6 y7 y8 y10 y11) G' ∧ Pn 150 R' G' := by
  obtain ⟨bs1, y5, y6, y7, y8, y10, y11, R1, G1, hbs1, e, p⟩ := lap_A (n := n) (s := s) (x2 := some (.p (.int 0))) (x3 := none) (x4 := none) (x5 := none) (x6 := none) (x7 := none) (x8 := none) (x10 := none) (x11 := none) h (by omega)
  obtain ⟨bs2, z2, z5, z6, z7, z8, z10, z11, R2, G2, hbs2, e', p'⟩ := laps (n := n) (s := s) [.p (.int 1), .p (.int 2)] (0 + 50) bs1 (some (.p (.int 0))) y5 y6 y7 y8 y10 y11 R1 G1 hbs1 p (by decide)
  refine ⟨bs2, z2, z5, z6, z7, z8, z10, z11, R2, G2, hbs2, ?_, p'.mono (by decide)⟩
  have er : rangeI 0 3 = [.p (.int 0), .p (.int 1), .p (.int 2)] := rfl
  have bb : bindP (.v 2) (.p (.int 0)) (lr s none none none none none none none none none) = some (lr s (some (.p (.int 0))) none none none none none none none none) := rfl
  rw [er, forL_cons]
  simp only [bb, e, e']
theorem pure_law (ns : List Int) : ∃ G, S.run 60 ns = .ok (.p (.bl true)) G := by
  obtain ⟨f, e0, p0⟩ := pen (n := 59) (ns := ns)
  obtain ⟨bs, y2, y5, y6, y7, y8, y10, y11, R1, G1, hbs, e1, p1⟩ := all_laps (n := 53) (s := ns) p0
  obtain ⟨a, G2, ha, e2, p2⟩ := pick (n := 58) (xs := odds bs) p1 (by omega) (by simp [odds]) (by simp [odds])
  obtain ⟨b, G3, hb, e3, p3⟩ := bad_ev (n := 57) (bs := bs) p2 (by omega)
  obtain ⟨c, G4, hc, e4, p4⟩ := pick (n := 58) (xs := manys) p3 (by omega) (by decide) (by decide)
  have t := tail_ev (s := ns) (x2 := y2) (x3 := some (.p (.lst (Lp bs)))) (x5 := y5) (x6 := y6) (x7 := y7) (x8 := y8) (x10 := y10) (x11 := y11) (G := G4) hbs ha hb hc
  refine ⟨[], ?_⟩
  show fnS cl.N.length (evSs (o 60) cl.body) [.scr ns] [] = _
  rw [body_eq, x_fn]
  have r3 : okRng 3 = true := by decide
  have st : start0 cl.N.length [.scr ns] = ⟨[some (.scr ns), none, none, none, none, none, none, none, none, none, none, none, none, none, none, none, none], []⟩ := rfl
  rw [st]
  unfold lawB
  have en : evSs (o 60) (.cons (.asg (.v 1) (.call 17 1 (.cons (.var 0) .nil))) (.cons (.for_ (.v 2) (.range1 (.lit (.int 3))) tA) (.cons (.asg (.t [(.v 13), (.v 14)]) (.tup (.cons (.call 19 1 (.cons (.var 1) (.cons (.lst false (.cons (.lit .non) (.cons (.lit (.int 5)) (.cons (.var 3) .nil)))) .nil))) (.cons (.call 33 1 (.cons (.var 1) (.cons (.var 3) .nil))) .nil)))) (.cons (.asg (.v 15) (.call 19 1 (.cons (.var 1) (.cons (.lst false (.cons (.lit .non) (.cons (.neg (.lit (.int 1))) (.cons (.lit (.int 4)) (.cons (.lit (.bl true)) (.cons (.lit (.str "1")) (.cons (.tup (.cons (.lit (.int 1)) (.cons (.lit (.int 1)) .nil))) .nil))))))) .nil)))) lawT)))) ⟨[some (.scr ns), none, none, none, none, none, none, none, none, none, none, none, none, none, none, none, none], []⟩ [] = evSs (o 60) lawT (tr ns y2 (some (.p (.lst (Lp bs)))) (some (.p (MOf bs))) y5 y6 y7 y8 y10 y11 a b c) G4 := by
    simp only [odds, manys] at e2 e4
    have e0' : (o 60).fn 17 [.scr ns] [] = .ok (.ref 0) [penS ns 0 0 0 f] := e0
    have us : ∀ G : Sto, unD .USub G (.p (.int 1)) = some (.p (.int (-1))) := fun _ => rfl
    simp [ar17, ar19, ar33, e0', e1, e2, e3, e4, r3, mkLst, mkTup]
  rw [en]
  exact t

end K12

set_option Elab.async false
set_option linter.all false
set_option maxRecDepth 100000
set_option maxHeartbeats 0
namespace K12
open PySem DL
theorem run (w : World) : HandSHeadRun.RunEqI R (PySem.W.view R.prog [lawAt]) hk ob 6000 loose w := by
  unfold HandSHeadRun.RunEqI
  kernel_rfl
end K12
open PySem PySem.W PySem.Calls PyProof.Rows
theorem PySem.Challenge.cw_freesigns_k12_words_and_turned_holds : PySem.Challenge.rw_freesigns_k12_words_and_turned.Holds := by
  w_on; o_law
  refine HandSHeadRun.head_imp (r := OpenLaw.row PySem.Challenge.rw_freesigns_k12_words_and_turned) (q := view (OpenLaw.row PySem.Challenge.rw_freesigns_k12_words_and_turned).prog [K12.lawAt]) (H := K12.hk) (ob := K12.ob) (M := 6000) (loose := K12.loose) (d := HandSHeadRun.topDef (OpenLaw.row PySem.Challenge.rw_freesigns_k12_words_and_turned).prog K12.lawAt) (kwd := []) K12.ob_eq
    K12.run (by kernel_rfl) (by kernel_rfl) (by rfl) (by first | assumption | decide +kernel) (by decide +kernel) (by decide +kernel) ⟨rfl, rfl, rfl, rfl, rfl, by decide +kernel⟩ ?hw ?hc
  case hw => w_witness2
  case hc =>
    refine DL.walk_G (l := PySem.Challenge.rw_freesigns_k12_words_and_turned) (n := 63) (k := 3 * 60 + 3) rfl (by decide) (by kernel_rfl) ⟨rfl, by decide, by decide⟩ ?F
    intro w mg fa h Y G hmg
    obtain ⟨K, KX, c⟩ := Y
    exact ⟨K, KX, DL.law_of (S := K12.S) (n := 60) K12.tx rfl KX G (by
      have e : (HandSHeadRun.topDef (OpenLaw.row PySem.Challenge.rw_freesigns_k12_words_and_turned).prog K12.lawAt).name = K12.S.law.1.name := by kernel_rfl
      rw [← e]
      exact hmg) c fun ns _ _ => K12.pure_law ns⟩

